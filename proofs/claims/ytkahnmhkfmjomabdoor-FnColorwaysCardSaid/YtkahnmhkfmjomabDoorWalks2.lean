/-
 Each Go function computes its Lean function (part 2).
-/
import Derived.Test.YtkahnmhkfmjomabDoorWalks1
namespace Go.Proofs.YtkahnmhkfmjomabDoor
open Go Go.RowKit Go.Proofs
set_option maxRecDepth 100000

theorem c_spec_FirstUse (w : World) (a_b : GBlock) (v0a : Hd) (r0 : rdF w (dm w []) (sl v0a) a_b.Cells) {r : List Int} (t0 : spec_FirstUse a_b = some r) : Calls Tryd.prog 55 #[.agg #[.int .i64 a_b.Size, (sl v0a)]] w fun e w' => ∃ x : Hd, e = .returned ((sl x)) ∧ SH w [] [ownF (sl x) r] w' := by
 refine cwc (args := [_]) Tryd.func55 R Tryd.ntmps55 R ?_
 unfold spec_FirstUse at t0
 refine wcr (wle (eo_box R R) R fun b1 => (asg R R (wnt (wcs (wcr (wlq (v := .agg #[iv a_b.Size, (sl v0a)]) (plb tk_26 pz R R R) R (bdO t0 fun v1 hv1 t0 => (wlc (cz0 fa_15 R fun w hw => c_spec_BlockOk w a_b v0a (ra r0 hw) hv1) R fun _ => (wlq (po_not R) R (wnt (wcO t0 R (fun h1 t0 => ?_) fun h1 t0 => ?_)))))))))))
 refine wcr (wle (ebs R sb_29_0) R fun b2 => (asg R R (wnt (wct (wqr ?_)))))
 obtain rfl := oi t0
 exact wq1 R R fun w hw => ⟨(⟨some ⟨b2, 0, none⟩, 0, 0⟩ : Hd), R, hw.weak (zc (pbo pz (n := 0) (xs := ([] : List Int)) R R (by unfold maxLen; omega)) zn)⟩
 refine wck (wqt (wcr (wle (ebs R sb_29_0) R fun b3 => (asg R R (wnt (wcs (wcr (asg R R (wnt (lpO_inv t0 fun y1 l1 t0 => (wj (J := List Int) (X := Hd) (fun z => y1 = z) (fun _ x => [(1, ptr b1 0), (3, (sl x))]) (fun z x => [box b1 [iv a_b.Size, (sl v0a)], ownF (sl x) z]) ?_ ?_)))))))))))
 refine wcb (wcf (X := Hd) l1 (fun k1 s1 x1l => [(1, ptr b1 0), (3, (sl x1l)), (4, iv ((k1 : Nat) : Int))]) (fun k1 s1 x1l => [box b1 [iv a_b.Size, (sl v0a)], ownF (sl x1l) s1]) (⟨some ⟨b3, 0, none⟩, 0, 0⟩ : Hd) (su3 R R R) (zc pk1 (zc (pbo pz (n := 0) (xs := ([] : List Int)) R R (by unfold maxLen; omega)) zn)) fun k1 s1 x1l hN1 l1 => ?_)
 by_cases hk1 : k1 < 6
 refine fos l1 hk1 fun _ t1 l1 => ?_
 unfold spec_FirstUse_L1 at t1
 have c1 : (decide (((k1 : Nat) : Int) < 6)) = true := ddt (by omega)
 refine wcs (wcr (mv R R (wlq (pls R R) R (wnt (wft R c1 (wck (wqt (wcs (wcb (wcg (mv R R (wle (ebs R (sb_29_1 (-1))) R fun b4 => (gdO t1 fun g1 t1 => (wle (eo_append (xs := s1) (ys := ([(-1)] : List Int)) ak_29 pk2 R R (slin_rd fun _ g => Rg.on (rgo (pbo pz (n := 1) (xs := ([(-1)] : List Int)) R R (by unfold maxLen; omega))) g) g1) R fun x2 => ?_))))))))))))))
 refine asg R R (wln (wqb (wqt (wcg (mv R R (wlq (po_inc R R (by omega)) R ?_))))))
 exact asg R R (wln (wq_rnd hk1 (stpN l1 t1) x2 (su3 R R R) (zc pk2 so1)))
 have c1 : (decide (((k1 : Nat) : Int) < 6)) = false := ddf (by omega)
 have en1 := foe l1 hk1
 exact wcs (wcr (mv R R (wlq (pls R R) R (wnt (wff R c1 (wcx (wqe (wqe (wbx (wjm _ x1l (Sum.inl.inj en1) (su2 R R) so2))))))))))
 intro e1 x1 hp
 obtain rfl : e1 = y1 := hp.symm
 refine wqt (wcr (asg R R (wnt (wcs (wcr (asg R R (wnt (gdO t0 fun g2 t0 => (lpO_inv t0 fun y1 l1 t0 => (wj (J := (List Int) × Int) (X := Unit) (fun z => y1 = z) (fun z _ => [(3, (sl x1)), (5, iv z.2)]) (fun z _ => [ownF (sl x1) z.1]) ?_ ?_))))))))))
 refine wcb (wcf (X := Unit) l1 (fun k2 s2 x2l => [(1, ptr b1 0), (3, (sl x1)), (5, iv s2.2), (6, iv ((k2 : Nat) : Int))]) (fun k2 s2 x2l => [box b1 [iv a_b.Size, (sl v0a)], ownF (sl x1) s2.1]) () (su4 R R R R) so2 fun k2 s2 x2l hN2 l1 => ?_)
 by_cases hk2 : k2 < ((wr (2 * ((a_b.Cells.length : Nat) : Int)))).toNat
 refine fos l1 hk2 fun _ t1 l1 => ?_
 unfold spec_FirstUse_L2 at t1
 have c2 : (decide (((k2 : Nat) : Int) < (wr (2 * ((a_b.Cells.length : Nat) : Int))))) = true := ddt (by omega)
 refine wcs (wcr (mv R R (wlq (pof fo_26_1 R) R (wlq (v := (sl v0a)) (plx tk_24 pz R R) R (wlq (pln (rga r0) el_24 R) R (wlq (po_mul R R) R (wlq (pls R R) R (wnt (wft R c2 (wck (wqt (wcs (wcb (wcr (wlq (pof fo_26_1 R) R (wlq (v := (sl v0a)) (plx tk_24 pz R R) R (mv R R (wlq (po_quo R R (by decide)) R ?_))))))))))))))))))
 refine gdO t1 fun g3 t1 => wlq (po_ixr (rga r0) el_24 R R g3.1 g3.2) R (wlq (po_sfldr (rga r0) (ix_lt g3) fo_41_1 R) R (wlq (v := iv ((gx a_b.Cells (((wr (((k2 : Nat) : Int).tdiv 2))).toNat)).A)) (po_ldf (rga r0) tk_3 R (ix_lt g3) R) R (asg R R (wnt (wcs (wcr (mv R R (wlq (po_rem R R (by decide)) R ?_))))))))
 refine wlq (pol R R) R (wnt (wcj (X := Unit) (fun _ => True) (fun _ => [(1, ptr b1 0), (3, (sl x1)), (5, iv s2.2), (6, iv ((k2 : Nat) : Int)), (7, iv (bif ((((k2 : Nat) : Int).tmod 2) == 1) then (gx a_b.Cells (((wr (((k2 : Nat) : Int).tdiv 2))).toNat)).B else (gx a_b.Cells (((wr (((k2 : Nat) : Int).tdiv 2))).toNat)).A))]) (fun _ => [box b1 [iv a_b.Size, (sl v0a)], ownF (sl x1) s2.1]) ?_ ?_))
 refine wc_cond R (fun h2 => ?_) fun h2 => ?_
 refine wcg (wlq (pof fo_26_1 R) R (wlq (v := (sl v0a)) (plx tk_24 pz R R) R (mv R R (wlq (po_quo R R (by decide)) R ?_))))
 exact wlq (po_ixr (rga r0) el_24 R R g3.1 g3.2) R (wlq (po_sfldr (rga r0) (ix_lt g3) fo_41_2 R) R (wlq (v := iv ((gx a_b.Cells (((wr (((k2 : Nat) : Int).tdiv 2))).toNat)).B)) (po_ldf (rga r0) tk_3 R (ix_lt g3) R) R (asg R R (wln (wqm () trivial (yc R (yc R (yc R (yc R (sub_i R (by simp only [h2, cond_true]) yn))))) so2)))))
 exact wck (wqm () trivial (yc R (yc R (yc R (yc R (sub_i R (by simp only [h2, cond_false]) yn))))) so2)
 intro _ _
 refine wqt (wcr (mv R R (mv R R (gdO t1 fun g4 t1 => (wlq (po_ixr (rgo pk1) el_29 R R g4.1 g4.2) R (wlq (v := iv (gx s2.1 (((bif ((((k2 : Nat) : Int).tmod 2) == 1) then (gx a_b.Cells (((wr (((k2 : Nat) : Int).tdiv 2))).toNat)).B else (gx a_b.Cells (((wr (((k2 : Nat) : Int).tdiv 2))).toNat)).A)).toNat))) (po_ldf (rgo pk1) tk_3 R (ix_lt g4) R) R (wlq (pls R R) R (wnt (wcj (X := Unit) (fun _ => True) (fun _ => [(1, ptr b1 0), (3, (sl x1)), (5, iv (bif (decide ((gx s2.1 (((bif ((((k2 : Nat) : Int).tmod 2) == 1) then (gx a_b.Cells (((wr (((k2 : Nat) : Int).tdiv 2))).toNat)).B else (gx a_b.Cells (((wr (((k2 : Nat) : Int).tdiv 2))).toNat)).A)).toNat)) < 0)) then (wr (s2.2 + 1)) else s2.2)), (6, iv ((k2 : Nat) : Int))]) (fun _ => [box b1 [iv a_b.Size, (sl v0a)], ownF (sl x1) (bif (decide ((gx s2.1 (((bif ((((k2 : Nat) : Int).tmod 2) == 1) then (gx a_b.Cells (((wr (((k2 : Nat) : Int).tdiv 2))).toNat)).B else (gx a_b.Cells (((wr (((k2 : Nat) : Int).tdiv 2))).toNat)).A)).toNat)) < 0)) then (s2.1.set (((bif ((((k2 : Nat) : Int).tmod 2) == 1) then (gx a_b.Cells (((wr (((k2 : Nat) : Int).tdiv 2))).toNat)).B else (gx a_b.Cells (((wr (((k2 : Nat) : Int).tdiv 2))).toNat)).A)).toNat) s2.2) else s2.1)]) ?_ ?_)))))))))
 refine wc_cond R (fun h3 => ?_) fun h3 => ?_
 exact wcr (mv R R (mv R R (mv R R (wlq (po_ixr (rgo pk1) el_29 R R g4.1 g4.2) R (wls (so_own (x' := s2.2) tk_3 pk1 R R R R R R (ix_lt g4) R) (wnt (wcg (mv R R (wlq (po_add R R) R (asg R R (wln (wqm () trivial (yc R (yc R (sub_i R (by simp only [h3, cond_true]) (su1 R)))) (zc pk1 (zc (by simp only [h3, cond_true]; exact pz) zn))))))))))))))
 exact wck (wqm () trivial (yc R (yc R (sub_i R (by simp only [h3, cond_false]) (su1 R)))) (zc pz (zc (by simp only [h3, cond_false]; exact pz) zn)))
 intro _ _
 refine wqb (wqt (wcg (mv R R (wlq (po_inc R R (by omega)) R ?_))))
 exact asg R R (wln (wq_rnd hk2 (stpN l1 t1) () (su4 R R R R) so2))
 have c2 : (decide (((k2 : Nat) : Int) < (wr (2 * ((a_b.Cells.length : Nat) : Int))))) = false := ddf (by omega)
 have en2 := foe l1 hk2
 exact wcs (wcr (mv R R (wlq (pof fo_26_1 R) R (wlq (v := (sl v0a)) (plx tk_24 pz R R) R (wlq (pln (rga r0) el_24 R) R (wlq (po_mul R R) R (wlq (pls R R) R (wnt (wff R c2 (wcx (wqe (wqe (wbx (wjm _ () (Sum.inl.inj en2) (su2 R R) (zc pk1 zn)))))))))))))))
 intro e2 _ hp
 obtain rfl : e2 = y1 := hp.symm
 refine wqt (wcs (wcr (asg R R (wnt (lpO_inv t0 fun y1 l1 t0 => (wj (J := (List Int) × Int) (X := Unit) (fun z => y1 = z) (fun _ _ => [(3, (sl x1))]) (fun z _ => [ownF (sl x1) z.1]) ?_ ?_))))))
 refine wcb (wcf (X := Unit) l1 (fun k3 s3 x3l => [(3, (sl x1)), (5, iv s3.2), (8, iv ((k3 : Nat) : Int))]) (fun k3 s3 x3l => [ownF (sl x1) s3.1]) () (su3 R R R) so1 fun k3 s3 x3l hN3 l1 => ?_)
 by_cases hk3 : k3 < 6
 refine fos l1 hk3 fun _ t1 l1 => ?_
 unfold spec_FirstUse_L3 at t1
 have c3 : (decide (((k3 : Nat) : Int) < 6)) = true := ddt (by omega)
 refine wcs (wcr (mv R R (wlq (pls R R) R (wnt (wft R c3 (wck (wqt (wcs (wcb (wcr (mv R R (mv R R (gdO t1 fun g5 t1 => (wlq (po_ixn (k := k3) (rgo pz) el_29 R R g5) R (wlq (v := iv (gx s3.1 k3)) (po_ldf (rgo pz) tk_3 R g5 R) R (wlq (pls R R) R (wnt (wcj (X := Unit) (fun _ => True) (fun _ => [(3, (sl x1)), (5, iv (bif (decide ((gx s3.1 k3) < 0)) then (wr (s3.2 + 1)) else s3.2)), (8, iv ((k3 : Nat) : Int))]) (fun _ => [ownF (sl x1) (bif (decide ((gx s3.1 k3) < 0)) then (s3.1.set k3 s3.2) else s3.1)]) ?_ ?_))))))))))))))))))
 refine wc_cond R (fun h4 => ?_) fun h4 => ?_
 exact wcr (mv R R (mv R R (mv R R (wlq (po_ixn (k := k3) (rgo pz) el_29 R R g5) R (wls (so_own (x' := s3.2) tk_3 pz R R R R R R g5 R) (wnt (wcg (mv R R (wlq (po_add R R) R (asg R R (wln (wqm () trivial (yc R (sub_i R (by simp only [h4, cond_true]) (su1 R))) (zc (by simp only [h4, cond_true]; exact pz) zn)))))))))))))
 exact wck (wqm () trivial (yc R (sub_i R (by simp only [h4, cond_false]) (su1 R))) (zc (by simp only [h4, cond_false]; exact pz) zn))
 intro _ _
 refine wqb (wqt (wcg (mv R R (wlq (po_inc R R (by omega)) R ?_))))
 exact asg R R (wln (wq_rnd hk3 (stpN l1 t1) () (su3 R R R) so1))
 have c3 : (decide (((k3 : Nat) : Int) < 6)) = false := ddf (by omega)
 have en3 := foe l1 hk3
 exact wcs (wcr (mv R R (wlq (pls R R) R (wnt (wff R c3 (wcx (wqe (wqe (wbx (wjm _ () (Sum.inl.inj en3) (su1 R) so1))))))))))
 intro e3 _ hp
 obtain rfl : e3 = y1 := hp.symm
 refine wqt (wcr (mv R R (asg R R (wnt (wct ?_)))))
 obtain rfl := oi t0
 exact wq1 R R fun w hw => ⟨x1, R, hw.weak so1⟩

theorem c_spec_ListOk (w : World) (a_l : List Int) (v0a : Hd) (r0 : rdF w (dm w []) (sl v0a) a_l) {r : Bool} (t0 : spec_ListOk a_l = some r) : Calls Tryd.prog 70 #[(sl v0a)] w fun e w' => e = .returned (.bool r) ∧ SH w [] [] w' := by
 refine cwc (args := [_]) Tryd.func70 R Tryd.ntmps70 R ?_
 unfold spec_ListOk at t0
 refine wcr (asg R R (wnt (wcs (wcr (asg R R (wnt (gdO t0 fun g1 t0 => (sqO t0 fun y1 l1 t0 => (wj (J := Unit) (X := Unit) (fun z => y1 = .inl z) (fun _ _ => [(0, (sl v0a))]) (fun _ _ => []) ?_ ?_)))))))))
 refine wcb (wcf (X := Unit) l1 (fun k1 s1 x1l => [(0, (sl v0a)), (3, iv ((k1 : Nat) : Int))]) (fun k1 s1 x1l => []) () (su2 R R) zn fun k1 s1 x1l hN1 l1 => ?_)
 by_cases hk1 : k1 < a_l.length
 refine fos l1 hk1 fun _ t1 l1 => ?_
 unfold spec_ListOk_L1 at t1
 have c1 : (decide (((k1 : Nat) : Int) < ((a_l.length : Nat) : Int))) = true := ddt (by omega)
 refine wcs (wcr (mv R R (mv R R (wlq (pln (rga r0) el_29 R) R (wlq (pls R R) R (wnt (wft R c1 (wck (wqt (wcs (wcb (wcr (mv R R (mv R R (wlq (po_ixn (k := k1) (rga r0) el_29 R R hk1) R (wlq (v := iv (gx a_l k1)) (po_ldf (rga r0) tk_3 R hk1 R) R (bdO t1 fun v1 hv1 t1 => (wlc (cz0 fa_33 R fun w hw => c_spec_l01In w (gx a_l k1) 0 5 hv1) R fun _ => (wlq (po_not R) R (wnt (wcO t1 R (fun h1 t1 => ?_) fun h1 t1 => ?_)))))))))))))))))))))
 refine wcr (asg R R (wnt (wct (wbr (wqr (wqr (wbr (wqr (wqr ?_)))))))))
 replace t0 := lpR t0 l1 t1
 obtain rfl := oi t0
 exact wq1 R R fun w hw => ⟨R, hw.weak zn⟩
 refine wck (wqb (wqt (wcg (mv R R (wlq (po_inc R R (by omega)) R ?_)))))
 exact asg R R (wln (wq_rnd hk1 (stpN l1 t1) () (su2 R R) zn))
 have c1 : (decide (((k1 : Nat) : Int) < ((a_l.length : Nat) : Int))) = false := ddf (by omega)
 have en1 := foe l1 hk1
 exact wcs (wcr (mv R R (mv R R (wlq (pln (rga r0) el_29 R) R (wlq (pls R R) R (wnt (wff R c1 (wcx (wqe (wqe (wbx (wjm _ () en1 (su1 R) zn))))))))))))
 intro e1 _ hp
 replace t0 := sqE (j := e1) t0 hp
 refine wqt (wcr (mv R R (wlq (pln (rga r0) el_29 R) R (wlq (pol R R) R (asg R R (wnt (wct ?_)))))))
 obtain rfl := oi t0
 exact wq1 R R fun w hw => ⟨R, hw.weak zn⟩

theorem c_spec_l03Copy (w : World) (a_b : GBlock) (v0a : Hd) (r0 : rdF w (dm w []) (sl v0a) a_b.Cells) {r : GBlock} (t0 : spec_l03Copy a_b = some r) : Calls Tryd.prog 56 #[.agg #[.int .i64 a_b.Size, (sl v0a)]] w fun e w' => ∃ x : Hd, e = .returned (.agg #[.int .i64 r.Size, (sl x)]) ∧ SH w [] [ownF (sl x) r.Cells] w' := by
 refine cwc (args := [_]) Tryd.func56 R Tryd.ntmps56 R ?_
 unfold spec_l03Copy at t0
 refine wcr (wle (eo_box R R) R fun b1 => (wle (eal (cs := [iv 0, (sl hn)]) za_26) R fun b2 => (wnt (wcs (wcd [box b2 [iv 0, (sl hn)], box b1 [iv a_b.Size, (sl v0a)]] 7 mixed (aq 0 R (pof fo_26_0 R) so2 R (aq (v := iv a_b.Size) 1 R (plx tk_3 pk1 R R) so2 R (aq 3 R (pof fo_26_1 R) so2 R (aq (v := (sl v0a)) 4 R (plx tk_24 pk1 R R) so2 R (a1 2 (wse R (ebs R sb_24_0) (fun _ => (zt (zc pk1 (zc pk1 zn)))) R fun b3 => (a1 5 (gdO t0 fun g1 t0 => (wse R (eo_append (xs := ([] : List GCell)) (ys := a_b.Cells) ak_24 (pbo pz (n := 0) (xs := ([] : List GCell)) R R (by unfold maxLen; omega)) R R (slin_rd fun _ g => Rg.on (rga r0) g) g1) (fun _ => (zt (zc pk1 (zc pk1 zn)))) R fun x1 => ?_))))))))))))))
 refine aq 6 R (po_build R (bd_26_0_1 a_b.Size x1)) (zc pk1 (zc pk1 zn)) R (a1 7 (ws_skipop R (sbx (cs' := [iv a_b.Size, (sl x1)]) tk_26 pk1 R R R R R R R) (sts_past (by kernel_rfl)) ?_))
 refine ae (wqt (wct ?_))
 obtain rfl := oi t0
 exact wqc R tk_26 R pz R fun w hw => ⟨x1, R, hw.weak (zc pk1 zn)⟩

theorem c_spec_ExchangeCell (w : World) (a_c : GCell) (a_l : List Int) (v0a : Hd) (r0 : rdF w (dm w []) (sl v0a) a_l) {r : GCell} (t0 : spec_ExchangeCell a_c a_l = some r) : Calls Tryd.prog 71 #[.agg #[.int .i64 a_c.Split, .int .i64 a_c.A, .int .i64 a_c.B], (sl v0a)] w fun e w' => e = .returned (.agg #[.int .i64 r.Split, .int .i64 r.A, .int .i64 r.B]) ∧ SH w [] [] w' := by
 refine cwc (args := [_, _]) Tryd.func71 R Tryd.ntmps71 R ?_
 unfold spec_ExchangeCell at t0
 refine wcr (wle (eo_box R R) R fun b1 => (wle (eal (cs := [iv 0, iv 0, iv 0]) za_41) R fun b2 => (wnt (wcs (wcs (bdO t0 fun y1 t1 t0 => (wj (J := Bool) (X := Unit) (fun z => y1 = z) (fun z _ => [(1, (sl v0a)), (2, ptr b1 0), (4, ptr b2 0), (12, .bool z)]) (fun _ _ => [box b2 [iv 0, iv 0, iv 0], box b1 [iv a_c.Split, iv a_c.A, iv a_c.B]]) ?_ ?_)))))))
 refine wcg (wlq (v := .agg #[iv a_c.Split, iv a_c.A, iv a_c.B]) (plb tk_41 pk1 R R R) R (bdO t1 fun v1 hv1 t1 => (wlc (cz0 fa_34 R fun w hw => c_spec_CellOk w a_c hv1) R fun _ => (wlq (po_not R) R (mv R R (wlo (t := 8) t1 R (fun h1 t1 => ?_) fun h1 t1 => ?_))))))
 exact wgf (j := 3) R R R R R (wgf (j := 3) R R R R R (wgf (j := 3) R R R R R (wlq (pit R R) R (wln (wjm _ () (mtE t1) (su4 R R R R) so2)))))
 exact wgn (j := 3) R R R (mv R R (bdO t1 fun v2 hv2 t1 => (wgn (j := 3) R R R (wlc (cz0 fa_70 R fun w hw => c_spec_ListOk w a_l v0a (ra r0 hw) hv2) R (fun _ => (wgn (j := 3) R R R (wlq (po_not R) R (wlq (pif R R) R (wln (wjm _ () (mtE t1) (su4 R R R R) so2))))))))))
 intro j1 _ hp
 obtain rfl : j1 = y1 := hp.symm
 refine wqt (wcO t0 R (fun h2 t0 => ?_) fun h2 t0 => ?_)
 refine wcr (wlq (po_build R bd_41) R (wls (sbx (cs' := [iv 0, iv 0, iv 0]) tk_41 pz R R R R R R R) (wnt (wct (wqr ?_)))))
 obtain rfl := oi t0
 exact wqc R tk_41 R pz R fun w hw => ⟨R, hw.weak zn⟩
 refine wck (wqt (wcs (wcd [box b2 [iv 0, iv 0, iv 0], box b1 [iv a_c.Split, iv a_c.A, iv a_c.B]] 13 mixed (aq 0 R (pof fo_41_0 R) so2 R (aq (v := iv a_c.Split) 1 R (plx tk_3 pk1 R R) so2 R (aq 2 R (pom R) so2 R (aq 3 R (pof fo_41_1 R) so2 R (aq (v := iv a_c.A) 4 R (plx tk_3 pk1 R R) so2 R (gdO t0 fun g1 t0 => (aq 5 R (po_ixr (rga r0) el_29 R R g1.1 g1.2) so2 R (aq (v := iv (gx a_l ((a_c.A).toNat))) 6 R (po_ldf (rga r0) tk_3 R (ix_lt g1) R) so2 R (aq 7 R (pom R) so2 R (aq 8 R (pof fo_41_2 R) so2 R (aq (v := iv a_c.B) 9 R (plx tk_3 pk1 R R) so2 R (gdO t0 fun g2 t0 => (aq 10 R (po_ixr (rga r0) el_29 R R g2.1 g2.2) so2 R (aq (v := iv (gx a_l ((a_c.B).toNat))) 11 R (po_ldf (rga r0) tk_3 R (ix_lt g2) R) so2 R (a1 12 (bdO t0 fun v3 hv3 t0 => (wsc R (cz0 fa_50 R fun w hw => c_spec_SplitCell w a_c.Split (gx a_l ((a_c.A).toNat)) (gx a_l ((a_c.B).toNat)) hv3) (fun _ => (zt so2)) R fun _ => (a1 13 (ws_skipop R (sbx (cs' := [iv v3.Split, iv v3.A, iv v3.B]) tk_41 pz R R R R R R R) (sts_past (by kernel_rfl)) ?_))))))))))))))))))))))
 refine ae (wqt (wct ?_))
 obtain rfl := oi t0
 exact wqc R tk_41 R pz R fun w hw => ⟨R, hw.weak zn⟩

theorem c_spec_ExchangeBlock (w : World) (a_b : GBlock) (v0a : Hd) (r0 : rdF w (dm w []) (sl v0a) a_b.Cells) (a_l : List Int) (v1a : Hd) (r1 : rdF w (dm w []) (sl v1a) a_l) {r : GBlock × Bool} (t0 : spec_ExchangeBlock a_b a_l = some r) : Calls Tryd.prog 54 #[.agg #[.int .i64 a_b.Size, (sl v0a)], (sl v1a)] w fun e w' => ∃ x : Hd, e = .returned (.tuple #[.agg #[.int .i64 r.1.Size, (sl x)], .bool r.2]) ∧ SH w [] [ownF (sl x) r.1.Cells] w' := by
 refine cwc (args := [_, _]) Tryd.func54 R Tryd.ntmps54 R ?_
 unfold spec_ExchangeBlock at t0
 refine wcr (wle (eo_box R R) R fun b1 => (wle (eal (cs := [iv 0, (sl hn)]) za_26) R fun b2 => (asg R R (wnt (wcs (wcs (bdO t0 fun y1 t1 t0 => (wj (J := Bool) (X := Unit) (fun z => y1 = z) (fun z _ => [(1, (sl v1a)), (2, ptr b1 0), (4, ptr b2 0), (15, .bool z)]) (fun _ _ => [box b2 [iv 0, (sl hn)], box b1 [iv a_b.Size, (sl v0a)]]) ?_ ?_))))))))
 refine wcg (wlq (v := .agg #[iv a_b.Size, (sl v0a)]) (plb tk_26 pk1 R R R) R (bdO t1 fun v1 hv1 t1 => (wlc (cz0 fa_15 R fun w hw => c_spec_BlockOk w a_b v0a (ra r0 hw) hv1) R fun _ => (wlq (po_not R) R (mv R R (wlo (t := 11) t1 R (fun h1 t1 => ?_) fun h1 t1 => ?_))))))
 exact wgf (j := 3) R R R R R (wgf (j := 3) R R R R R (wgf (j := 3) R R R R R (wlq (pit R R) R (wln (wjm _ () (mtE t1) (su4 R R R R) so2)))))
 exact wgn (j := 3) R R R (mv R R (bdO t1 fun v2 hv2 t1 => (wgn (j := 3) R R R (wlc (cz0 fa_70 R fun w hw => c_spec_ListOk w a_l v1a (ra r1 hw) hv2) R (fun _ => (wgn (j := 3) R R R (wlq (po_not R) R (wlq (pif R R) R (wln (wjm _ () (mtE t1) (su4 R R R R) so2))))))))))
 intro j1 _ hp
 obtain rfl : j1 = y1 := hp.symm
 refine wqt (wcO t0 R (fun h2 t0 => ?_) fun h2 t0 => ?_)
 refine wcr (wlq (v := .agg #[iv a_b.Size, (sl v0a)]) (plb tk_26 pk1 R R R) R (bdO t0 fun v3 hv3 t0 => (wlc (cz1 fa_56 R fun w hw => c_spec_l03Copy w a_b v0a (ra r0 hw) hv3) R fun x2 => (wls (sbx (cs' := [iv v3.Size, (sl x2)]) tk_26 pk1 R R R R R R R) (asg R R (wnt (wct (wqr ?_))))))))
 obtain rfl := oi t0
 exact wq_retc1 R tk_26 R R pz R fun w hw => ⟨x2, R, hw.weak (zc pk1 zn)⟩
 refine wck (wqt (wcr (wlq (pof fo_26_0 R) R (wlq (v := iv a_b.Size) (plx tk_3 pk1 R R) R (wlq (po_build R (bd_26_0 a_b.Size)) R (wle (eal (cs := [iv 0, (sl hn)]) za_26) R fun b3 => (wls (sbx (cs' := [iv a_b.Size, (sl hn)]) tk_26 pz R R R R R R R) (wnt (wcs (wcr (asg R R (wnt (gdO t0 fun g1 t0 => (lpO_inv t0 fun y1 l1 t0 => (wj (J := List GCell) (X := Hd) (fun z => y1 = z) (fun _ _ => [(4, ptr b2 0), (6, ptr b3 0)]) (fun z x => [box b3 [iv a_b.Size, (sl x)], box b2 [iv 0, (sl hn)], ownF (sl x) z]) ?_ ?_)))))))))))))))
 refine wcb (wcf (X := Hd) l1 (fun k1 s1 x1l => [(1, (sl v1a)), (2, ptr b1 0), (4, ptr b2 0), (6, ptr b3 0), (7, iv ((k1 : Nat) : Int))]) (fun k1 s1 x1l => [box b3 [iv a_b.Size, (sl x1l)], box b2 [iv 0, (sl hn)], box b1 [iv a_b.Size, (sl v0a)], ownF (sl x1l) s1]) hn (su5 R R R R R) (zc pz (zc pz (zc pz (zc pick_nil zn)))) fun k1 s1 x1l hN1 l1 => ?_)
 by_cases hk1 : k1 < a_b.Cells.length
 refine fos l1 hk1 fun _ t1 l1 => ?_
 unfold spec_ExchangeBlock_L1 at t1
 have c1 : (decide (((k1 : Nat) : Int) < ((a_b.Cells.length : Nat) : Int))) = true := ddt (by omega)
 refine wcs (wcr (mv R R (wlq (pof fo_26_1 R) R (wlq (v := (sl v0a)) (plx tk_24 pk2 R R) R (wlq (pln (rga r0) el_24 R) R (wlq (pls R R) R (wnt (wft R c1 (wck (wqt (wcs (wcb (wcd [box b3 [iv a_b.Size, (sl x1l)], box b2 [iv 0, (sl hn)], box b1 [iv a_b.Size, (sl v0a)]] 12 mixed (aq 0 R (pof fo_26_1 R) so3 R (aq (v := (sl x1l)) 1 R (plx tk_24 pz R R) so3 R (aq 2 R (pof fo_26_1 R) so3 R (aq (v := (sl v0a)) 3 R (plx tk_24 pk2 R R) so3 R (aq 4 R (pom R) so3 R (aq 5 R (po_ixn (k := k1) (rga r0) el_24 R R hk1) so3 R (aq (v := .agg #[iv ((gx a_b.Cells k1).Split), iv ((gx a_b.Cells k1).A), iv ((gx a_b.Cells k1).B)]) 6 R (po_ldfs (rga r0) tk_41 R hk1 R R R) so3 R (aq 7 R (pom R) so3 R (a1 8 (bdO t1 fun v4 hv4 t1 => (wsc R (cz0 fa_71 R fun w hw => c_spec_ExchangeCell w (gx a_b.Cells k1) a_l v1a (ra r1 hw) hv4) (fun _ => (zt so3)) R fun _ => (a1 9 (wse R (ebs R (sb_24_1 v4.Split v4.A v4.B)) (fun _ => (zt (zc pk1 (zc pk1 (zc pk1 zn))))) R fun b4 => (a1 10 (gdO t1 fun g2 t1 => (wse R (eo_append (xs := s1) (ys := ([v4] : List GCell)) ak_24 pk4 R R (slin_rd fun _ g => Rg.on (rgo (pbo pz (n := 1) (xs := ([v4] : List GCell)) R R (by unfold maxLen; omega))) g) g2) (fun _ => (zt (zc pk2 (zc pk2 (zc pk2 zn))))) R fun x4 => ?_)))))))))))))))))))))))))))))
 refine aq 11 R (pof fo_26_1 R) (zc pk2 (zc pk2 (zc pk2 zn))) R (a1 12 (ws_skipop R (sbx (cs' := [iv a_b.Size, (sl x4)]) tk_24 pk2 R R R R R R R) (sts_past (by kernel_rfl)) ?_))
 refine ae (wqb (wqt (wcg (mv R R (wlq (po_inc R R (by omega)) R ?_)))))
 exact asg R R (wln (wq_rnd hk1 (stpN l1 t1) x4 (su5 R R R R R) (zc pz (zc pk2 (zc pk2 so1)))))
 have c1 : (decide (((k1 : Nat) : Int) < ((a_b.Cells.length : Nat) : Int))) = false := ddf (by omega)
 have en1 := foe l1 hk1
 exact wcs (wcr (mv R R (wlq (pof fo_26_1 R) R (wlq (v := (sl v0a)) (plx tk_24 pk2 R R) R (wlq (pln (rga r0) el_24 R) R (wlq (pls R R) R (wnt (wff R c1 (wcx (wqe (wqe (wbx (wjm _ x1l (Sum.inl.inj en1) (su2 R R) (zc pz (zc pz (zc pk1 zn))))))))))))))))
 intro e1 x3 hp
 obtain rfl : e1 = y1 := hp.symm
 refine wqt (wcr (wlq (v := .agg #[iv a_b.Size, (sl x3)]) (plb tk_26 pz R R R) R (wls (sbx (cs' := [iv a_b.Size, (sl x3)]) tk_26 pk1 R R R R R R R) (asg R R (wnt (wct ?_))))))
 obtain rfl := oi t0
 exact wq_retc1 R tk_26 R R pz R fun w hw => ⟨x3, R, hw.weak (zc pk2 zn)⟩

theorem c_spec_l07Plain (w : World) (a_b : GBlock) (v0a : Hd) (r0 : rdF w (dm w []) (sl v0a) a_b.Cells) {r : GBlock} (t0 : spec_l07Plain a_b = some r) : Calls Tryd.prog 35 #[.agg #[.int .i64 a_b.Size, (sl v0a)]] w fun e w' => ∃ x : Hd, e = .returned (.agg #[.int .i64 r.Size, (sl x)]) ∧ SH w [] [ownF (sl x) r.Cells] w' := by
 refine cwc (args := [_]) Tryd.func35 R Tryd.ntmps35 R ?_
 unfold spec_l07Plain at t0
 refine wcr (wle (eo_box R R) R fun b1 => (wle (eal (cs := [iv 0, (sl hn)]) za_26) R fun b2 => (wnt (wcs (bdO t0 fun v1 hv1 t0 => (bdO t0 fun v2 hv2 t0 => (wcj (X := Nat × Hd) (fun _ => True) (fun z => [(2, ptr b2 0), (3, ptr z.1 0)]) (fun z => [box z.1 [iv v2.1.Size, (sl z.2)], ownF (sl z.2) v2.1.Cells, box b2 [iv 0, (sl hn)]]) ?_ ?_)))))))
 refine wcd [box b2 [iv 0, (sl hn)], box b1 [iv a_b.Size, (sl v0a)]] 10 mixed (aq (v := .agg #[iv a_b.Size, (sl v0a)]) 0 R (plb tk_26 pk1 R R R) so2 R (aq (v := .agg #[iv a_b.Size, (sl v0a)]) 1 R (plb tk_26 pk1 R R R) so2 R (wa_2 (i := 2) (j := 7) (by kernel_rfl) ?_ ?_)))
 refine wsc R (cz1 fa_55 R fun w hw => c_spec_FirstUse w a_b v0a (ra r0 hw) hv1) (fun _ => (zt (zc pk1 (zc pk1 zn)))) R fun x1 => wa_2 (i := 3) (j := 7) (by kernel_rfl) ?_ ?_
 exact wsc R (cz1 fa_54 R fun w hw => c_spec_ExchangeBlock w a_b v0a (ra r0 hw) v1 x1 (Rg.on (rgo pz) hw) hv2) (fun _ => (zt (zc pk2 (zc pk2 zn)))) R fun x2 => aq 4 R (pom R) (zc pk2 (zc pk2 zn)) R (aq 5 R (pex R R) (zc pk2 (zc pk2 zn)) R (aq 6 R (pex R R) (zc pk2 (zc pk2 zn)) R (a1 7 (wse R (eal (cs := [iv 0, (sl hn)]) za_26) (fun _ => (zt (zc pk3 (zc pk3 zn)))) R fun b3 => (a1 8 (ws_skipop R (sbx (cs' := [iv v2.1.Size, (sl x2)]) tk_26 pz R R R R R R R) (zt (zc pk3 (zc pk3 zn))) (aq 9 R (po_assign R) (zc pk3 (zc pk3 zn)) R (ae (wqm (b3, x2) trivial (su2 R R) (zc pz (zc pz (zc pk1 zn))))))))))))
 exact wse R (eal (cs := [iv 0, (sl hn)]) za_26) (fun _ => (zt (zc pk2 (zc pk2 zn)))) R fun b4 => a1 3 (wsc R (cz1 fa_54 R fun w hw => c_spec_ExchangeBlock w a_b v0a (ra r0 hw) v1 x1 (Rg.on (rgo pk1) hw) hv2) (fun _ => (zt (zc pk3 (zc pk3 zn)))) R fun x3 => (aq 4 R (pom R) (zc pk3 (zc pk3 zn)) R (aq 5 R (pex R R) (zc pk3 (zc pk3 zn)) R (aq 6 R (pex R R) (zc pk3 (zc pk3 zn)) R (a1 8 (ws_skipop R (sbx (cs' := [iv v2.1.Size, (sl x3)]) tk_26 pk1 R R R R R R R) (zt (zc pk3 (zc pk3 zn))) (aq 9 R (po_assign R) (zc pk3 (zc pk3 zn)) R (ae (wqm (b4, x3) trivial (su2 R R) (zc pz (zc pz (zc pk1 zn))))))))))))
 exact wse R (eal (cs := [iv 0, (sl hn)]) za_26) (fun _ => (zt (zc pk1 (zc pk1 zn)))) R fun b5 => a1 2 (wsc R (cz1 fa_55 R fun w hw => c_spec_FirstUse w a_b v0a (ra r0 hw) hv1) (fun _ => (zt (zc pk2 (zc pk2 zn)))) R fun x4 => (a1 3 (wsc R (cz1 fa_54 R fun w hw => c_spec_ExchangeBlock w a_b v0a (ra r0 hw) v1 x4 (Rg.on (rgo pz) hw) hv2) (fun _ => (zt (zc pk3 (zc pk3 zn)))) R fun x5 => (aq 4 R (pom R) (zc pk3 (zc pk3 zn)) R (aq 5 R (pex R R) (zc pk3 (zc pk3 zn)) R (aq 6 R (pex R R) (zc pk3 (zc pk3 zn)) R (a1 8 (ws_skipop R (sbx (cs' := [iv v2.1.Size, (sl x5)]) tk_26 pk2 R R R R R R R) (zt (zc pk3 (zc pk3 zn))) (aq 9 R (po_assign R) (zc pk3 (zc pk3 zn)) R (ae (wqm (b5, x5) trivial (su2 R R) (zc pz (zc pz (zc pk1 zn))))))))))))))
 intro x6 _
 refine wqt (wcr (wlq (v := .agg #[iv v2.1.Size, (sl x6.2)]) (plb tk_26 pz R R R) R (wls (sbx (cs' := [iv v2.1.Size, (sl x6.2)]) tk_26 pk2 R R R R R R R) (wnt (wct ?_)))))
 obtain rfl := oi t0
 exact wqc R tk_26 R pz R fun w hw => ⟨x6.2, R, hw.weak (zc pk2 zn)⟩

theorem c_spec_MirrorCell (w : World) (a_c : GCell) {r : GCell} (t0 : spec_MirrorCell a_c = some r) : Calls Tryd.prog 72 #[.agg #[.int .i64 a_c.Split, .int .i64 a_c.A, .int .i64 a_c.B]] w fun e w' => e = .returned (.agg #[.int .i64 r.Split, .int .i64 r.A, .int .i64 r.B]) ∧ SH w [] [] w' := by
 refine cwc (args := [_]) Tryd.func72 R Tryd.ntmps72 R ?_
 unfold spec_MirrorCell at t0
 refine wcr (wle (eo_box R R) R fun b1 => (wle (eal (cs := [iv 0, iv 0, iv 0]) za_41) R fun b2 => (wnt (wcs (wcr (wlq (v := .agg #[iv a_c.Split, iv a_c.A, iv a_c.B]) (plb tk_41 pk1 R R R) R (bdO t0 fun v1 hv1 t0 => (wlc (cz0 fa_34 R fun w hw => c_spec_CellOk w a_c hv1) R fun _ => (wlq (po_not R) R (wnt (wcO t0 R (fun h1 t0 => ?_) fun h1 t0 => ?_)))))))))))
 refine wcr (wlq (po_build R bd_41) R (wls (sbx (cs' := [iv 0, iv 0, iv 0]) tk_41 pz R R R R R R R) (wnt (wct (wqr ?_)))))
 obtain rfl := oi t0
 exact wqc R tk_41 R pz R fun w hw => ⟨R, hw.weak zn⟩
 refine wck (wqt (wcs (wcr (wlq (pof fo_41_0 R) R (wlq (v := iv a_c.Split) (plx tk_3 pk1 R R) R (wlq (pol R R) R (wnt (wcO t0 R (fun h2 t0 => ?_) fun h2 t0 => ?_))))))))
 refine wcr (wlq (v := .agg #[iv a_c.Split, iv a_c.A, iv a_c.B]) (plb tk_41 pk1 R R R) R (wls (sbx (cs' := [iv a_c.Split, iv a_c.A, iv a_c.B]) tk_41 pz R R R R R R R) (wnt (wct (wqr ?_)))))
 obtain rfl := oi t0
 exact wqc R tk_41 R pz R fun w hw => ⟨R, hw.weak zn⟩
 refine wck (wqt (wcr (wlq (pof fo_41_0 R) R (wlq (v := iv a_c.Split) (plx tk_3 pk1 R R) R (wlq (po_sub R R) R (wlq (pof fo_41_2 R) R (wlq (v := iv a_c.B) (plx tk_3 pk1 R R) R (wlq (pof fo_41_1 R) R (wlq (v := iv a_c.A) (plx tk_3 pk1 R R) R (wlq (po_build R (bd_41_0_1_2 (wr (3 - a_c.Split)) a_c.B a_c.A)) R (wls (sbx (cs' := [iv (wr (3 - a_c.Split)), iv a_c.B, iv a_c.A]) tk_41 pz R R R R R R R) (wnt (wct ?_)))))))))))))
 obtain rfl := oi t0
 exact wqc R tk_41 R pz R fun w hw => ⟨R, hw.weak zn⟩

theorem c_spec_MirrorBlock (w : World) (a_b : GBlock) (v0a : Hd) (r0 : rdF w (dm w []) (sl v0a) a_b.Cells) {r : GBlock} (t0 : spec_MirrorBlock a_b = some r) : Calls Tryd.prog 57 #[.agg #[.int .i64 a_b.Size, (sl v0a)]] w fun e w' => ∃ x : Hd, e = .returned (.agg #[.int .i64 r.Size, (sl x)]) ∧ SH w [] [ownF (sl x) r.Cells] w' := by
 refine cwc (args := [_]) Tryd.func57 R Tryd.ntmps57 R ?_
 unfold spec_MirrorBlock at t0
 refine wcr (wle (eo_box R R) R fun b1 => (wle (eal (cs := [iv 0, (sl hn)]) za_26) R fun b2 => (wnt (wcs (wcr (wlq (v := .agg #[iv a_b.Size, (sl v0a)]) (plb tk_26 pk1 R R R) R (bdO t0 fun v1 hv1 t0 => (wlc (cz0 fa_15 R fun w hw => c_spec_BlockOk w a_b v0a (ra r0 hw) hv1) R fun _ => (wlq (po_not R) R (wnt (wcO t0 R (fun h1 t0 => ?_) fun h1 t0 => ?_)))))))))))
 refine wcr (wlq (po_build R bd_26) R (wls (sbx (cs' := [iv 0, (sl hn)]) tk_26 pz R R R R R R R) (wnt (wct (wqr ?_)))))
 obtain rfl := oi t0
 exact wqc R tk_26 R pz R fun w hw => ⟨hn, R, hw.weak (zc pick_nil zn)⟩
 refine wck (wqt (wcr (wlq (pof fo_26_0 R) R (wlq (v := iv a_b.Size) (plx tk_3 pk1 R R) R (wlq (po_build R (bd_26_0 a_b.Size)) R (wle (eal (cs := [iv 0, (sl hn)]) za_26) R fun b3 => (wls (sbx (cs' := [iv a_b.Size, (sl hn)]) tk_26 pz R R R R R R R) (wnt (wcs (wcr (asg R R (wnt (gdO t0 fun g1 t0 => (lpO_inv t0 fun y1 l1 t0 => (wj (J := List GCell) (X := Hd) (fun z => y1 = z) (fun _ _ => [(2, ptr b2 0), (3, ptr b3 0)]) (fun z x => [box b3 [iv a_b.Size, (sl x)], box b2 [iv 0, (sl hn)], ownF (sl x) z]) ?_ ?_)))))))))))))))
 refine wcb (wcf (X := Hd) l1 (fun k1 s1 x1l => [(1, ptr b1 0), (2, ptr b2 0), (3, ptr b3 0), (4, iv ((k1 : Nat) : Int))]) (fun k1 s1 x1l => [box b3 [iv a_b.Size, (sl x1l)], box b2 [iv 0, (sl hn)], box b1 [iv a_b.Size, (sl v0a)], ownF (sl x1l) s1]) hn (su4 R R R R) (zc pz (zc pz (zc pz (zc pick_nil zn)))) fun k1 s1 x1l hN1 l1 => ?_)
 by_cases hk1 : k1 < (a_b.Size).toNat
 refine fos l1 hk1 fun _ t1 l1 => ?_
 unfold spec_MirrorBlock_L1 at t1
 have c1 : (decide (((k1 : Nat) : Int) < a_b.Size)) = true := ddt (by omega)
 refine wcs (wcr (mv R R (wlq (pof fo_26_0 R) R (wlq (v := iv a_b.Size) (plx tk_3 pk2 R R) R (wlq (pls R R) R (wnt (wft R c1 (wck (wqt (wcs (wcb (wcr (asg R R (wnt (lpO_inv t1 fun y2 l2 t1 => (wj (J := List GCell) (X := Hd) (fun z => y2 = z) (fun _ _ => [(1, ptr b1 0), (2, ptr b2 0), (3, ptr b3 0), (4, iv ((k1 : Nat) : Int))]) (fun z x => [box b3 [iv a_b.Size, (sl x)], box b2 [iv 0, (sl hn)], box b1 [iv a_b.Size, (sl v0a)], ownF (sl x) z]) ?_ ?_))))))))))))))))
 refine wcb (wcf (X := Hd) l2 (fun k2 s2 x2l => [(1, ptr b1 0), (2, ptr b2 0), (3, ptr b3 0), (4, iv ((k1 : Nat) : Int)), (5, iv ((k2 : Nat) : Int))]) (fun k2 s2 x2l => [box b3 [iv a_b.Size, (sl x2l)], box b2 [iv 0, (sl hn)], box b1 [iv a_b.Size, (sl v0a)], ownF (sl x2l) s2]) x1l (su5 R R R R R) so4 fun k2 s2 x2l hN2 l2 => ?_)
 by_cases hk2 : k2 < (a_b.Size).toNat
 refine fos l2 hk2 fun _ t2 l2 => ?_
 unfold spec_MirrorBlock_L2 at t2
 have c2 : (decide (((k2 : Nat) : Int) < a_b.Size)) = true := ddt (by omega)
 refine wcs (wcr (mv R R (wlq (pof fo_26_0 R) R (wlq (v := iv a_b.Size) (plx tk_3 pk2 R R) R (wlq (pls R R) R (wnt (wft R c2 (wck (wqt (wcs (wcb (wcd [box b3 [iv a_b.Size, (sl x2l)], box b2 [iv 0, (sl hn)], box b1 [iv a_b.Size, (sl v0a)]] 20 mixed (aq 0 R (pof fo_26_1 R) so3 R (aq (v := (sl x2l)) 1 R (plx tk_24 pz R R) so3 R (aq 2 R (pof fo_26_1 R) so3 R (aq (v := (sl v0a)) 3 R (plx tk_24 pk2 R R) so3 R (aq 4 R (pom R) so3 R (aq 5 R (pof fo_26_0 R) so3 R (aq (v := iv a_b.Size) 6 R (plx tk_3 pk2 R R) so3 R (aq 7 R (po_mul R R) so3 R (aq 8 R (pof fo_26_0 R) so3 R (aq (v := iv a_b.Size) 9 R (plx tk_3 pk2 R R) so3 R (aq 10 R (po_add R R) so3 R (aq 11 R (po_sub R R) so3 R (aq 12 R (pom R) so3 R (aq 13 R (po_sub R R) so3 R (gdO t2 fun g2 t2 => (aq 14 R (po_ixr (rga r0) el_24 R R g2.1 g2.2) so3 R (aq (v := .agg #[iv ((gx a_b.Cells (((wr ((wr ((wr ((wr (((k1 : Nat) : Int) * a_b.Size)) + a_b.Size)) - 1)) - ((k2 : Nat) : Int)))).toNat)).Split), iv ((gx a_b.Cells (((wr ((wr ((wr ((wr (((k1 : Nat) : Int) * a_b.Size)) + a_b.Size)) - 1)) - ((k2 : Nat) : Int)))).toNat)).A), iv ((gx a_b.Cells (((wr ((wr ((wr ((wr (((k1 : Nat) : Int) * a_b.Size)) + a_b.Size)) - 1)) - ((k2 : Nat) : Int)))).toNat)).B)]) 15 R (po_ldfs (rga r0) tk_41 R (ix_lt g2) R R R) so3 R (a1 16 (bdO t2 fun v2 hv2 t2 => (wsc R (cz0 fa_72 R fun w hw => c_spec_MirrorCell w (gx a_b.Cells (((wr ((wr ((wr ((wr (((k1 : Nat) : Int) * a_b.Size)) + a_b.Size)) - 1)) - ((k2 : Nat) : Int)))).toNat)) hv2) (fun _ => (zt so3)) R fun _ => (a1 17 (wse R (ebs R (sb_24_1 v2.Split v2.A v2.B)) (fun _ => (zt (zc pk1 (zc pk1 (zc pk1 zn))))) R fun b4 => (a1 18 (gdO t2 fun g3 t2 => (wse R (eo_append (xs := s2) (ys := ([v2] : List GCell)) ak_24 pk4 R R (slin_rd fun _ g => Rg.on (rgo (pbo pz (n := 1) (xs := ([v2] : List GCell)) R R (by unfold maxLen; omega))) g) g3) (fun _ => (zt (zc pk2 (zc pk2 (zc pk2 zn))))) R fun x3 => ?_)))))))))))))))))))))))))))))))))))))
 refine aq 19 R (pof fo_26_1 R) (zc pk2 (zc pk2 (zc pk2 zn))) R (a1 20 (ws_skipop R (sbx (cs' := [iv a_b.Size, (sl x3)]) tk_24 pk2 R R R R R R R) (sts_past (by kernel_rfl)) ?_))
 refine ae (wqb (wqt (wcg (mv R R (wlq (po_inc R R (by omega)) R ?_)))))
 exact asg R R (wln (wq_rnd hk2 (stpN l2 t2) x3 (su5 R R R R R) (zc pz (zc pk2 (zc pk2 so1)))))
 have c2 : (decide (((k2 : Nat) : Int) < a_b.Size)) = false := ddf (by omega)
 have en1 := foe l2 hk2
 exact wcs (wcr (mv R R (wlq (pof fo_26_0 R) R (wlq (v := iv a_b.Size) (plx tk_3 pk2 R R) R (wlq (pls R R) R (wnt (wff R c2 (wcx (wqe (wqe (wbx (wjm _ x2l (Sum.inl.inj en1) (su4 R R R R) so4))))))))))))
 intro e2 x2 hp
 obtain rfl : e2 = y2 := hp.symm
 refine wqb (wqt (wcg (mv R R (wlq (po_inc R R (by omega)) R ?_))))
 exact asg R R (wln (wq_rnd hk1 (stpN l1 t1) x2 (su4 R R R R) so4))
 have c1 : (decide (((k1 : Nat) : Int) < a_b.Size)) = false := ddf (by omega)
 have en2 := foe l1 hk1
 exact wcs (wcr (mv R R (wlq (pof fo_26_0 R) R (wlq (v := iv a_b.Size) (plx tk_3 pk2 R R) R (wlq (pls R R) R (wnt (wff R c1 (wcx (wqe (wqe (wbx (wjm _ x1l (Sum.inl.inj en2) (su2 R R) (zc pz (zc pz (zc pk1 zn)))))))))))))))
 intro e1 x1 hp
 obtain rfl : e1 = y1 := hp.symm
 refine wqt (wcr (wlq (v := .agg #[iv a_b.Size, (sl x1)]) (plb tk_26 pz R R R) R (wls (sbx (cs' := [iv a_b.Size, (sl x1)]) tk_26 pk1 R R R R R R R) (wnt (wct ?_)))))
 obtain rfl := oi t0
 exact wqc R tk_26 R pz R fun w hw => ⟨x1, R, hw.weak (zc pk2 zn)⟩

theorem c_spec_TurnCell (w : World) (a_c : GCell) {r : GCell} (t0 : spec_TurnCell a_c = some r) : Calls Tryd.prog 73 #[.agg #[.int .i64 a_c.Split, .int .i64 a_c.A, .int .i64 a_c.B]] w fun e w' => e = .returned (.agg #[.int .i64 r.Split, .int .i64 r.A, .int .i64 r.B]) ∧ SH w [] [] w' := by
 refine cwc (args := [_]) Tryd.func73 R Tryd.ntmps73 R ?_
 unfold spec_TurnCell at t0
 refine wcr (wle (eo_box R R) R fun b1 => (wle (eal (cs := [iv 0, iv 0, iv 0]) za_41) R fun b2 => (wnt (wcs (wcr (wlq (v := .agg #[iv a_c.Split, iv a_c.A, iv a_c.B]) (plb tk_41 pk1 R R R) R (bdO t0 fun v1 hv1 t0 => (wlc (cz0 fa_34 R fun w hw => c_spec_CellOk w a_c hv1) R fun _ => (wlq (po_not R) R (wnt (wcO t0 R (fun h1 t0 => ?_) fun h1 t0 => ?_)))))))))))
 refine wcr (wlq (po_build R bd_41) R (wls (sbx (cs' := [iv 0, iv 0, iv 0]) tk_41 pz R R R R R R R) (wnt (wct (wqr ?_)))))
 obtain rfl := oi t0
 exact wqc R tk_41 R pz R fun w hw => ⟨R, hw.weak zn⟩
 refine wck (wqt (wcs (wcr (wlq (pof fo_41_0 R) R (wlq (v := iv a_c.Split) (plx tk_3 pk1 R R) R (wnt (wcb (wcr (wlq (pol R R) R (asg R R (wnt (wcO t0 R (fun h2 t0 => ?_) fun h2 t0 => ?_))))))))))))
 refine wcr (wlq (pof fo_41_2 R) R (wlq (v := iv a_c.B) (plx tk_3 pk1 R R) R (wlq (pof fo_41_1 R) R (wlq (v := iv a_c.A) (plx tk_3 pk1 R R) R (wlq (po_build R (bd_41_0_1_2 2 a_c.B a_c.A)) R (wls (sbx (cs' := [iv 2, iv a_c.B, iv a_c.A]) tk_41 pz R R R R R R R) (wnt (wct (wbr (wqr ?_))))))))))
 obtain rfl := oi t0
 exact wqc R tk_41 R pz R fun w hw => ⟨R, hw.weak zn⟩
 refine wcr (wlq (pol R R) R (asg R R (wnt (wcO t0 R (fun h3 t0 => ?_) fun h3 t0 => ?_))))
 refine wcr (wlq (pof fo_41_1 R) R (wlq (v := iv a_c.A) (plx tk_3 pk1 R R) R (wlq (pof fo_41_2 R) R (wlq (v := iv a_c.B) (plx tk_3 pk1 R R) R (wlq (po_build R (bd_41_0_1_2 1 a_c.A a_c.B)) R (wls (sbx (cs' := [iv 1, iv a_c.A, iv a_c.B]) tk_41 pz R R R R R R R) (wnt (wct (wbr (wqr ?_))))))))))
 obtain rfl := oi t0
 exact wqc R tk_41 R pz R fun w hw => ⟨R, hw.weak zn⟩
 refine wck (wqb (wqt (wcr (wlq (v := .agg #[iv a_c.Split, iv a_c.A, iv a_c.B]) (plb tk_41 pk1 R R R) R (wls (sbx (cs' := [iv a_c.Split, iv a_c.A, iv a_c.B]) tk_41 pz R R R R R R R) (wnt (wct ?_)))))))
 obtain rfl := oi t0
 exact wqc R tk_41 R pz R fun w hw => ⟨R, hw.weak zn⟩

theorem c_spec_TurnBlock (w : World) (a_b : GBlock) (v0a : Hd) (r0 : rdF w (dm w []) (sl v0a) a_b.Cells) {r : GBlock} (t0 : spec_TurnBlock a_b = some r) : Calls Tryd.prog 58 #[.agg #[.int .i64 a_b.Size, (sl v0a)]] w fun e w' => ∃ x : Hd, e = .returned (.agg #[.int .i64 r.Size, (sl x)]) ∧ SH w [] [ownF (sl x) r.Cells] w' := by
 refine cwc (args := [_]) Tryd.func58 R Tryd.ntmps58 R ?_
 unfold spec_TurnBlock at t0
 refine wcr (wle (eo_box R R) R fun b1 => (wle (eal (cs := [iv 0, (sl hn)]) za_26) R fun b2 => (wnt (wcs (wcr (wlq (v := .agg #[iv a_b.Size, (sl v0a)]) (plb tk_26 pk1 R R R) R (bdO t0 fun v1 hv1 t0 => (wlc (cz0 fa_15 R fun w hw => c_spec_BlockOk w a_b v0a (ra r0 hw) hv1) R fun _ => (wlq (po_not R) R (wnt (wcO t0 R (fun h1 t0 => ?_) fun h1 t0 => ?_)))))))))))
 refine wcr (wlq (po_build R bd_26) R (wls (sbx (cs' := [iv 0, (sl hn)]) tk_26 pz R R R R R R R) (wnt (wct (wqr ?_)))))
 obtain rfl := oi t0
 exact wqc R tk_26 R pz R fun w hw => ⟨hn, R, hw.weak (zc pick_nil zn)⟩
 refine wck (wqt (wcr (wlq (pof fo_26_0 R) R (wlq (v := iv a_b.Size) (plx tk_3 pk1 R R) R (wlq (po_build R (bd_26_0 a_b.Size)) R (wle (eal (cs := [iv 0, (sl hn)]) za_26) R fun b3 => (wls (sbx (cs' := [iv a_b.Size, (sl hn)]) tk_26 pz R R R R R R R) (wnt (wcs (wcr (asg R R (wnt (gdO t0 fun g1 t0 => (lpO_inv t0 fun y1 l1 t0 => (wj (J := List GCell) (X := Hd) (fun z => y1 = z) (fun _ _ => [(2, ptr b2 0), (3, ptr b3 0)]) (fun z x => [box b3 [iv a_b.Size, (sl x)], box b2 [iv 0, (sl hn)], ownF (sl x) z]) ?_ ?_)))))))))))))))
 refine wcb (wcf (X := Hd) l1 (fun k1 s1 x1l => [(1, ptr b1 0), (2, ptr b2 0), (3, ptr b3 0), (4, iv ((k1 : Nat) : Int))]) (fun k1 s1 x1l => [box b3 [iv a_b.Size, (sl x1l)], box b2 [iv 0, (sl hn)], box b1 [iv a_b.Size, (sl v0a)], ownF (sl x1l) s1]) hn (su4 R R R R) (zc pz (zc pz (zc pz (zc pick_nil zn)))) fun k1 s1 x1l hN1 l1 => ?_)
 by_cases hk1 : k1 < (a_b.Size).toNat
 refine fos l1 hk1 fun _ t1 l1 => ?_
 unfold spec_TurnBlock_L1 at t1
 have c1 : (decide (((k1 : Nat) : Int) < a_b.Size)) = true := ddt (by omega)
 refine wcs (wcr (mv R R (wlq (pof fo_26_0 R) R (wlq (v := iv a_b.Size) (plx tk_3 pk2 R R) R (wlq (pls R R) R (wnt (wft R c1 (wck (wqt (wcs (wcb (wcr (asg R R (wnt (lpO_inv t1 fun y2 l2 t1 => (wj (J := List GCell) (X := Hd) (fun z => y2 = z) (fun _ _ => [(1, ptr b1 0), (2, ptr b2 0), (3, ptr b3 0), (4, iv ((k1 : Nat) : Int))]) (fun z x => [box b3 [iv a_b.Size, (sl x)], box b2 [iv 0, (sl hn)], box b1 [iv a_b.Size, (sl v0a)], ownF (sl x) z]) ?_ ?_))))))))))))))))
 refine wcb (wcf (X := Hd) l2 (fun k2 s2 x2l => [(1, ptr b1 0), (2, ptr b2 0), (3, ptr b3 0), (4, iv ((k1 : Nat) : Int)), (5, iv ((k2 : Nat) : Int))]) (fun k2 s2 x2l => [box b3 [iv a_b.Size, (sl x2l)], box b2 [iv 0, (sl hn)], box b1 [iv a_b.Size, (sl v0a)], ownF (sl x2l) s2]) x1l (su5 R R R R R) so4 fun k2 s2 x2l hN2 l2 => ?_)
 by_cases hk2 : k2 < (a_b.Size).toNat
 refine fos l2 hk2 fun _ t2 l2 => ?_
 unfold spec_TurnBlock_L2 at t2
 have c2 : (decide (((k2 : Nat) : Int) < a_b.Size)) = true := ddt (by omega)
 refine wcs (wcr (mv R R (wlq (pof fo_26_0 R) R (wlq (v := iv a_b.Size) (plx tk_3 pk2 R R) R (wlq (pls R R) R (wnt (wft R c2 (wck (wqt (wcs (wcb (wcd [box b3 [iv a_b.Size, (sl x2l)], box b2 [iv 0, (sl hn)], box b1 [iv a_b.Size, (sl v0a)]] 20 mixed (aq 0 R (pof fo_26_1 R) so3 R (aq (v := (sl x2l)) 1 R (plx tk_24 pz R R) so3 R (aq 2 R (pof fo_26_1 R) so3 R (aq (v := (sl v0a)) 3 R (plx tk_24 pk2 R R) so3 R (aq 4 R (pof fo_26_0 R) so3 R (aq (v := iv a_b.Size) 5 R (plx tk_3 pk2 R R) so3 R (aq 6 R (po_sub R R) so3 R (aq 7 R (pom R) so3 R (aq 8 R (po_sub R R) so3 R (aq 9 R (pof fo_26_0 R) so3 R (aq (v := iv a_b.Size) 10 R (plx tk_3 pk2 R R) so3 R (aq 11 R (po_mul R R) so3 R (aq 12 R (pom R) so3 R (aq 13 R (po_add R R) so3 R (gdO t2 fun g2 t2 => (aq 14 R (po_ixr (rga r0) el_24 R R g2.1 g2.2) so3 R (aq (v := .agg #[iv ((gx a_b.Cells (((wr ((wr ((wr ((wr (a_b.Size - 1)) - ((k2 : Nat) : Int))) * a_b.Size)) + ((k1 : Nat) : Int)))).toNat)).Split), iv ((gx a_b.Cells (((wr ((wr ((wr ((wr (a_b.Size - 1)) - ((k2 : Nat) : Int))) * a_b.Size)) + ((k1 : Nat) : Int)))).toNat)).A), iv ((gx a_b.Cells (((wr ((wr ((wr ((wr (a_b.Size - 1)) - ((k2 : Nat) : Int))) * a_b.Size)) + ((k1 : Nat) : Int)))).toNat)).B)]) 15 R (po_ldfs (rga r0) tk_41 R (ix_lt g2) R R R) so3 R (a1 16 (bdO t2 fun v2 hv2 t2 => (wsc R (cz0 fa_73 R fun w hw => c_spec_TurnCell w (gx a_b.Cells (((wr ((wr ((wr ((wr (a_b.Size - 1)) - ((k2 : Nat) : Int))) * a_b.Size)) + ((k1 : Nat) : Int)))).toNat)) hv2) (fun _ => (zt so3)) R fun _ => (a1 17 (wse R (ebs R (sb_24_1 v2.Split v2.A v2.B)) (fun _ => (zt (zc pk1 (zc pk1 (zc pk1 zn))))) R fun b4 => (a1 18 (gdO t2 fun g3 t2 => (wse R (eo_append (xs := s2) (ys := ([v2] : List GCell)) ak_24 pk4 R R (slin_rd fun _ g => Rg.on (rgo (pbo pz (n := 1) (xs := ([v2] : List GCell)) R R (by unfold maxLen; omega))) g) g3) (fun _ => (zt (zc pk2 (zc pk2 (zc pk2 zn))))) R fun x3 => ?_)))))))))))))))))))))))))))))))))))))
 refine aq 19 R (pof fo_26_1 R) (zc pk2 (zc pk2 (zc pk2 zn))) R (a1 20 (ws_skipop R (sbx (cs' := [iv a_b.Size, (sl x3)]) tk_24 pk2 R R R R R R R) (sts_past (by kernel_rfl)) ?_))
 refine ae (wqb (wqt (wcg (mv R R (wlq (po_inc R R (by omega)) R ?_)))))
 exact asg R R (wln (wq_rnd hk2 (stpN l2 t2) x3 (su5 R R R R R) (zc pz (zc pk2 (zc pk2 so1)))))
 have c2 : (decide (((k2 : Nat) : Int) < a_b.Size)) = false := ddf (by omega)
 have en1 := foe l2 hk2
 exact wcs (wcr (mv R R (wlq (pof fo_26_0 R) R (wlq (v := iv a_b.Size) (plx tk_3 pk2 R R) R (wlq (pls R R) R (wnt (wff R c2 (wcx (wqe (wqe (wbx (wjm _ x2l (Sum.inl.inj en1) (su4 R R R R) so4))))))))))))
 intro e2 x2 hp
 obtain rfl : e2 = y2 := hp.symm
 refine wqb (wqt (wcg (mv R R (wlq (po_inc R R (by omega)) R ?_))))
 exact asg R R (wln (wq_rnd hk1 (stpN l1 t1) x2 (su4 R R R R) so4))
 have c1 : (decide (((k1 : Nat) : Int) < a_b.Size)) = false := ddf (by omega)
 have en2 := foe l1 hk1
 exact wcs (wcr (mv R R (wlq (pof fo_26_0 R) R (wlq (v := iv a_b.Size) (plx tk_3 pk2 R R) R (wlq (pls R R) R (wnt (wff R c1 (wcx (wqe (wqe (wbx (wjm _ x1l (Sum.inl.inj en2) (su2 R R) (zc pz (zc pz (zc pk1 zn)))))))))))))))
 intro e1 x1 hp
 obtain rfl : e1 = y1 := hp.symm
 refine wqt (wcr (wlq (v := .agg #[iv a_b.Size, (sl x1)]) (plb tk_26 pz R R R) R (wls (sbx (cs' := [iv a_b.Size, (sl x1)]) tk_26 pk1 R R R R R R R) (wnt (wct ?_)))))
 obtain rfl := oi t0
 exact wqc R tk_26 R pz R fun w hw => ⟨x1, R, hw.weak (zc pk2 zn)⟩

theorem c_spec_SeenFrom (w : World) (a_b : GBlock) (v0a : Hd) (r0 : rdF w (dm w []) (sl v0a) a_b.Cells) (a_k : Int) {r : GBlock} (t0 : spec_SeenFrom a_b a_k = some r) : Calls Tryd.prog 36 #[.agg #[.int .i64 a_b.Size, (sl v0a)], .int .i64 a_k] w fun e w' => ∃ x : Hd, e = .returned (.agg #[.int .i64 r.Size, (sl x)]) ∧ SH w [] [ownF (sl x) r.Cells] w' := by
 refine cwc (args := [_, _]) Tryd.func36 R Tryd.ntmps36 R ?_
 unfold spec_SeenFrom at t0
 refine wcr (wle (eo_box R R) R fun b1 => (wle (eal (cs := [iv 0, (sl hn)]) za_26) R fun b2 => (wnt (wcs (wcs (bdO t0 fun y1 t1 t0 => (wj (J := Bool) (X := Unit) (fun z => y1 = z) (fun z _ => [(1, iv a_k), (2, ptr b1 0), (4, ptr b2 0), (14, .bool z)]) (fun _ _ => [box b2 [iv 0, (sl hn)], box b1 [iv a_b.Size, (sl v0a)]]) ?_ ?_)))))))
 refine wcg (wlq (v := .agg #[iv a_b.Size, (sl v0a)]) (plb tk_26 pk1 R R R) R (bdO t1 fun v1 hv1 t1 => (wlc (cz0 fa_15 R fun w hw => c_spec_BlockOk w a_b v0a (ra r0 hw) hv1) R fun _ => (wlq (po_not R) R (mv R R (wlo (t := 10) t1 R (fun h1 t1 => ?_) fun h1 t1 => ?_))))))
 exact wgf (j := 3) R R R R R (wgf (j := 3) R R R R R (wgf (j := 3) R R R R R (wlq (pit R R) R (wln (wjm _ () (mtE t1) (su4 R R R R) so2)))))
 exact wgn (j := 3) R R R (mv R R (bdO t1 fun v2 hv2 t1 => (wgn (j := 3) R R R (wlc (cz0 fa_33 R fun w hw => c_spec_l01In w a_k 0 7 hv2) R (fun _ => (wgn (j := 3) R R R (wlq (po_not R) R (wlq (pif R R) R (wln (wjm _ () (mtE t1) (su4 R R R R) so2))))))))))
 intro j1 _ hp
 obtain rfl : j1 = y1 := hp.symm
 refine wqt (wcO t0 R (fun h2 t0 => ?_) fun h2 t0 => ?_)
 refine wcr (wlq (po_build R bd_26) R (wls (sbx (cs' := [iv 0, (sl hn)]) tk_26 pz R R R R R R R) (wnt (wct (wqr ?_)))))
 obtain rfl := oi t0
 exact wqc R tk_26 R pz R fun w hw => ⟨hn, R, hw.weak (zc pick_nil zn)⟩
 refine wck (wqt (wcr (wlq (v := .agg #[iv a_b.Size, (sl v0a)]) (plb tk_26 pk1 R R R) R (bdO t0 fun v3 hv3 t0 => (wlc (cz1 fa_56 R fun w hw => c_spec_l03Copy w a_b v0a (ra r0 hw) hv3) R fun x2 => (wle (eal (cs := [iv 0, (sl hn)]) za_26) R fun b3 => (wls (sbx (cs' := [iv v3.Size, (sl x2)]) tk_26 pz R R R R R R R) (wnt (wcs (wcr (mv R R (wlq (po_geq R R) R (wnt (bdO t0 fun y1 t1 t0 => (wj (J := GBlock) (X := Hd) (fun z => y1 = z) (fun _ _ => [(1, iv a_k), (4, ptr b2 0), (5, ptr b3 0)]) (fun z x => [box b3 [iv ((z).Size), (sl x)], box b2 [iv 0, (sl hn)], ownF (sl x) ((z).Cells)]) ?_ ?_)))))))))))))))
 refine wcO t1 R (fun h3 t1 => ?_) fun h3 t1 => ?_
 exact wcg (wlq (v := .agg #[iv a_b.Size, (sl v0a)]) (plb tk_26 pk3 R R R) R (bdO t1 fun v4 hv4 t1 => (wlc (cz1 fa_57 R fun w hw => c_spec_MirrorBlock w a_b v0a (ra r0 hw) hv4) R fun x4 => (wls (sbx (cs' := [iv v4.Size, (sl x4)]) tk_26 pk1 R R R R R R R) (wln (wjm _ x4 (mtE t1) (su3 R R R) (zc pz (zc pk2 so1))))))))
 exact wck (wjm _ x2 (mtE t1) (su3 R R R) (zc pz (zc pk1 so1)))
 intro j2 x3 hp
 obtain rfl : j2 = y1 := hp.symm
 refine wqt (wcs (wcr (asg R R (wnt (gdO t0 fun g1 t0 => (lpO_inv t0 fun y1 l1 t0 => (wj (J := Int × (List GCell)) (X := Hd) (fun z => y1 = z) (fun _ _ => [(4, ptr b2 0), (5, ptr b3 0)]) (fun z x => [box b3 [iv z.1, (sl x)], box b2 [iv 0, (sl hn)], ownF (sl x) z.2]) ?_ ?_)))))))
 refine wcb (wcf (X := Hd) l1 (fun k1 s1 x1l => [(1, iv a_k), (4, ptr b2 0), (5, ptr b3 0), (6, iv ((k1 : Nat) : Int))]) (fun k1 s1 x1l => [box b3 [iv s1.1, (sl x1l)], box b2 [iv 0, (sl hn)], ownF (sl x1l) s1.2]) x3 (su4 R R R R) so3 fun k1 s1 x1l hN1 l1 => ?_)
 by_cases hk1 : k1 < ((a_k.tmod 4)).toNat
 refine fos l1 hk1 fun _ t1 l1 => ?_
 unfold spec_SeenFrom_L1 at t1
 have c1 : (decide (((k1 : Nat) : Int) < (a_k.tmod 4))) = true := ddt (by omega)
 refine wcs (wcr (mv R R (mv R R (wlq (po_rem R R (by decide)) R ?_))))
 refine wlq (pls R R) R (wnt (wft R c1 (wck (wqt (wcs (wcb (wcg (wlq (v := .agg #[iv s1.1, (sl x1l)]) (plb tk_26 pz R R R) R (bdO t1 fun v5 hv5 t1 => (wlc (cz1 fa_58 R fun w hw => c_spec_TurnBlock w (GBlock.mk s1.1 s1.2) x1l (Rg.on (rgo pk2) hw) hv5) R fun x6 => (wls (sbx (cs' := [iv v5.Size, (sl x6)]) tk_26 pk1 R R R R R R R) (wln (wqb (wqt (wcg (mv R R (wlq (po_inc R R (by omega)) R ?_)))))))))))))))))
 exact asg R R (wln (wq_rnd hk1 (stpN l1 t1) x6 (su4 R R R R) (zc pz (zc pk1 so1))))
 have c1 : (decide (((k1 : Nat) : Int) < (a_k.tmod 4))) = false := ddf (by omega)
 have en1 := foe l1 hk1
 refine wcs (wcr (mv R R (mv R R (wlq (po_rem R R (by decide)) R ?_))))
 exact wlq (pls R R) R (wnt (wff R c1 (wcx (wqe (wqe (wbx (wjm _ x1l (Sum.inl.inj en1) (su2 R R) so3)))))))
 intro e1 x5 hp
 obtain rfl : e1 = y1 := hp.symm
 refine wqt (wcr (wlq (v := .agg #[iv e1.1, (sl x5)]) (plb tk_26 pz R R R) R (wls (sbx (cs' := [iv e1.1, (sl x5)]) tk_26 pk1 R R R R R R R) (wnt (wct ?_)))))
 obtain rfl := oi t0
 exact wqc R tk_26 R pz R fun w hw => ⟨x5, R, hw.weak (zc pk2 zn)⟩

theorem c_spec_l01Figure (w : World) (a_x : Int) {r : UInt8} (t0 : spec_l01Figure a_x = some r) : Calls Tryd.prog 82 #[.int .i64 a_x] w fun e w' => e = .returned (.int .u8 (r.toNat : Int)) ∧ SH w [] [] w' := by
 refine cwc (args := [_]) Tryd.func82 R Tryd.ntmps82 R ?_
 unfold spec_l01Figure at t0
 refine wcr (asg R R (wnt (wcs (wcr (mv R R (wlq (pls R R) R (wnt (wcO t0 R (fun h1 t0 => ?_) fun h1 t0 => ?_))))))))
 refine wcr (mv R R (wlq (po_add R R) R (wlq (po_intu8 isInt_3 isU8_5 R) R (asg R R (wnt (wct (wqr ?_)))))))
 obtain rfl := oi t0
 exact wq1 R R fun w hw => ⟨R, hw.weak zn⟩
 refine wck (wqt (wcr (mv R R (wlq (po_add R R) R (wlq (po_sub R R) R (wlq (po_intu8 isInt_3 isU8_5 R) R (asg R R (wnt (wct ?_)))))))))
 obtain rfl := oi t0
 exact wq1 R R fun w hw => ⟨R, hw.weak zn⟩

theorem c_spec_FormatInt (w : World) (a_n : Int) {r : Str} (t0 : spec_FormatInt a_n = some r) : Calls Tryd.prog 76 #[.int .i64 a_n] w fun e w' => e = .returned (bs r) ∧ SH w [] [] w' := by
 refine cwc (args := [_]) Tryd.func76 R Tryd.ntmps76 R ?_
 unfold spec_FormatInt at t0
 refine wcr (asg R R (wnt (wcs (wcr (mv R R (wlq (pol R R) R (wnt (wcO t0 R (fun h1 t0 => ?_) fun h1 t0 => ?_))))))))
 refine wcr (asg R R (wnt (wct (wqr ?_))))
 obtain rfl := oi t0
 exact wq1 R R fun w hw => ⟨R, hw.weak zn⟩
 refine wck (wqt (wcr (mv R R (wlq (pls R R) R (asg R R (wnt (wcr (asg R R (wnt (wcs (wlO_inv t0 fun y1 l1 t0 => (wj (J := Int × Str) (X := Unit) (fun z => y1 = z) (fun z _ => [(3, .bool (decide (a_n < 0))), (4, bs z.2)]) (fun _ _ => []) ?_ ?_))))))))))))
 refine wcb (wc_whO (X := Unit) l1 (fun s1 x1l => [(0, iv s1.1), (3, .bool (decide (a_n < 0))), (4, bs s1.2)]) (fun s1 x1l => []) () (su3 R R R) zn fun m1 s1 x1l l1 => (whO_step l1 fun _ t1 l1 => ?_))
 unfold spec_FormatInt_L1 at t1
 refine wcs (wcr (mv R R (wlq (po_neq R R) R (wnt (wcO t1 R (fun h2 t1 => ?_) fun h2 t1 => ?_)))))
 refine wck (wqt (wcb (wcr (mv R R (wlq (po_rem R R (by decide)) R ?_)))))
 refine asg R R (wnt (wcs (wcr (mv R R (wlq (pls R R) R (wnt (wcj (X := Unit) (fun _ => True) (fun _ => [(0, iv s1.1), (3, .bool (decide (a_n < 0))), (4, bs s1.2), (5, iv (bif (decide ((s1.1.tmod 10) < 0)) then (wr (0 - (s1.1.tmod 10))) else (s1.1.tmod 10)))]) (fun _ => []) ?_ ?_)))))))
 refine wc_cond R (fun h3 => ?_) fun h3 => ?_
 exact wcg (mv R R (wlq (po_neg R) R (asg R R (wln (wqm () trivial (yc R (yc R (yc R (sub_i R (by simp only [h3, cond_true]) yn)))) zn)))))
 exact wck (wqm () trivial (yc R (yc R (yc R (sub_i R (by simp only [h3, cond_false]) yn)))) zn)
 intro _ _
 refine wqt (wcr (mv R R (bdO t1 fun v1 hv1 t1 => (wlc (cz0 fa_82 R fun w hw => c_spec_l01Figure w (bif (decide ((s1.1.tmod 10) < 0)) then (wr (0 - (s1.1.tmod 10))) else (s1.1.tmod 10)) hv1) R fun _ => (wle (ebs R (sb_22_1 v1)) R fun b1 => (wlq (po_b2s (rgo (pbo pz (n := 1) (xs := ([v1] : List UInt8)) R R (by unfold maxLen; omega))) isBytes_22 isStr_9 R) R ?_))))))
 refine mv R R (gdO t1 fun g1 t1 => (wlq (po_sadd R R g1) R (asg R R (wnt (wcg (mv R R (wlq (po_quo R R (by decide)) R ?_)))))))
 exact asg R R (wln (wqb (wq_rndw (stwN l1 t1) () (su3 R R R) zn)))
 exact wcx (wqe (wqe (wbx (wjm _ () (Sum.inl.inj (stwB l1 t1)) (su2 R R) zn))))
 intro e1 _ hp
 obtain rfl : e1 = y1 := hp.symm
 refine wqt (wcs (wcr (mv R R (wnt (wcO t0 R (fun h4 t0 => ?_) fun h4 t0 => ?_)))))
 refine wcr (mv R R (gdO t0 fun g2 t0 => (wlq (po_sadd R R g2) R (asg R R (wnt (wct (wqr ?_)))))))
 obtain rfl := oi t0
 exact wq1 R R fun w hw => ⟨R, hw.weak zn⟩
 refine wck (wqt (wcr (mv R R (asg R R (wnt (wct ?_))))))
 obtain rfl := oi t0
 exact wq1 R R fun w hw => ⟨R, hw.weak zn⟩

theorem c_spec_CellText (w : World) (a_c : GCell) {r : Str} (t0 : spec_CellText a_c = some r) : Calls Tryd.prog 67 #[.agg #[.int .i64 a_c.Split, .int .i64 a_c.A, .int .i64 a_c.B]] w fun e w' => e = .returned (bs r) ∧ SH w [] [] w' := by
 refine cwc (args := [_]) Tryd.func67 R Tryd.ntmps67 R ?_
 unfold spec_CellText at t0
 refine wcr (wle (eo_box R R) R fun b1 => (asg R R (wnt (wcs (wcr (wlq (v := .agg #[iv a_c.Split, iv a_c.A, iv a_c.B]) (plb tk_41 pz R R R) R (bdO t0 fun v1 hv1 t0 => (wlc (cz0 fa_34 R fun w hw => c_spec_CellOk w a_c hv1) R fun _ => (wlq (po_not R) R (wnt (wcO t0 R (fun h1 t0 => ?_) fun h1 t0 => ?_)))))))))))
 refine wcr (asg R R (wnt (wct (wqr ?_))))
 obtain rfl := oi t0
 exact wq1 R R fun w hw => ⟨R, hw.weak zn⟩
 refine wck (wqt (wcs (wcr (wlq (pof fo_41_0 R) R (wlq (v := iv a_c.Split) (plx tk_3 pz R R) R (wnt (wcb (wcr (wlq (pol R R) R (asg R R (wnt (wcO t0 R (fun h2 t0 => ?_) fun h2 t0 => ?_))))))))))))
 refine wcs (wcd [box b1 [iv a_c.Split, iv a_c.A, iv a_c.B]] 9 mixed (aq 0 R (pof fo_41_1 R) so1 R (aq (v := iv a_c.A) 1 R (plx tk_3 pz R R) so1 R (aq 4 R (pof fo_41_2 R) so1 R (aq (v := iv a_c.B) 5 R (plx tk_3 pz R R) so1 R (a1 2 (bdO t0 fun v2 hv2 t0 => (wsc R (cz0 fa_76 R fun w hw => c_spec_FormatInt w a_c.A hv2) (fun _ => (zt so1)) R fun _ => (gdO t0 fun g1 t0 => (aq 3 R (po_sadd R R g1) so1 R (a1 6 (bdO t0 fun v3 hv3 t0 => (wsc R (cz0 fa_76 R fun w hw => c_spec_FormatInt w a_c.B hv3) (fun _ => (zt so1)) R fun _ => (gdO t0 fun g2 t0 => (aq 7 R (po_sadd R R g2) so1 R (aq 8 R (po_assign R) so1 R (ae (wqt (wct (wbr (wqr ?_)))))))))))))))))))))
 obtain rfl := oi t0
 exact wq1 R R fun w hw => ⟨R, hw.weak zn⟩
 refine wcr (wlq (pol R R) R (asg R R (wnt (wcO t0 R (fun h3 t0 => ?_) fun h3 t0 => ?_))))
 refine wcs (wcd [box b1 [iv a_c.Split, iv a_c.A, iv a_c.B]] 9 mixed (aq 0 R (pof fo_41_1 R) so1 R (aq (v := iv a_c.A) 1 R (plx tk_3 pz R R) so1 R (aq 4 R (pof fo_41_2 R) so1 R (aq (v := iv a_c.B) 5 R (plx tk_3 pz R R) so1 R (a1 2 (bdO t0 fun v4 hv4 t0 => (wsc R (cz0 fa_76 R fun w hw => c_spec_FormatInt w a_c.A hv4) (fun _ => (zt so1)) R fun _ => (gdO t0 fun g3 t0 => (aq 3 R (po_sadd R R g3) so1 R (a1 6 (bdO t0 fun v5 hv5 t0 => (wsc R (cz0 fa_76 R fun w hw => c_spec_FormatInt w a_c.B hv5) (fun _ => (zt so1)) R fun _ => (gdO t0 fun g4 t0 => (aq 7 R (po_sadd R R g4) so1 R (aq 8 R (po_assign R) so1 R (ae (wqt (wct (wbr (wqr ?_)))))))))))))))))))))
 obtain rfl := oi t0
 exact wq1 R R fun w hw => ⟨R, hw.weak zn⟩
 refine wck (wqb (wqt (wcr (wlq (pof fo_41_1 R) R (wlq (v := iv a_c.A) (plx tk_3 pz R R) R (bdO t0 fun v6 hv6 t0 => (wlc (cz0 fa_76 R fun w hw => c_spec_FormatInt w a_c.A hv6) R fun _ => (asg R R (wnt (wct ?_))))))))))
 obtain rfl := oi t0
 exact wq1 R R fun w hw => ⟨R, hw.weak zn⟩

theorem c_spec_TextOf (w : World) (a_b : GBlock) (v0a : Hd) (r0 : rdF w (dm w []) (sl v0a) a_b.Cells) {r : Str} (t0 : spec_TextOf a_b = some r) : Calls Tryd.prog 48 #[.agg #[.int .i64 a_b.Size, (sl v0a)]] w fun e w' => e = .returned (bs r) ∧ SH w [] [] w' := by
 refine cwc (args := [_]) Tryd.func48 R Tryd.ntmps48 R ?_
 unfold spec_TextOf at t0
 refine wcr (wle (eo_box R R) R fun b1 => (asg R R (wnt (wcr (asg R R (wnt (wcs (wcr (asg R R (wnt (gdO t0 fun g1 t0 => (lpO_inv t0 fun y1 l1 t0 => (wj (J := Str) (X := Unit) (fun z => y1 = z) (fun z _ => [(3, bs z)]) (fun _ _ => []) ?_ ?_)))))))))))))
 refine wcb (wcf (X := Unit) l1 (fun k1 s1 x1l => [(1, ptr b1 0), (3, bs s1), (4, iv ((k1 : Nat) : Int))]) (fun k1 s1 x1l => [box b1 [iv a_b.Size, (sl v0a)]]) () (su3 R R R) so1 fun k1 s1 x1l hN1 l1 => ?_)
 by_cases hk1 : k1 < a_b.Cells.length
 refine fos l1 hk1 fun _ t1 l1 => ?_
 unfold spec_TextOf_L1 at t1
 have c1 : (decide (((k1 : Nat) : Int) < ((a_b.Cells.length : Nat) : Int))) = true := ddt (by omega)
 refine wcs (wcr (mv R R (wlq (pof fo_26_1 R) R (wlq (v := (sl v0a)) (plx tk_24 pz R R) R (wlq (pln (rga r0) el_24 R) R (wlq (pls R R) R (mv R R (wl_know (t := 10) R c1 (wgn (j := 5) R R R (wlq (v := .agg #[iv a_b.Size, (sl v0a)]) (plb tk_26 pz R R R) R (bdO t1 fun v1 hv1 t1 => (wgn (j := 5) R R R (wlc (cz0 fa_15 R fun w hw => c_spec_BlockOk w a_b v0a (ra r0 hw) hv1) R (fun _ => (wlq (pit R R) R (wnt (wcO t1 R (fun h1 t1 => ?_) fun h1 t1 => ?_)))))))))))))))))
 refine wck (wqt (wcs (wcb (wcg (mv R R (wlq (pof fo_26_1 R) R (wlq (v := (sl v0a)) (plx tk_24 pz R R) R (mv R R (wlq (po_ixn (k := k1) (rga r0) el_24 R R hk1) R (wlq (v := .agg #[iv ((gx a_b.Cells k1).Split), iv ((gx a_b.Cells k1).A), iv ((gx a_b.Cells k1).B)]) (po_ldfs (rga r0) tk_41 R hk1 R R R) R (bdO t1 fun v2 hv2 t1 => (wlc (cz0 fa_67 R fun w hw => c_spec_CellText w (gx a_b.Cells k1) hv2) R fun _ => (gdO t1 fun g2 t1 => (wlq (po_sadd R R g2) R (gdO t1 fun g3 t1 => (wlq (po_sadd R R g3) R (asg R R (wln (wqb (wqt (wcg (mv R R (wlq (po_inc R R (by omega)) R ?_)))))))))))))))))))))))
 exact asg R R (wln (wq_rnd hk1 (stpN l1 t1) () (su3 R R R) so1))
 exact wcx (wqe (wqe (wbx (wjm _ () (Sum.inl.inj (stpB l1 t1)) (su1 R) zn))))
 have c1 : (decide (((k1 : Nat) : Int) < ((a_b.Cells.length : Nat) : Int))) = false := ddf (by omega)
 have en1 := foe l1 hk1
 exact wcs (wcr (mv R R (wlq (pof fo_26_1 R) R (wlq (v := (sl v0a)) (plx tk_24 pz R R) R (wlq (pln (rga r0) el_24 R) R (wlq (pls R R) R (mv R R (wl_know (t := 10) R c1 (wgf (j := 5) R R R R R (wgf (j := 5) R R R R R (wlq (pif R R) R (wnt (wff R R (wcx (wqe (wqe (wbx (wjm _ () (Sum.inl.inj en1) (su1 R) zn))))))))))))))))))
 intro e1 _ hp
 obtain rfl : e1 = y1 := hp.symm
 refine wqt (wcr (mv R R (asg R R (wnt (wct ?_)))))
 obtain rfl := oi t0
 exact wq1 R R fun w hw => ⟨R, hw.weak zn⟩

theorem c_spec_LeastPattern (w : World) (a_b : GBlock) (v0a : Hd) (r0 : rdF w (dm w []) (sl v0a) a_b.Cells) {r : GBlock} (t0 : spec_LeastPattern a_b = some r) : Calls Tryd.prog 27 #[.agg #[.int .i64 a_b.Size, (sl v0a)]] w fun e w' => ∃ x : Hd, e = .returned (.agg #[.int .i64 r.Size, (sl x)]) ∧ SH w [] [ownF (sl x) r.Cells] w' := by
 refine cwc (args := [_]) Tryd.func27 R Tryd.ntmps27 R ?_
 unfold spec_LeastPattern at t0
 refine wcr (wle (eo_box R R) R fun b1 => (wle (eal (cs := [iv 0, (sl hn)]) za_26) R fun b2 => (wnt (wcs (wcr (wlq (v := .agg #[iv a_b.Size, (sl v0a)]) (plb tk_26 pk1 R R R) R (bdO t0 fun v1 hv1 t0 => (wlc (cz0 fa_15 R fun w hw => c_spec_BlockOk w a_b v0a (ra r0 hw) hv1) R fun _ => (wlq (po_not R) R (wnt (wcO t0 R (fun h1 t0 => ?_) fun h1 t0 => ?_)))))))))))
 refine wcr (wlq (po_build R bd_26) R (wls (sbx (cs' := [iv 0, (sl hn)]) tk_26 pz R R R R R R R) (wnt (wct (wqr ?_)))))
 obtain rfl := oi t0
 exact wqc R tk_26 R pz R fun w hw => ⟨hn, R, hw.weak (zc pick_nil zn)⟩
 refine wck (wqt (wcr (wlq (v := .agg #[iv a_b.Size, (sl v0a)]) (plb tk_26 pk1 R R R) R (bdO t0 fun v2 hv2 t0 => (wlc (cz1 fa_35 R fun w hw => c_spec_l07Plain w a_b v0a (ra r0 hw) hv2) R fun x1 => (wle (eal (cs := [iv 0, (sl hn)]) za_26) R fun b3 => (wls (sbx (cs' := [iv v2.Size, (sl x1)]) tk_26 pz R R R R R R R) (wnt (wcs (wcr (asg R R (wnt (lpO_inv t0 fun y1 l1 t0 => (wj (J := Int × (List GCell)) (X := Hd) (fun z => y1 = z) (fun _ _ => [(2, ptr b2 0), (3, ptr b3 0)]) (fun z x => [box b3 [iv z.1, (sl x)], ownF (sl x) z.2, box b2 [iv 0, (sl hn)]]) ?_ ?_))))))))))))))
 refine wcb (wcf (X := Hd) l1 (fun k1 s1 x1l => [(1, ptr b1 0), (2, ptr b2 0), (3, ptr b3 0), (4, iv (((k1 + 1) : Nat) : Int))]) (fun k1 s1 x1l => [box b3 [iv s1.1, (sl x1l)], ownF (sl x1l) s1.2, box b2 [iv 0, (sl hn)], box b1 [iv a_b.Size, (sl v0a)]]) x1 (su4 R R R R) so4 fun k1 s1 x1l hN1 l1 => ?_)
 by_cases hk1 : k1 < 7
 refine fos l1 hk1 fun _ t1 l1 => ?_
 unfold spec_LeastPattern_L1 at t1
 have c1 : (decide ((((k1 + 1) : Nat) : Int) < 8)) = true := ddt (by omega)
 refine wcs (wcr (mv R R (wlq (pls R R) R (wnt (wft R c1 (wck (wqt (wcs (wcb (wcr (wlq (v := .agg #[iv a_b.Size, (sl v0a)]) (plb tk_26 pk3 R R R) R (mv R R (bdO t1 fun v3 hv3 t1 => (wlc (cz1 fa_36 R fun w hw => c_spec_SeenFrom w a_b v0a (ra r0 hw) (((k1 + 1) : Nat) : Int) hv3) R fun x3 => (bdO t1 fun v4 hv4 t1 => (wlc (cz1 fa_35 R fun w hw => c_spec_l07Plain w v3 x3 (Rg.on (rgo pz) hw) hv4) R fun x4 => (wle (eal (cs := [iv 0, (sl hn)]) za_26) R fun b4 => (wls (sbx (cs' := [iv v4.Size, (sl x4)]) tk_26 pz R R R R R R R) (wnt (wcs (wcd [box b4 [iv v4.Size, (sl x4)], ownF (sl x4) v4.Cells, ownF (sl x3) v3.Cells, box b3 [iv s1.1, (sl x1l)], ownF (sl x1l) s1.2, box b2 [iv 0, (sl hn)], box b1 [iv a_b.Size, (sl v0a)]] 5 mixed (aq (v := .agg #[iv v4.Size, (sl x4)]) 0 R (plb tk_26 pz R R R) so7 R (aq (v := .agg #[iv s1.1, (sl x1l)]) 2 R (plb tk_26 pk3 R R R) so7 R (a1 1 (bdO t1 fun v5 hv5 t1 => (wsc R (cz0 fa_48 R fun w hw => c_spec_TextOf w v4 x4 (Rg.on (rgo pk1) hw) hv5) (fun _ => (zt so7)) R fun _ => (a1 3 (bdO t1 fun v6 hv6 t1 => (wsc R (cz0 fa_48 R fun w hw => c_spec_TextOf w (GBlock.mk s1.1 s1.2) x1l (Rg.on (rgo pk4) hw) hv6) (fun _ => (zt so7)) R fun _ => (aq 4 R (po_slss R R) so7 R (ae (wqt (wcj (X := Hd) (fun _ => True) (fun z => [(1, ptr b1 0), (2, ptr b2 0), (3, ptr b3 0), (4, iv (((k1 + 1) : Nat) : Int))]) (fun z => [box b3 [iv ((bif (slt v5 v6) then v4 else (GBlock.mk s1.1 s1.2)).Size), (sl z)], box b2 [iv 0, (sl hn)], box b1 [iv a_b.Size, (sl v0a)], ownF (sl z) ((bif (slt v5 v6) then v4 else (GBlock.mk s1.1 s1.2)).Cells)]) ?_ ?_)))))))))))))))))))))))))))))))))
 refine wc_cond R (fun h2 => ?_) fun h2 => ?_
 exact wcg (wlq (v := .agg #[iv v4.Size, (sl x4)]) (plb tk_26 pz R R R) R (wls (sbx (cs' := [iv v4.Size, (sl x4)]) tk_26 pk3 R R R R R R R) (wln (wqm x4 trivial (su4 R R R R) (zc (by simp only [h2, cond_true]; exact pz) (zc pk4 (zc pk4 (zc (by simp only [h2, cond_true]; exact pk1) zn))))))))
 exact wck (wqm x1l trivial (su4 R R R R) (zc (by simp only [h2, cond_false]; exact pk3) (zc pk4 (zc pk4 (zc (by simp only [h2, cond_false]; exact pk3) zn)))))
 intro x5 _
 refine wqb (wqt (wcg (mv R R (wlq (po_inc R R (by omega)) R ?_))))
 exact asg R R (wln (wq_rnd hk1 (stpN l1 t1) x5 (su4 R R R R) (zc pz (zc pk2 so2))))
 have c1 : (decide ((((k1 + 1) : Nat) : Int) < 8)) = false := ddf (by omega)
 have en1 := foe l1 hk1
 exact wcs (wcr (mv R R (wlq (pls R R) R (wnt (wff R c1 (wcx (wqe (wqe (wbx (wjm _ x1l (Sum.inl.inj en1) (su2 R R) so3))))))))))
 intro e1 x2 hp
 obtain rfl : e1 = y1 := hp.symm
 refine wqt (wcr (wlq (v := .agg #[iv e1.1, (sl x2)]) (plb tk_26 pz R R R) R (wls (sbx (cs' := [iv e1.1, (sl x2)]) tk_26 pk2 R R R R R R R) (wnt (wct ?_)))))
 obtain rfl := oi t0
 exact wqc R tk_26 R pz R fun w hw => ⟨x2, R, hw.weak (zc pk2 zn)⟩

theorem c_spec_SameBlock (w : World) (a_b : GBlock) (v0a : Hd) (r0 : rdF w (dm w []) (sl v0a) a_b.Cells) (a_d : GBlock) (v1a : Hd) (r1 : rdF w (dm w []) (sl v1a) a_d.Cells) {r : Bool} (t0 : spec_SameBlock a_b a_d = some r) : Calls Tryd.prog 26 #[.agg #[.int .i64 a_b.Size, (sl v0a)], .agg #[.int .i64 a_d.Size, (sl v1a)]] w fun e w' => e = .returned (.bool r) ∧ SH w [] [] w' := by
 refine cwc (args := [_, _]) Tryd.func26 R Tryd.ntmps26 R ?_
 unfold spec_SameBlock at t0
 refine wcr (wle (eo_box R R) R fun b1 => (wle (eo_box R R) R fun b2 => (asg R R (wnt (wcs (wcs (wcj (X := Unit) (fun _ => True) (fun _ => [(2, ptr b1 0), (3, ptr b2 0), (19, .bool ((a_b.Size != a_d.Size) || (((a_b.Cells.length : Nat) : Int) != ((a_d.Cells.length : Nat) : Int))))]) (fun _ => [box b2 [iv a_d.Size, (sl v1a)], box b1 [iv a_b.Size, (sl v0a)]]) ?_ ?_)))))))
 refine wcg (wlq (pof fo_26_0 R) R (wlq (v := iv a_b.Size) (plx tk_3 pk1 R R) R (wlq (pof fo_26_0 R) R (wlq (v := iv a_d.Size) (plx tk_3 pz R R) R (wlq (po_neq R R) R (mv R R (wl_fork (t := 11) R (fun h1 => ?_) fun h1 => ?_)))))))
 exact wgf (j := 5) R R R R R (wgf (j := 5) R R R R R (wgf (j := 5) R R R R R (wgf (j := 5) R R R R R (wgf (j := 5) R R R R R (wgf (j := 5) R R R R R (wgf (j := 5) R R R R R (wlq (pit R R) R (wln (wqm () trivial (yc R (yc R (sub_b R (by rw [h1]; rfl) yn))) so2)))))))))
 exact wgn (j := 5) R R R (wlq (pof fo_26_1 R) R (wgn (j := 5) R R R (wlq (v := (sl v0a)) (plx tk_24 pk1 R R) R (wgn (j := 5) R R R (wlq (pln (rga r0) el_24 R) R (wgn (j := 5) R R R (wlq (pof fo_26_1 R) R (wgn (j := 5) R R R (wlq (v := (sl v1a)) (plx tk_24 pz R R) R (wgn (j := 5) R R R (wlq (pln (rga r1) el_24 R) R (wgn (j := 5) R R R (wlq (po_neq R R) R (wlq (pif R R) R (wln (wqm () trivial (yc R (yc R (sub_b R (by rw [h1]; rfl) yn))) so2))))))))))))))))
 intro _ _
 refine wqt (wcO t0 R (fun h2 t0 => ?_) fun h2 t0 => ?_)
 refine wcr (asg R R (wnt (wct (wqr ?_))))
 obtain rfl := oi t0
 exact wq1 R R fun w hw => ⟨R, hw.weak zn⟩
 refine wck (wqt (wcs (wcr (asg R R (wnt (gdO t0 fun g1 t0 => (sqO t0 fun y1 l1 t0 => (wj (J := Unit) (X := Unit) (fun z => y1 = .inl z) (fun _ _ => []) (fun _ _ => []) ?_ ?_))))))))
 refine wcb (wcf (X := Unit) l1 (fun k1 s1 x1l => [(2, ptr b1 0), (3, ptr b2 0), (5, iv ((k1 : Nat) : Int))]) (fun k1 s1 x1l => [box b2 [iv a_d.Size, (sl v1a)], box b1 [iv a_b.Size, (sl v0a)]]) () (su3 R R R) so2 fun k1 s1 x1l hN1 l1 => ?_)
 by_cases hk1 : k1 < a_b.Cells.length
 refine fos l1 hk1 fun _ t1 l1 => ?_
 unfold spec_SameBlock_L1 at t1
 have c1 : (decide (((k1 : Nat) : Int) < ((a_b.Cells.length : Nat) : Int))) = true := ddt (by omega)
 refine wcs (wcr (mv R R (wlq (pof fo_26_1 R) R (wlq (v := (sl v0a)) (plx tk_24 pk1 R R) R (wlq (pln (rga r0) el_24 R) R (wlq (pls R R) R (wnt (wft R c1 (wck (wqt (wcs (wcb (wcs (wcd [box b2 [iv a_d.Size, (sl v1a)], box b1 [iv a_b.Size, (sl v0a)]] 11 mixed (aq 0 R (pof fo_26_1 R) so2 R (aq (v := (sl v0a)) 1 R (plx tk_24 pk1 R R) so2 R (aq 2 R (pom R) so2 R (aq 3 R (po_ixn (k := k1) (rga r0) el_24 R R hk1) so2 R (aq (v := .agg #[iv ((gx a_b.Cells k1).Split), iv ((gx a_b.Cells k1).A), iv ((gx a_b.Cells k1).B)]) 4 R (po_ldfs (rga r0) tk_41 R hk1 R R R) so2 R (aq 5 R (pof fo_26_1 R) so2 R (aq (v := (sl v1a)) 6 R (plx tk_24 pz R R) so2 R (aq 7 R (pom R) so2 R (gdO t1 fun g2 t1 => (aq 8 R (po_ixn (k := k1) (rga r1) el_24 R R g2) so2 R (aq (v := .agg #[iv ((gx a_d.Cells k1).Split), iv ((gx a_d.Cells k1).A), iv ((gx a_d.Cells k1).B)]) 9 R (po_ldfs (rga r1) tk_41 R g2 R R R) so2 R (aq 10 R (po_neq_struct (ps := [(gx a_b.Cells k1).Split, (gx a_b.Cells k1).A, (gx a_b.Cells k1).B]) (qs := [(gx a_d.Cells k1).Split, (gx a_d.Cells k1).A, (gx a_d.Cells k1).B]) sq_41 R R R R) so2 R (ae (wqt (wcO t1 R (fun h3 t1 => ?_) fun h3 t1 => ?_)))))))))))))))))))))))))))))
 refine wcr (asg R R (wnt (wct (wbr (wqr (wqr (wbr (wqr (wqr ?_)))))))))
 replace t0 := lpR t0 l1 t1
 obtain rfl := oi t0
 exact wq1 R R fun w hw => ⟨R, hw.weak zn⟩
 refine wck (wqb (wqt (wcg (mv R R (wlq (po_inc R R (by omega)) R ?_)))))
 exact asg R R (wln (wq_rnd hk1 (stpN l1 t1) () (su3 R R R) so2))
 have c1 : (decide (((k1 : Nat) : Int) < ((a_b.Cells.length : Nat) : Int))) = false := ddf (by omega)
 have en1 := foe l1 hk1
 exact wcs (wcr (mv R R (wlq (pof fo_26_1 R) R (wlq (v := (sl v0a)) (plx tk_24 pk1 R R) R (wlq (pln (rga r0) el_24 R) R (wlq (pls R R) R (wnt (wff R c1 (wcx (wqe (wqe (wbx (wjm _ () en1 yn zn)))))))))))))
 intro e1 _ hp
 replace t0 := sqE (j := e1) t0 hp
 refine wqt (wcr (asg R R (wnt (wct ?_))))
 obtain rfl := oi t0
 exact wq1 R R fun w hw => ⟨R, hw.weak zn⟩

theorem c_spec_ArePatternsSame (w : World) (a_b : GBlock) (v0a : Hd) (r0 : rdF w (dm w []) (sl v0a) a_b.Cells) (a_d : GBlock) (v1a : Hd) (r1 : rdF w (dm w []) (sl v1a) a_d.Cells) {r : Bool} (t0 : spec_ArePatternsSame a_b a_d = some r) : Calls Tryd.prog 12 #[.agg #[.int .i64 a_b.Size, (sl v0a)], .agg #[.int .i64 a_d.Size, (sl v1a)]] w fun e w' => e = .returned (.bool r) ∧ SH w [] [] w' := by
 refine cwc (args := [_, _]) Tryd.func12 R Tryd.ntmps12 R ?_
 unfold spec_ArePatternsSame at t0
 refine wcr (wle (eo_box R R) R fun b1 => (wle (eo_box R R) R fun b2 => (asg R R (wnt (wcs (bdO t0 fun y1 t1 t0 => (wj (J := Bool) (X := Unit) (fun z => y1 = z) (fun z _ => [(4, .bool z)]) (fun _ _ => []) ?_ ?_)))))))
 refine wcd [box b2 [iv a_d.Size, (sl v1a)], box b1 [iv a_b.Size, (sl v0a)]] 14 mixed (aq (v := .agg #[iv a_b.Size, (sl v0a)]) 0 R (plb tk_26 pk1 R R R) so2 R (a1 1 (bdO t1 fun v1 hv1 t1 => (wsc R (cz0 fa_15 R fun w hw => c_spec_BlockOk w a_b v0a (ra r0 hw) hv1) (fun _ => (zt so2)) R fun _ => (aq 2 R (pom R) so2 R (waO_ (t := 7) t1 R (fun h1 t1 => ?_) fun h1 t1 => ?_))))))
 refine an (v := .agg #[iv a_d.Size, (sl v1a)]) 3 2 R R R R (plb tk_26 pz R R R) so2 R (a1 4 (bdO t1 fun v2 hv2 t1 => (ws_call_on (j := 2) R R R R (cz0 fa_15 R fun w hw => c_spec_BlockOk w a_d v1a (ra r1 hw) hv2) (fun _ => (zt so2)) R fun _ => (aq 5 R (pit R R) so2 R (aq 6 R (pom R) so2 R (waO_ (t := 11) t1 R (fun h2 t1 => ?_) fun h2 t1 => ?_))))))
 exact an (v := .agg #[iv a_b.Size, (sl v0a)]) 7 6 R R R R (plb tk_26 pk1 R R R) so2 R (an (v := .agg #[iv a_d.Size, (sl v1a)]) 9 6 R R R R (plb tk_26 pz R R R) so2 R (a1 8 (bdO t1 fun v3 hv3 t1 => (ws_call_on (j := 6) R R R R (cz1 fa_27 R fun w hw => c_spec_LeastPattern w a_b v0a (ra r0 hw) hv3) (fun _ => (zt (zc pk1 (zc pk1 zn)))) R fun x2 => (a1 10 (bdO t1 fun v4 hv4 t1 => (ws_call_on (j := 6) R R R R (cz1 fa_27 R fun w hw => c_spec_LeastPattern w a_d v1a (ra r1 hw) hv4) (fun _ => (zt (zc pk2 (zc pk2 zn)))) R fun x3 => (a1 11 (bdO t1 fun v5 hv5 t1 => (ws_call_on (j := 6) R R R R (cz0 fa_26 R fun w hw => c_spec_SameBlock w v3 x2 (Rg.on (rgo pk1) hw) v4 x3 (Rg.on (rgo pz) hw) hv5) (fun _ => (zt (zc pk2 (zc pk2 zn)))) R fun _ => (aq 12 R (pit R R) (zc pk2 (zc pk2 zn)) R (aq 13 R (po_assign R) (zc pk2 (zc pk2 zn)) R (ae (wjm _ () (mtE t1) (su1 R) zn))))))))))))))
 exact af 7 6 R R R R R so2 R (af 8 6 R R R R R so2 R (af 9 6 R R R R R so2 R (af 10 6 R R R R R so2 R (af 11 6 R R R R R so2 R (aq 12 R (pif R R) so2 R (aq 13 R (po_assign R) so2 R (ae (wjm _ () (mtE t1) (su1 R) zn))))))))
 exact af 3 2 R R R R R so2 R (af 4 2 R R R R R so2 R (aq 5 R (pif R R) so2 R (aq 6 R (pom R) so2 R (af 7 6 R R R R R so2 R (af 8 6 R R R R R so2 R (af 9 6 R R R R R so2 R (af 10 6 R R R R R so2 R (af 11 6 R R R R R so2 R (aq 12 R (pif R R) so2 R (aq 13 R (po_assign R) so2 R (ae (wjm _ () (mtE t1) (su1 R) zn))))))))))))
 intro j1 _ hp
 obtain rfl : j1 = y1 := hp.symm
 refine wqt (wct ?_)
 obtain rfl := oi t0
 exact wq1 R R fun w hw => ⟨R, hw.weak zn⟩

theorem c_spec_l01Once (w : World) (fp : List Nat) (b0p : Nat) (a_c0 : List UInt8) (v0a : Hd) (r0 : rdF w (dm w fp) (sl v0a) a_c0) (a_c1 : Int) (a_c2 : Int) (a_n : Int) (o : Ow w [box b0p [(sl v0a), .int .i64 a_c1, .int .i64 a_c2]] fp) {r : Bool × Int × Int} (t0 : spec_l01Once a_c0 a_c1 a_c2 a_n = some r) : Calls Tryd.prog 30 #[ptr b0p 0, .int .i64 a_n] w fun e w' => ∃ _x : Unit, e = .returned (.bool r.1) ∧ SH w fp [box b0p [(sl v0a), .int .i64 r.2.1, .int .i64 r.2.2]] w' := by
 refine calls_of_wc_own (args := [_, _]) o Tryd.func30 R Tryd.ntmps30 R ?_
 unfold spec_l01Once at t0
 refine wcr (asg R R (wnt (wcr (mv R R (mv R R (bdO t0 fun v1 hv1 t0 => (wlc (co_o1 [box b0p [(sl v0a), iv a_c1, iv a_c2]] fa_28 (zc pz some_refl) R fun w fp hw => c_spec_l01Below w fp b0p a_c0 v0a ((rdo_arg r0) w fp hw) a_c1 a_c2 a_n hw.ow hv1) R fun _ => (wlq (pol R R) R (asg R R (wnt (wct ?_)))))))))))
 obtain rfl := oi t0
 exact wq1 R R fun w hw => ⟨(), R, hw.weak so1⟩

theorem c_spec_DrawFreeColorways (w : World) (a_code : List UInt8) (v0a : Hd) (r0 : rdF w (dm w []) (sl v0a) a_code) {r : GBlock} (t0 : spec_DrawFreeColorways a_code = some r) : Calls Tryd.prog 13 #[(sl v0a)] w fun e w' => ∃ x : Hd, e = .returned (.agg #[.int .i64 r.Size, (sl x)]) ∧ SH w [] [ownF (sl x) r.Cells] w' := by
 refine cwc (args := [_]) Tryd.func13 R Tryd.ntmps13 R ?_
 unfold spec_DrawFreeColorways at t0
 refine wcr (wle (eal (cs := [iv 0, (sl hn)]) za_26) R fun b1 => (wnt (wcr (mv R R (bdO t0 fun v1 hv1 t0 => (wlc (cz1 fa_18 R fun w hw => c_spec_l01New w a_code v0a (ra r0 hw) hv1) R fun x1 => (asg R R (wnt (wcr (mv R R (bdO t0 fun v2 hv2 t0 => (wlc (co_o2 [box x1 [(sl v0a), iv v1.1, iv v1.2]] fa_17 (zc pz some_refl) R fun w fp hw => c_spec_l03Block w fp x1 a_code v0a ((rdo_arg r0) w fp hw) v1.1 v1.2 hw.ow hv2) R fun x2 => (wle (eal (cs := [iv 0, (sl hn)]) za_26) R fun b2 => (wls (sbx (cs' := [iv v2.1.Size, (sl x2)]) tk_26 pz R R R R R R R) (wnt (wcs (wcs (bdO t0 fun y1 t1 t0 => (wj (J := Bool × Gl01Cur) (X := Unit) (fun z => y1 = z) (fun z _ => [(2, ptr b1 0), (3, ptr x1 0), (4, ptr b2 0), (18, .bool z.1)]) (fun z _ => [box x1 [(sl v0a), iv ((z.2).i), iv ((z.2).h)], box b2 [iv v2.1.Size, (sl x2)], box b1 [iv 0, (sl hn)], ownF (sl x2) v2.1.Cells]) ?_ ?_)))))))))))))))))))
 refine wcg (wlq (pof fo_26_0 R) R (wlq (v := iv v2.1.Size) (plx tk_3 pz R R) R (wlq (po_gtr R R) R (mv R R (wlo (t := 14) t1 R (fun h1 t1 => ?_) fun h1 t1 => ?_)))))
 exact wgn (j := 3) R R R (mv R R (bdO t1 fun v3 hv3 t1 => (wgn (j := 3) R R R (wlc (co_o1 [box x1 [(sl v0a), iv v2.2.1, iv v2.2.2]] fa_28 (zc pk2 some_refl) R fun w fp hw => c_spec_l01Below w fp x1 a_code v0a ((rdo_arg r0) w fp hw) v2.2.1 v2.2.2 4 hw.ow hv3) R (fun _ => (wgn (j := 3) R R R (wlq (po_gtr R R) R (wlq (pit R R) R (wln (wjm _ () (mtE t1) (su4 R R R R) (zc pz (zc pz (zc pk1 so1)))))))))))))
 exact wgf (j := 3) R R R R R (wgf (j := 3) R R R R R (wgf (j := 3) R R R R R (wlq (pif R R) R (wln (wjm _ () (mtE t1) (su4 R R R R) (zc pk2 (zc pz (zc pk1 so1))))))))
 intro j1 _ hp
 obtain rfl : j1 = y1 := hp.symm
 refine wqt (bdO t0 fun y1 t1 t0 => (wj (J := GBlock × Gl01Cur) (X := Hd) (fun z => y1 = z) (fun _ _ => [(2, ptr b1 0), (3, ptr x1 0), (4, ptr b2 0)]) (fun z x => [box b2 [iv ((z.1).Size), (sl x)], box x1 [(sl v0a), iv ((z.2).i), iv ((z.2).h)], box b1 [iv 0, (sl hn)], ownF (sl x) ((z.1).Cells)]) ?_ ?_))
 refine wcO t1 R (fun h2 t1 => ?_) fun h2 t1 => ?_
 refine wcr (wlq (po_build R (bd_26_0 2)) R (wls (sbx (cs' := [iv 2, (sl hn)]) tk_26 pk1 R R R R R R R) (wnt (wcr (asg R R (wnt (lpO_inv t1 fun y2 l2 t1 => (wj (J := (List GCell) × Int × Int) (X := Hd) (fun z => y2 = z) (fun _ _ => [(2, ptr b1 0), (3, ptr x1 0), (4, ptr b2 0)]) (fun z x => [box b2 [iv 2, (sl x)], box x1 [(sl v0a), iv z.2.1, iv z.2.2], box b1 [iv 0, (sl hn)], ownF (sl x) z.1]) ?_ ?_))))))))
 refine wcb (wcf (X := Hd) l2 (fun k1 s1 x1l => [(2, ptr b1 0), (3, ptr x1 0), (4, ptr b2 0), (5, iv ((k1 : Nat) : Int))]) (fun k1 s1 x1l => [box b2 [iv 2, (sl x1l)], box x1 [(sl v0a), iv s1.2.1, iv s1.2.2], box b1 [iv 0, (sl hn)], ownF (sl x1l) s1.1]) hn (su4 R R R R) (zc pz (zc pz (zc pz (zc pick_nil zn)))) fun k1 s1 x1l hN1 l2 => ?_)
 by_cases hk1 : k1 < 4
 refine fos l2 hk1 fun _ t2 l2 => ?_
 unfold spec_DrawFreeColorways_L1 at t2
 have c1 : (decide (((k1 : Nat) : Int) < 4)) = true := ddt (by omega)
 refine wcs (wcr (mv R R (wlq (pls R R) R (wnt (wft R c1 (wck (wqt (wcs (wcb (wcr (mv R R (bdO t2 fun v4 hv4 t2 => (wlc (co_o1 [box x1 [(sl v0a), iv s1.2.1, iv s1.2.2]] fa_29 (zc pk1 some_refl) R fun w fp hw => c_spec_l02Cell w fp x1 a_code v0a ((rdo_arg r0) w fp hw) s1.2.1 s1.2.2 hw.ow hv4) R fun _ => (wle (eal (cs := [iv 0, iv 0, iv 0]) za_41) R fun b3 => (wls (sbx (cs' := [iv v4.1.Split, iv v4.1.A, iv v4.1.B]) tk_41 pz R R R R R R R) (wnt (wcg (wlq (pof fo_26_1 R) R (wlq (v := (sl x1l)) (plx tk_24 pk2 R R) R (wlq (v := .agg #[iv v4.1.Split, iv v4.1.A, iv v4.1.B]) (plb tk_41 pz R R R) R (wle (ebs R (sb_24_1 v4.1.Split v4.1.A v4.1.B)) R fun b4 => (gdO t2 fun g1 t2 => (wle (eo_append (xs := s1.1) (ys := ([v4.1] : List GCell)) ak_24 pk5 R R (slin_rd fun _ g => Rg.on (rgo (pbo pz (n := 1) (xs := ([v4.1] : List GCell)) R R (by unfold maxLen; omega))) g) g1) R fun x6 => ?_)))))))))))))))))))))))
 refine wlq (pof fo_26_1 R) R (wls (sbx (cs' := [iv 2, (sl x6)]) tk_24 pk4 R R R R R R R) (wln (wqb (wqt (wcg (mv R R (wlq (po_inc R R (by omega)) R ?_)))))))
 exact asg R R (wln (wq_rnd hk1 (stpN l2 t2) x6 (su4 R R R R) (zc pz (zc pk3 (zc pk3 so1)))))
 have c1 : (decide (((k1 : Nat) : Int) < 4)) = false := ddf (by omega)
 have en1 := foe l2 hk1
 exact wcs (wcr (mv R R (wlq (pls R R) R (wnt (wff R c1 (wcx (wqe (wqe (wbx (wjm _ x1l (Sum.inl.inj en1) (su3 R R R) so4))))))))))
 intro e1 x5 hp
 obtain rfl : e1 = y2 := hp.symm
 exact wjm _ x5 (mtE t1) (su3 R R R) so4
 exact wck (wjm _ x2 (mtE t1) (su3 R R R) (zc pk1 so3))
 intro j2 x4 hp
 obtain rfl : j2 = y1 := hp.symm
 refine wqt (wcs (wcr (mv R R (bdO t0 fun v5 hv5 t0 => (wlc (co_o1 [box x1 [(sl v0a), iv ((j2.2).i), iv ((j2.2).h)]] fa_30 (zc pk1 some_refl) R fun w fp hw => c_spec_l01Once w fp x1 a_code v0a ((rdo_arg r0) w fp hw) ((j2.2).i) ((j2.2).h) 12 hw.ow hv5) R fun _ => (wnt (wcj (X := Unit) (fun _ => True) (fun _ => [(2, ptr b1 0), (4, ptr b2 0)]) (fun _ => [box b2 [iv (bif v5.1 then 9 else (j2.1).Size), (sl x4)], box b1 [iv 0, (sl hn)], ownF (sl x4) ((j2.1).Cells)]) ?_ ?_)))))))
 refine wc_cond R (fun h3 => ?_) fun h3 => ?_
 exact wcg (wlq (pof fo_26_0 R) R (wls (sbx (cs' := [iv 9, (sl x4)]) tk_3 pk1 R R R R R R R) (wln (wqm () trivial (su2 R R) (zc (by simp only [h3, cond_true]; exact pz) (zc pk1 (zc pk1 zn)))))))
 exact wck (wqm () trivial (su2 R R) (zc (by simp only [h3, cond_false]; exact pk1) (zc pk1 (zc pk1 zn))))
 intro _ _
 refine wqt (wcr (wlq (v := .agg #[iv (bif v5.1 then 9 else (j2.1).Size), (sl x4)]) (plb tk_26 pz R R R) R (wls (sbx (cs' := [iv (bif v5.1 then 9 else (j2.1).Size), (sl x4)]) tk_26 pk1 R R R R R R R) (wnt (wct ?_)))))
 obtain rfl := oi t0
 exact wqc R tk_26 R pz R fun w hw => ⟨x4, R, hw.weak (zc pk2 zn)⟩

theorem c_impl_MirrorCell (w : World) (a_c : GCell) {r : GCell} (t0 : impl_MirrorCell a_c = some r) : Calls Tryd.prog 84 #[.agg #[.int .i64 a_c.Split, .int .i64 a_c.A, .int .i64 a_c.B]] w fun e w' => e = .returned (.agg #[.int .i64 r.Split, .int .i64 r.A, .int .i64 r.B]) ∧ SH w [] [] w' := by
 refine cwc (args := [_]) Tryd.func84 R Tryd.ntmps84 R ?_
 unfold impl_MirrorCell at t0
 refine wcr (wle (eo_box R R) R fun b1 => (wle (eal (cs := [iv 0, iv 0, iv 0]) za_41) R fun b2 => (wnt (wcs (wcb (wcr (wlq (v := .agg #[iv a_c.Split, iv a_c.A, iv a_c.B]) (plb tk_41 pk1 R R R) R (bdO t0 fun v1 hv1 t0 => (wlc (cz0 fa_39 R fun w hw => c_impl_CellOk w a_c hv1) R fun _ => (wlq (po_not R) R (asg R R (wnt (wcO t0 R (fun h1 t0 => ?_) fun h1 t0 => ?_)))))))))))))
 refine wcr (wlq (po_build R bd_41) R (wls (sbx (cs' := [iv 0, iv 0, iv 0]) tk_41 pz R R R R R R R) (wnt (wct (wbr (wqr ?_))))))
 obtain rfl := oi t0
 exact wqc R tk_41 R pz R fun w hw => ⟨R, hw.weak zn⟩
 refine wcr (wlq (pof fo_41_0 R) R (wlq (v := iv a_c.Split) (plx tk_3 pk1 R R) R (wlq (pol R R) R (asg R R (wnt (wcO t0 R (fun h2 t0 => ?_) fun h2 t0 => ?_))))))
 refine wcr (wlq (v := .agg #[iv a_c.Split, iv a_c.A, iv a_c.B]) (plb tk_41 pk1 R R R) R (wls (sbx (cs' := [iv a_c.Split, iv a_c.A, iv a_c.B]) tk_41 pz R R R R R R R) (wnt (wct (wbr (wqr ?_))))))
 obtain rfl := oi t0
 exact wqc R tk_41 R pz R fun w hw => ⟨R, hw.weak zn⟩
 refine wck (wqb (wqt (wcr (wlq (pof fo_41_0 R) R (wlq (v := iv a_c.Split) (plx tk_3 pk1 R R) R (wlq (po_sub R R) R (wlq (pof fo_41_2 R) R (wlq (v := iv a_c.B) (plx tk_3 pk1 R R) R (wlq (pof fo_41_1 R) R (wlq (v := iv a_c.A) (plx tk_3 pk1 R R) R (wlq (po_build R (bd_41_0_1_2 (wr (3 - a_c.Split)) a_c.B a_c.A)) R (wls (sbx (cs' := [iv (wr (3 - a_c.Split)), iv a_c.B, iv a_c.A]) tk_41 pz R R R R R R R) (wnt (wct ?_))))))))))))))
 obtain rfl := oi t0
 exact wqc R tk_41 R pz R fun w hw => ⟨R, hw.weak zn⟩

theorem c_impl_MirrorBlock_c1 (w : World) (a_x : Int) (a_y : Int) (c_p2 : GBlock) (v0a : Hd) (r0 : rdF w (dm w []) (sl v0a) c_p2.Cells) (b2c : Nat) (q2 : Bx w b2c [.int .i64 c_p2.Size, (sl v0a)]) {r : GCell} (t0 : impl_MirrorBlock_c1 a_x a_y c_p2 = some r) : Calls Tryd.prog 83 #[.int .i64 a_x, .int .i64 a_y, ptr b2c 0] w fun e w' => e = .returned (.agg #[.int .i64 r.Split, .int .i64 r.A, .int .i64 r.B]) ∧ SH w [] [] w' := by
 refine cwc (args := [_, _, _]) Tryd.func83 R Tryd.ntmps83 R ?_
 unfold impl_MirrorBlock_c1 at t0
 refine wcr (wle (eal (cs := [iv 0, iv 0, iv 0]) za_41) R fun b1 => (wnt (wcr (wlq (v := .agg #[iv c_p2.Size, (sl v0a)]) (po_load_aboxs q2 tk_26 R R R) R (wlq (pof fo_26_0 R) R (wlq (v := iv c_p2.Size) (po_load_abox q2 tk_3 R R) R (wlq (po_sub R R) R (mv R R (wlq (po_sub R R) R (mv R R (bdO t0 fun v1 hv1 t0 => (wlc (cz0 fa_46 R fun w hw => c_impl_CellAt w c_p2 v0a (ra r0 hw) (wr ((wr (c_p2.Size - 1)) - a_x)) a_y hv1) R fun _ => (bdO t0 fun v2 hv2 t0 => (wlc (cz0 fa_84 R fun w hw => c_impl_MirrorCell w v1 hv2) R fun _ => (wls (sbx (cs' := [iv v2.Split, iv v2.A, iv v2.B]) tk_41 pz R R R R R R R) (wnt (wct ?_)))))))))))))))))
 obtain rfl := oi t0
 exact wqc R tk_41 R pz R fun w hw => ⟨R, hw.weak zn⟩

theorem c_impl_MirrorBlock (w : World) (a_b : GBlock) (v0a : Hd) (r0 : rdF w (dm w []) (sl v0a) a_b.Cells) {r : GBlock} (t0 : impl_MirrorBlock a_b = some r) : Calls Tryd.prog 77 #[.agg #[.int .i64 a_b.Size, (sl v0a)]] w fun e w' => ∃ x : Hd, e = .returned (.agg #[.int .i64 r.Size, (sl x)]) ∧ SH w [] [ownF (sl x) r.Cells] w' := by
 refine cwc (args := [_]) Tryd.func77 R Tryd.ntmps77 R ?_
 unfold impl_MirrorBlock at t0
 refine wcr (wle (eo_box R R) R fun b1 => (wle (eal (cs := [iv 0, (sl hn)]) za_26) R fun b2 => (wnt (wcs (wcr (wlq (v := .agg #[iv a_b.Size, (sl v0a)]) (plb tk_26 pk1 R R R) R (bdO t0 fun v1 hv1 t0 => (wlc (cz0 fa_19 R fun w hw => c_impl_BlockOk w a_b v0a (ra r0 hw) hv1) R fun _ => (wlq (po_not R) R (wnt (wcO t0 R (fun h1 t0 => ?_) fun h1 t0 => ?_)))))))))))
 refine wcr (wlq (po_build R bd_26) R (wls (sbx (cs' := [iv 0, (sl hn)]) tk_26 pz R R R R R R R) (wnt (wct (wqr ?_)))))
 obtain rfl := oi t0
 exact wqc R tk_26 R pz R fun w hw => ⟨hn, R, hw.weak (zc pick_nil zn)⟩
 refine wck (wqt (wcr (wlq (pof fo_26_0 R) R (wlq (v := iv a_b.Size) (plx tk_3 pk1 R R) R (wlq (po_makeFunc R) R (bdO t0 fun v2 hv2 t0 => (wlc (cz1 fa_43 R fun w hw => c_impl_made w a_b.Size (fun z0 z1 => impl_MirrorBlock_c1 z0 z1 a_b) 83 [ptr b1 0] fa_83 (fun w2 z0 z1  hk _ hz => c_impl_MirrorBlock_c1 w2 z0 z1 a_b v0a (RdL.later (ra r0 hw) hk) b1 (Bx.keep (hw.at_box pk1) hk) hz) hv2) R fun x1 => (wls (sbx (cs' := [iv v2.Size, (sl x1)]) tk_26 pk1 R R R R R R R) (wnt (wct ?_))))))))))
 obtain rfl := oi t0
 exact wqc R tk_26 R pz R fun w hw => ⟨x1, R, hw.weak (zc pk1 zn)⟩

theorem c_impl_TurnCell (w : World) (a_c : GCell) {r : GCell} (t0 : impl_TurnCell a_c = some r) : Calls Tryd.prog 86 #[.agg #[.int .i64 a_c.Split, .int .i64 a_c.A, .int .i64 a_c.B]] w fun e w' => e = .returned (.agg #[.int .i64 r.Split, .int .i64 r.A, .int .i64 r.B]) ∧ SH w [] [] w' := by
 refine cwc (args := [_]) Tryd.func86 R Tryd.ntmps86 R ?_
 unfold impl_TurnCell at t0
 refine wcr (wle (eo_box R R) R fun b1 => (wle (eal (cs := [iv 0, iv 0, iv 0]) za_41) R fun b2 => (wnt (wcs (wcb (wcr (wlq (v := .agg #[iv a_c.Split, iv a_c.A, iv a_c.B]) (plb tk_41 pk1 R R R) R (bdO t0 fun v1 hv1 t0 => (wlc (cz0 fa_39 R fun w hw => c_impl_CellOk w a_c hv1) R fun _ => (wlq (po_not R) R (asg R R (wnt (wcO t0 R (fun h1 t0 => ?_) fun h1 t0 => ?_)))))))))))))
 refine wcr (wlq (po_build R bd_41) R (wls (sbx (cs' := [iv 0, iv 0, iv 0]) tk_41 pz R R R R R R R) (wnt (wct (wbr (wqr ?_))))))
 obtain rfl := oi t0
 exact wqc R tk_41 R pz R fun w hw => ⟨R, hw.weak zn⟩
 refine wcr (wlq (pof fo_41_0 R) R (wlq (v := iv a_c.Split) (plx tk_3 pk1 R R) R (wlq (pol R R) R (asg R R (wnt (wcO t0 R (fun h2 t0 => ?_) fun h2 t0 => ?_))))))
 refine wcr (wlq (pof fo_41_2 R) R (wlq (v := iv a_c.B) (plx tk_3 pk1 R R) R (wlq (pof fo_41_1 R) R (wlq (v := iv a_c.A) (plx tk_3 pk1 R R) R (wlq (po_build R (bd_41_0_1_2 2 a_c.B a_c.A)) R (wls (sbx (cs' := [iv 2, iv a_c.B, iv a_c.A]) tk_41 pz R R R R R R R) (wnt (wct (wbr (wqr ?_))))))))))
 obtain rfl := oi t0
 exact wqc R tk_41 R pz R fun w hw => ⟨R, hw.weak zn⟩
 refine wcr (wlq (pof fo_41_0 R) R (wlq (v := iv a_c.Split) (plx tk_3 pk1 R R) R (wlq (pol R R) R (asg R R (wnt (wcO t0 R (fun h3 t0 => ?_) fun h3 t0 => ?_))))))
 refine wcr (wlq (pof fo_41_1 R) R (wlq (v := iv a_c.A) (plx tk_3 pk1 R R) R (wlq (pof fo_41_2 R) R (wlq (v := iv a_c.B) (plx tk_3 pk1 R R) R (wlq (po_build R (bd_41_0_1_2 1 a_c.A a_c.B)) R (wls (sbx (cs' := [iv 1, iv a_c.A, iv a_c.B]) tk_41 pz R R R R R R R) (wnt (wct (wbr (wqr ?_))))))))))
 obtain rfl := oi t0
 exact wqc R tk_41 R pz R fun w hw => ⟨R, hw.weak zn⟩
 refine wck (wqb (wqt (wcr (wlq (v := .agg #[iv a_c.Split, iv a_c.A, iv a_c.B]) (plb tk_41 pk1 R R R) R (wls (sbx (cs' := [iv a_c.Split, iv a_c.A, iv a_c.B]) tk_41 pz R R R R R R R) (wnt (wct ?_)))))))
 obtain rfl := oi t0
 exact wqc R tk_41 R pz R fun w hw => ⟨R, hw.weak zn⟩

theorem c_impl_TurnBlock_c1 (w : World) (a_x : Int) (a_y : Int) (c_p2 : GBlock) (v0a : Hd) (r0 : rdF w (dm w []) (sl v0a) c_p2.Cells) (b2c : Nat) (q2 : Bx w b2c [.int .i64 c_p2.Size, (sl v0a)]) {r : GCell} (t0 : impl_TurnBlock_c1 a_x a_y c_p2 = some r) : Calls Tryd.prog 85 #[.int .i64 a_x, .int .i64 a_y, ptr b2c 0] w fun e w' => e = .returned (.agg #[.int .i64 r.Split, .int .i64 r.A, .int .i64 r.B]) ∧ SH w [] [] w' := by
 refine cwc (args := [_, _, _]) Tryd.func85 R Tryd.ntmps85 R ?_
 unfold impl_TurnBlock_c1 at t0
 refine wcr (wle (eal (cs := [iv 0, iv 0, iv 0]) za_41) R fun b1 => (wnt (wcr (wlq (v := .agg #[iv c_p2.Size, (sl v0a)]) (po_load_aboxs q2 tk_26 R R R) R (mv R R (wlq (pof fo_26_0 R) R (wlq (v := iv c_p2.Size) (po_load_abox q2 tk_3 R R) R (wlq (po_sub R R) R (mv R R (wlq (po_sub R R) R (bdO t0 fun v1 hv1 t0 => (wlc (cz0 fa_46 R fun w hw => c_impl_CellAt w c_p2 v0a (ra r0 hw) a_y (wr ((wr (c_p2.Size - 1)) - a_x)) hv1) R fun _ => (bdO t0 fun v2 hv2 t0 => (wlc (cz0 fa_86 R fun w hw => c_impl_TurnCell w v1 hv2) R fun _ => (wls (sbx (cs' := [iv v2.Split, iv v2.A, iv v2.B]) tk_41 pz R R R R R R R) (wnt (wct ?_)))))))))))))))))
 obtain rfl := oi t0
 exact wqc R tk_41 R pz R fun w hw => ⟨R, hw.weak zn⟩

theorem c_impl_TurnBlock (w : World) (a_b : GBlock) (v0a : Hd) (r0 : rdF w (dm w []) (sl v0a) a_b.Cells) {r : GBlock} (t0 : impl_TurnBlock a_b = some r) : Calls Tryd.prog 78 #[.agg #[.int .i64 a_b.Size, (sl v0a)]] w fun e w' => ∃ x : Hd, e = .returned (.agg #[.int .i64 r.Size, (sl x)]) ∧ SH w [] [ownF (sl x) r.Cells] w' := by
 refine cwc (args := [_]) Tryd.func78 R Tryd.ntmps78 R ?_
 unfold impl_TurnBlock at t0
 refine wcr (wle (eo_box R R) R fun b1 => (wle (eal (cs := [iv 0, (sl hn)]) za_26) R fun b2 => (wnt (wcs (wcr (wlq (v := .agg #[iv a_b.Size, (sl v0a)]) (plb tk_26 pk1 R R R) R (bdO t0 fun v1 hv1 t0 => (wlc (cz0 fa_19 R fun w hw => c_impl_BlockOk w a_b v0a (ra r0 hw) hv1) R fun _ => (wlq (po_not R) R (wnt (wcO t0 R (fun h1 t0 => ?_) fun h1 t0 => ?_)))))))))))
 refine wcr (wlq (po_build R bd_26) R (wls (sbx (cs' := [iv 0, (sl hn)]) tk_26 pz R R R R R R R) (wnt (wct (wqr ?_)))))
 obtain rfl := oi t0
 exact wqc R tk_26 R pz R fun w hw => ⟨hn, R, hw.weak (zc pick_nil zn)⟩
 refine wck (wqt (wcr (wlq (pof fo_26_0 R) R (wlq (v := iv a_b.Size) (plx tk_3 pk1 R R) R (wlq (po_makeFunc R) R (bdO t0 fun v2 hv2 t0 => (wlc (cz1 fa_43 R fun w hw => c_impl_made w a_b.Size (fun z0 z1 => impl_TurnBlock_c1 z0 z1 a_b) 85 [ptr b1 0] fa_85 (fun w2 z0 z1  hk _ hz => c_impl_TurnBlock_c1 w2 z0 z1 a_b v0a (RdL.later (ra r0 hw) hk) b1 (Bx.keep (hw.at_box pk1) hk) hz) hv2) R fun x1 => (wls (sbx (cs' := [iv v2.Size, (sl x1)]) tk_26 pk1 R R R R R R R) (wnt (wct ?_))))))))))
 obtain rfl := oi t0
 exact wqc R tk_26 R pz R fun w hw => ⟨x1, R, hw.weak (zc pk1 zn)⟩

theorem c_impl_SeenFrom (w : World) (a_b : GBlock) (v0a : Hd) (r0 : rdF w (dm w []) (sl v0a) a_b.Cells) (a_k : Int) {r : GBlock} (t0 : impl_SeenFrom a_b a_k = some r) : Calls Tryd.prog 68 #[.agg #[.int .i64 a_b.Size, (sl v0a)], .int .i64 a_k] w fun e w' => ∃ x : Hd, e = .returned (.agg #[.int .i64 r.Size, (sl x)]) ∧ SH w [] [ownF (sl x) r.Cells] w' := by
 refine cwc (args := [_, _]) Tryd.func68 R Tryd.ntmps68 R ?_
 unfold impl_SeenFrom at t0
 refine wcr (wle (eo_box R R) R fun b1 => (wle (eal (cs := [iv 0, (sl hn)]) za_26) R fun b2 => (wnt (wcs (wcs (bdO t0 fun y1 t1 t0 => (wj (J := Bool) (X := Unit) (fun z => y1 = z) (fun z _ => [(1, iv a_k), (2, ptr b1 0), (4, ptr b2 0), (13, .bool z)]) (fun _ _ => [box b2 [iv 0, (sl hn)], box b1 [iv a_b.Size, (sl v0a)]]) ?_ ?_)))))))
 refine wcg (wlq (v := .agg #[iv a_b.Size, (sl v0a)]) (plb tk_26 pk1 R R R) R (bdO t1 fun v1 hv1 t1 => (wlc (cz0 fa_19 R fun w hw => c_impl_BlockOk w a_b v0a (ra r0 hw) hv1) R fun _ => (wlq (po_not R) R (mv R R (wlo (t := 9) t1 R (fun h1 t1 => ?_) fun h1 t1 => ?_))))))
 exact wgf (j := 3) R R R R R (wgf (j := 3) R R R R R (wgf (j := 3) R R R R R (wlq (pit R R) R (wln (wjm _ () (mtE t1) (su4 R R R R) so2)))))
 exact wgn (j := 3) R R R (mv R R (bdO t1 fun v2 hv2 t1 => (wgn (j := 3) R R R (wlc (cz0 fa_22 R fun w hw => c_impl_within w a_k 0 7 hv2) R (fun _ => (wgn (j := 3) R R R (wlq (po_not R) R (wlq (pif R R) R (wln (wjm _ () (mtE t1) (su4 R R R R) so2))))))))))
 intro j1 _ hp
 obtain rfl : j1 = y1 := hp.symm
 refine wqt (wcO t0 R (fun h2 t0 => ?_) fun h2 t0 => ?_)
 refine wcr (wlq (po_build R bd_26) R (wls (sbx (cs' := [iv 0, (sl hn)]) tk_26 pz R R R R R R R) (wnt (wct (wqr ?_)))))
 obtain rfl := oi t0
 exact wqc R tk_26 R pz R fun w hw => ⟨hn, R, hw.weak (zc pick_nil zn)⟩
 refine wck (wqt (wcr (wlq (v := .agg #[iv a_b.Size, (sl v0a)]) (plb tk_26 pk1 R R R) R (bdO t0 fun v3 hv3 t0 => (wlc (cz1 fa_42 R fun w hw => c_impl_Block_copied w a_b v0a (ra r0 hw) hv3) R fun x2 => (wle (eal (cs := [iv 0, (sl hn)]) za_26) R fun b3 => (wls (sbx (cs' := [iv v3.Size, (sl x2)]) tk_26 pz R R R R R R R) (wnt (wcs (wcr (mv R R (wlq (po_geq R R) R (wnt (bdO t0 fun y1 t1 t0 => (wj (J := GBlock) (X := Hd) (fun z => y1 = z) (fun _ _ => [(1, iv a_k), (4, ptr b2 0), (5, ptr b3 0)]) (fun z x => [box b3 [iv ((z).Size), (sl x)], box b2 [iv 0, (sl hn)], ownF (sl x) ((z).Cells)]) ?_ ?_)))))))))))))))
 refine wcO t1 R (fun h3 t1 => ?_) fun h3 t1 => ?_
 exact wcg (wlq (v := .agg #[iv a_b.Size, (sl v0a)]) (plb tk_26 pk3 R R R) R (bdO t1 fun v4 hv4 t1 => (wlc (cz1 fa_77 R fun w hw => c_impl_MirrorBlock w a_b v0a (ra r0 hw) hv4) R fun x4 => (wls (sbx (cs' := [iv v4.Size, (sl x4)]) tk_26 pk1 R R R R R R R) (wln (wjm _ x4 (mtE t1) (su3 R R R) (zc pz (zc pk2 so1))))))))
 exact wck (wjm _ x2 (mtE t1) (su3 R R R) (zc pz (zc pk1 so1)))
 intro j2 x3 hp
 obtain rfl : j2 = y1 := hp.symm
 refine wqt (wcs (wcr (mv R R (wlq (po_rem R R (by decide)) R ?_))))
 refine mv R R (wnt (gdO t0 fun g1 t0 => (lpO_inv t0 fun y1 l1 t0 => (wj (J := Int × (List GCell)) (X := Hd) (fun z => y1 = z) (fun _ _ => [(4, ptr b2 0), (5, ptr b3 0)]) (fun z x => [box b3 [iv z.1, (sl x)], box b2 [iv 0, (sl hn)], ownF (sl x) z.2]) ?_ ?_))))
 refine wcb (wcf (X := Hd) l1 (fun k1 s1 x1l => [(4, ptr b2 0), (5, ptr b3 0), (22, iv (a_k.tmod 4)), (23, iv ((k1 : Nat) : Int))]) (fun k1 s1 x1l => [box b3 [iv s1.1, (sl x1l)], box b2 [iv 0, (sl hn)], ownF (sl x1l) s1.2]) x3 (su4 R R R R) so3 fun k1 s1 x1l hN1 l1 => ?_)
 by_cases hk1 : k1 < ((a_k.tmod 4)).toNat
 refine fos l1 hk1 fun _ t1 l1 => ?_
 unfold impl_SeenFrom_L1 at t1
 have c1 : (decide (((k1 : Nat) : Int) < (a_k.tmod 4))) = true := ddt (by omega)
 refine wcr (wlq (pls R R) R (wnt (wcs (wft R c1 (wck (wqt (wcs (wcb (wcg (wlq (v := .agg #[iv s1.1, (sl x1l)]) (plb tk_26 pz R R R) R (bdO t1 fun v5 hv5 t1 => (wlc (cz1 fa_78 R fun w hw => c_impl_TurnBlock w (GBlock.mk s1.1 s1.2) x1l (Rg.on (rgo pk2) hw) hv5) R fun x6 => (wls (sbx (cs' := [iv v5.Size, (sl x6)]) tk_26 pk1 R R R R R R R) (wln (wqb (wqt (wcg (wlq (po_inc R R (by omega)) R ?_))))))))))))))))))
 exact mv R R (wln (wq_rnd hk1 (stpN l1 t1) x6 (su4 R R R R) (zc pz (zc pk1 so1))))
 have c1 : (decide (((k1 : Nat) : Int) < (a_k.tmod 4))) = false := ddf (by omega)
 have en1 := foe l1 hk1
 exact wcr (wlq (pls R R) R (wnt (wcs (wff R c1 (wcx (wqe (wqe (wbx (wjm _ x1l (Sum.inl.inj en1) (su2 R R) so3)))))))))
 intro e1 x5 hp
 obtain rfl : e1 = y1 := hp.symm
 refine wqt (wcr (wlq (v := .agg #[iv e1.1, (sl x5)]) (plb tk_26 pz R R R) R (wls (sbx (cs' := [iv e1.1, (sl x5)]) tk_26 pk1 R R R R R R R) (wnt (wct ?_)))))
 obtain rfl := oi t0
 exact wqc R tk_26 R pz R fun w hw => ⟨x5, R, hw.weak (zc pk2 zn)⟩

theorem c_impl_views (w : World) (a_b : GBlock) (v0a : Hd) (r0 : rdF w (dm w []) (sl v0a) a_b.Cells) {r : List GBlock} (t0 : impl_views a_b = some r) : Calls Tryd.prog 52 #[.agg #[.int .i64 a_b.Size, (sl v0a)]] w fun e w' => ∃ x : Hd × (List Value), e = .returned ((sl x.1)) ∧ SH w [] [own (sl x.1) x.2 r] w' := by
 refine cwc (args := [_]) Tryd.func52 R Tryd.ntmps52 R ?_
 unfold impl_views at t0
 refine wcr (wle (eo_box R R) R fun b1 => (asg R R (wnt (wcr (wle (ebs R sb_49_0) R fun b2 => (asg R R (wnt (wcs (wcr (mv R R (wnt (lpO_inv t0 fun y1 l1 t0 => (wj (J := List GBlock) (X := Hd × (List Value)) (fun z => y1 = z) (fun _ x => [(3, (sl x.1))]) (fun z x => [own (sl x.1) x.2 z]) ?_ ?_)))))))))))))
 refine wcb (wcf (X := Hd × (List Value)) l1 (fun k1 s1 x1l => [(1, ptr b1 0), (3, (sl x1l.1)), (6, iv ((k1 : Nat) : Int))]) (fun k1 s1 x1l => [box b1 [iv a_b.Size, (sl v0a)], own (sl x1l.1) x1l.2 s1]) ((⟨some ⟨b2, 0, none⟩, 0, 0⟩ : Hd), []) (su3 R R R) (zc pk1 (zc (pick_box_nil pz) zn)) fun k1 s1 x1l hN1 l1 => ?_)
 by_cases hk1 : k1 < 8
 refine fos l1 hk1 fun _ t1 l1 => ?_
 unfold impl_views_L1 at t1
 have c1 : (decide (((k1 : Nat) : Int) < 8)) = true := ddt (by omega)
 refine wcr (wlq (pls R R) R (wnt (wcs (wft R c1 (wck (wqt (wcs (wcb (wcr (mv R R (asg R R (wnt (wcg (mv R R (wlq (v := .agg #[iv a_b.Size, (sl v0a)]) (plb tk_26 pz R R R) R (mv R R (bdO t1 fun v1 hv1 t1 => (wlc (cz1 fa_68 R fun w hw => c_impl_SeenFrom w a_b v0a (ra r0 hw) ((k1 : Nat) : Int) hv1) R fun x2 => (wle (ebs R (sb_49_1 v1.Size x2)) R fun b3 => (gdO t1 fun g1 t1 => (wle (eo_append_one (us := x1l.2) (xs := s1) ak_49 pk3 (pow_GBlock (x := v1) pk1) pz R R R g1) R fun x3 => (asg R R (wln (wqb (wqt (wcg (wlq (po_inc R R (by omega)) R ?_)))))))))))))))))))))))))))
 exact mv R R (wln (wq_rnd hk1 (stpN l1 t1) (x3, (x1l.2 ++ [iv v1.Size, (sl x2)])) (su3 R R R) (zc pk2 so1)))
 have c1 : (decide (((k1 : Nat) : Int) < 8)) = false := ddf (by omega)
 have en1 := foe l1 hk1
 exact wcr (wlq (pls R R) R (wnt (wcs (wff R c1 (wcx (wqe (wqe (wbx (wjm _ (x1l.1, x1l.2) (Sum.inl.inj en1) (su1 R) (zc pk1 zn))))))))))
 intro e1 x1 hp
 obtain rfl : e1 = y1 := hp.symm
 refine wqt (wcr (mv R R (asg R R (wnt (wct ?_)))))
 obtain rfl := oi t0
 exact wq1 R R fun w hw => ⟨(x1.1, x1.2), R, hw.weak so1⟩


theorem c_impl_FormatInt (w : World) (a_n : Int) {r : Str} (t0 : impl_FormatInt a_n = some r) : Calls Tryd.prog 79 #[.int .i64 a_n] w fun e w' => e = .returned (bs r) ∧ SH w [] [] w' := by
 refine cwc (args := [_]) Tryd.func79 R Tryd.ntmps79 R ?_
 unfold impl_FormatInt at t0
 refine wcr (asg R R (wnt (wcr (mv R R (bdO t0 fun v1 hv1 t0 => (wlc (cz0 fa_87 R fun w hw => c_strconv_Itoa w a_n hv1) R fun _ => (asg R R (wnt (wct ?_)))))))))
 obtain rfl := oi t0
 exact wq1 R R fun w hw => ⟨R, hw.weak zn⟩

theorem c_impl_CellText (w : World) (a_c : GCell) {r : Str} (t0 : impl_CellText a_c = some r) : Calls Tryd.prog 69 #[.agg #[.int .i64 a_c.Split, .int .i64 a_c.A, .int .i64 a_c.B]] w fun e w' => e = .returned (bs r) ∧ SH w [] [] w' := by
 refine cwc (args := [_]) Tryd.func69 R Tryd.ntmps69 R ?_
 unfold impl_CellText at t0
 refine wcr (wle (eo_box R R) R fun b1 => (asg R R (wnt (wcs (wcr (wlq (v := .agg #[iv a_c.Split, iv a_c.A, iv a_c.B]) (plb tk_41 pz R R R) R (bdO t0 fun v1 hv1 t0 => (wlc (cz0 fa_39 R fun w hw => c_impl_CellOk w a_c hv1) R fun _ => (wlq (po_not R) R (wnt (wcO t0 R (fun h1 t0 => ?_) fun h1 t0 => ?_)))))))))))
 refine wcr (asg R R (wnt (wct (wqr ?_))))
 obtain rfl := oi t0
 exact wq1 R R fun w hw => ⟨R, hw.weak zn⟩
 refine wck (wqt (wcr (wle (ebs R (sb_80_3 (⟨[]⟩ : Str) (⟨[47]⟩ : Str) (⟨[92]⟩ : Str))) R fun b2 => (wlq (pof fo_41_0 R) R (wlq (v := iv a_c.Split) (plx tk_3 pk1 R R) R (gdO t0 fun g1 t0 => (wlq (po_ixr (rgo (pbo pz (n := 3) (xs := ([(⟨[]⟩ : Str), (⟨[47]⟩ : Str), (⟨[92]⟩ : Str)] : List Str)) R R (by unfold maxLen; omega))) el_80 R R g1.1 g1.2) R ?_)))))))
 refine wlq (v := bs (gx ([(⟨[]⟩ : Str), (⟨[47]⟩ : Str), (⟨[92]⟩ : Str)] : List Str) ((a_c.Split).toNat))) (po_ldf (rgo (pbo pz (n := 3) (xs := ([(⟨[]⟩ : Str), (⟨[47]⟩ : Str), (⟨[92]⟩ : Str)] : List Str)) R R (by unfold maxLen; omega))) tk_9 R (ix_lt g1) R) R ?_
 refine asg R R (wnt (wcs (wcr (mv R R (wlq (po_seql R R) R (wnt (wcO t0 R (fun h2 t0 => ?_) fun h2 t0 => ?_)))))))
 refine wcr (wlq (pof fo_41_1 R) R (wlq (v := iv a_c.A) (plx tk_3 pk1 R R) R (bdO t0 fun v2 hv2 t0 => (wlc (cz0 fa_79 R fun w hw => c_impl_FormatInt w a_c.A hv2) R fun _ => (asg R R (wnt (wct (wqr ?_))))))))
 obtain rfl := oi t0
 exact wq1 R R fun w hw => ⟨R, hw.weak zn⟩
 refine wck (wqt (wcs (wcd [box b2 [bs (⟨[]⟩ : Str), bs (⟨[47]⟩ : Str), bs (⟨[92]⟩ : Str)], box b1 [iv a_c.Split, iv a_c.A, iv a_c.B]] 10 mixed (aq 0 R (pof fo_41_1 R) so2 R (aq (v := iv a_c.A) 1 R (plx tk_3 pk1 R R) so2 R (aq 3 R (pom R) so2 R (aq 5 R (pof fo_41_2 R) so2 R (aq (v := iv a_c.B) 6 R (plx tk_3 pk1 R R) so2 R (a1 2 (bdO t0 fun v3 hv3 t0 => (wsc R (cz0 fa_79 R fun w hw => c_impl_FormatInt w a_c.A hv3) (fun _ => (zt so2)) R fun _ => (gdO t0 fun g2 t0 => (aq 4 R (po_sadd R R g2) so2 R (a1 7 (bdO t0 fun v4 hv4 t0 => (wsc R (cz0 fa_79 R fun w hw => c_impl_FormatInt w a_c.B hv4) (fun _ => (zt so2)) R fun _ => (gdO t0 fun g3 t0 => (aq 8 R (po_sadd R R g3) so2 R (aq 9 R (po_assign R) so2 R (ae (wqt (wct ?_))))))))))))))))))))))
 obtain rfl := oi t0
 exact wq1 R R fun w hw => ⟨R, hw.weak zn⟩

theorem c_impl_TextOf (w : World) (a_b : GBlock) (v0a : Hd) (r0 : rdF w (dm w []) (sl v0a) a_b.Cells) {r : Str} (t0 : impl_TextOf a_b = some r) : Calls Tryd.prog 53 #[.agg #[.int .i64 a_b.Size, (sl v0a)]] w fun e w' => e = .returned (bs r) ∧ SH w [] [] w' := by
 refine cwc (args := [_]) Tryd.func53 R Tryd.ntmps53 R ?_
 unfold impl_TextOf at t0
 refine wcr (wle (eo_box R R) R fun b1 => (asg R R (wnt (wcs (wcr (wlq (v := .agg #[iv a_b.Size, (sl v0a)]) (plb tk_26 pz R R R) R (bdO t0 fun v1 hv1 t0 => (wlc (cz0 fa_19 R fun w hw => c_impl_BlockOk w a_b v0a (ra r0 hw) hv1) R fun _ => (wlq (po_not R) R (wnt (wcO t0 R (fun h1 t0 => ?_) fun h1 t0 => ?_)))))))))))
 refine wcr (asg R R (wnt (wct (wqr ?_))))
 obtain rfl := oi t0
 exact wq1 R R fun w hw => ⟨R, hw.weak zn⟩
 refine wck (wqt (wcr (asg R R (wnt (wcs (wcr (wlq (pof fo_26_1 R) R (wlq (v := (sl v0a)) (plx tk_24 pz R R) R (wlq (pln (rga r0) el_24 R) R (mv R R (wnt (gdO t0 fun g1 t0 => (lpO_inv t0 fun y1 l1 t0 => (wj (J := Str) (X := Unit) (fun z => y1 = z) (fun z _ => [(3, bs z)]) (fun _ _ => []) ?_ ?_))))))))))))))
 refine wcb (wcf (X := Unit) l1 (fun k1 s1 x1l => [(3, bs s1), (10, (sl v0a)), (11, iv ((a_b.Cells.length : Nat) : Int)), (12, iv ((k1 : Nat) : Int))]) (fun k1 s1 x1l => []) () (su4 R R R R) zn fun k1 s1 x1l hN1 l1 => ?_)
 by_cases hk1 : k1 < a_b.Cells.length
 refine fos l1 hk1 fun _ t1 l1 => ?_
 unfold impl_TextOf_L1 at t1
 have c1 : (decide (((k1 : Nat) : Int) < ((a_b.Cells.length : Nat) : Int))) = true := ddt (by omega)
 refine wcr (wlq (pls R R) R (wnt (wcs (wft R c1 (wck (wqt (wcs (wcb (wcr (wlq (po_ixn (k := k1) (rga r0) el_24 R R hk1) R (wlq (v := .agg #[iv ((gx a_b.Cells k1).Split), iv ((gx a_b.Cells k1).A), iv ((gx a_b.Cells k1).B)]) (po_ldfs (rga r0) tk_41 R hk1 R R R) R (wle (eal (cs := [iv 0, iv 0, iv 0]) za_41) R fun b2 => (wls (sbx (cs' := [iv ((gx a_b.Cells k1).Split), iv ((gx a_b.Cells k1).A), iv ((gx a_b.Cells k1).B)]) tk_41 pz R R R R R R R) (wnt (wcg (mv R R (wlq (v := .agg #[iv ((gx a_b.Cells k1).Split), iv ((gx a_b.Cells k1).A), iv ((gx a_b.Cells k1).B)]) (plb tk_41 pz R R R) R (bdO t1 fun v2 hv2 t1 => (wlc (cz0 fa_69 R fun w hw => c_impl_CellText w (gx a_b.Cells k1) hv2) R fun _ => (gdO t1 fun g2 t1 => (wlq (po_sadd R R g2) R (gdO t1 fun g3 t1 => (wlq (po_sadd R R g3) R (asg R R (wln (wqb (wqt (wcg (wlq (po_inc R R (by omega)) R ?_)))))))))))))))))))))))))))))
 exact mv R R (wln (wq_rnd hk1 (stpN l1 t1) () (su4 R R R R) zn))
 have c1 : (decide (((k1 : Nat) : Int) < ((a_b.Cells.length : Nat) : Int))) = false := ddf (by omega)
 have en1 := foe l1 hk1
 exact wcr (wlq (pls R R) R (wnt (wcs (wff R c1 (wcx (wqe (wqe (wbx (wjm _ () (Sum.inl.inj en1) (su1 R) zn)))))))))
 intro e1 _ hp
 obtain rfl : e1 = y1 := hp.symm
 refine wqt (wcr (mv R R (asg R R (wnt (wct ?_)))))
 obtain rfl := oi t0
 exact wq1 R R fun w hw => ⟨R, hw.weak zn⟩

theorem c_impl_least (w : World) (fp : List Nat) (a_list : List GBlock) (v0a : Hd) (u0a : List Value) (o : Ow w [own (sl v0a) u0a a_list] fp) {r : GBlock} (t0 : impl_least a_list = some r) : Calls Tryd.prog 51 #[(sl v0a)] w fun e w' => ∃ x : Hd, e = .returned (.agg #[.int .i64 r.Size, (sl x)]) ∧ SH w fp [ownF (sl x) r.Cells] w' := by
  have hf0 : ∀ k, k < a_list.length → ∃ h : Hd, chunk u0a k (Rep.sz GBlock) = [.int .i64 (gx a_list k).Size, sl h] := fun k hk => by
    obtain ⟨⟨f1, f2, _, hown, _⟩, _⟩ := o
    have hr : RdL w (fun _ => True) (sl v0a) u0a a_list := OwL.rd hown (fun _ _ => trivial)
    have hx : a_list[k]? = some (gx a_list k) := by simp [gx, List.getD, hk]
    obtain ⟨h0, e, _⟩ := rd_GBlock.1 (hr.2.2 k _ hx)
    exact ⟨h0, e⟩
  obtain ⟨f, hf⟩ : ∃ f : Nat → Hd, ∀ k, k < a_list.length → chunk u0a k (Rep.sz GBlock) = [.int .i64 (gx a_list k).Size, sl (f k)] :=
    ⟨fun k => if h : k < a_list.length then (hf0 k h).choose else ⟨none, 0, 0⟩, fun k hk => by
      simp only [hk, dite_true]
      exact (hf0 k hk).choose_spec⟩
  refine calls_of_wc_own (args := [_]) o Tryd.func51 rfl Tryd.ntmps51 rfl ?_
  unfold impl_least at t0
  refine wcr ?_
  refine wle (eal (cs := [.int .i64 0, (sl (⟨none, 0, 0⟩ : Hd))]) za_26) rfl fun b1 => ?_
  refine wnt ?_
  refine wcr ?_
  refine mv rfl rfl ?_
  refine gdO t0 fun g1 t0 => ?_
  refine wlq (po_ixn (k := 0) (rgo (pickS pz)) el_49 rfl rfl g1) rfl ?_
  refine wlq (v := .agg #[.int .i64 ((gx a_list 0).Size), (sl (f 0))]) (po_ldns (rgo (pickS pz)) tk_26 rfl (hf 0 g1) rfl rfl rfl) rfl ?_
  refine wle (eal (cs := [.int .i64 0, (sl (⟨none, 0, 0⟩ : Hd))]) za_26) rfl fun b2 => ?_
  refine wls (sbx (cs' := [.int .i64 ((gx a_list 0).Size), (sl (f 0))]) tk_26 pz rfl rfl rfl rfl rfl rfl rfl) ?_
  refine wnt ?_
  refine wcs ?_
  refine wcr ?_
  refine mv rfl rfl ?_
  refine wlq (pln (rgo (pickS (pickS pz))) el_49 rfl) rfl ?_
  refine mv rfl rfl ?_
  refine wnt ?_
  refine gdO t0 fun g2 t0 => ?_
  refine lpO_inv t0 fun y1 l1 t0 => ?_
  refine wj (J := Nat) (X := Unit) (fun z => y1 = z) (fun _ _ => [(2, ptr b1 0), (3, ptr b2 0)]) (fun z _ => [box b2 [.int .i64 ((gx a_list z).Size), (sl (f z))], box b1 [.int .i64 0, (sl (⟨none, 0, 0⟩ : Hd))], own (sl v0a) u0a a_list]) ?_ ?_
  · skip
    refine wcb ?_
    refine wcf (X := Unit) l1 (fun k1 s1 x1l => [(2, ptr b1 0), (3, ptr b2 0), (9, (sl v0a)), (10, .int .i64 ((a_list.length : Nat) : Int)), (11, .int .i64 ((k1 : Nat) : Int))]) (fun k1 s1 x1l => [box b2 [.int .i64 ((gx a_list s1).Size), (sl (f s1))], box b1 [.int .i64 0, (sl (⟨none, 0, 0⟩ : Hd))], own (sl v0a) u0a a_list]) () (yc rfl (yc rfl (yc rfl (yc rfl (yc rfl yn))))) (zc pz (zc pz (zc pz zn))) fun k1 s1 x1l hN1 l1 => ?_
    by_cases hk1 : k1 < a_list.length
    · skip
      refine fos l1 hk1 fun _ t1 l1 => ?_
      unfold impl_least_L1 at t1
      have c1 : (decide (((k1 : Nat) : Int) < ((a_list.length : Nat) : Int))) = true := decide_eq_true (by omega)
      refine wcr ?_
      refine wlq (pls rfl rfl) rfl ?_
      refine wnt ?_
      refine wcs ?_
      refine wft rfl c1 ?_
      refine wck ?_
      refine wqt ?_
      refine wcs ?_
      refine wcb ?_
      refine gdO t1 fun g3 t1 => ?_
      refine wcr ?_
      refine wlq (po_ixn (k := k1) (rgo (pickS (pickS pz))) el_49 rfl rfl hk1) rfl ?_
      refine wlq (v := .agg #[.int .i64 ((gx a_list k1).Size), (sl (f k1))]) (po_ldns (rgo (pickS (pickS pz))) tk_26 rfl (hf k1 hk1) rfl rfl rfl) rfl ?_
      refine wle (eal (cs := [.int .i64 0, (sl (⟨none, 0, 0⟩ : Hd))]) za_26) rfl fun b3 => ?_
      refine wls (sbx (cs' := [.int .i64 ((gx a_list k1).Size), (sl (f k1))]) tk_26 pz rfl rfl rfl rfl rfl rfl rfl) ?_
      refine wnt ?_
      refine wcs ?_
      refine wcd [box b3 [.int .i64 ((gx a_list k1).Size), (sl (f k1))], box b2 [.int .i64 ((gx a_list s1).Size), (sl (f s1))], box b1 [.int .i64 0, (sl (⟨none, 0, 0⟩ : Hd))], own (sl v0a) u0a a_list] 5 mixed ?_
      refine wa_pure (v := .agg #[.int .i64 ((gx a_list k1).Size), (sl (f k1))]) 0 rfl (plb tk_26 pz rfl rfl rfl) (zc pz (zc pz (zc pz (zc pz zn)))) rfl (by kernel_rfl) (fun _ _ _ h => h) ?_
      refine wa_pure (v := .agg #[.int .i64 ((gx a_list s1).Size), (sl (f s1))]) 2 rfl (plb tk_26 (pickS pz) rfl rfl rfl) (zc pz (zc pz (zc pz (zc pz zn)))) rfl (by kernel_rfl) (fun _ _ _ h => h) ?_
      refine wa_1 (i := 1) (by kernel_rfl) ?_
      refine bdO t1 fun v1 hv1 t1 => ?_
      refine wsc rfl (cz0 fa_53 rfl fun w hw => c_impl_TextOf w (gx a_list k1) (f k1) (Rg.on (er_GBlock_0 (hf k1 hk1) (rgo (pickS (pickS (pickS pz)))) hk1) hw) hv1) (fun _ => (zt (zc pz (zc pz (zc pz (zc pz zn)))))) rfl fun _ => ?_
      refine wa_1 (i := 3) (by kernel_rfl) ?_
      refine bdO t1 fun v2 hv2 t1 => ?_
      refine wsc rfl (cz0 fa_53 rfl fun w hw => c_impl_TextOf w (gx a_list s1) (f s1) (Rg.on (er_GBlock_0 (hf s1 g3) (rgo (pickS (pickS (pickS pz)))) g3) hw) hv2) (fun _ => (zt (zc pz (zc pz (zc pz (zc pz zn)))))) rfl fun _ => ?_
      refine wa_pure 4 rfl (po_slss rfl rfl) (zc pz (zc pz (zc pz (zc pz zn)))) rfl (by kernel_rfl) (fun _ _ _ h => h) ?_
      refine wa_done (by kernel_rfl) ?_
      refine wqt ?_
      refine wcj (X := Unit) (fun _ => True) (fun _ => [(2, ptr b1 0), (3, ptr b2 0), (9, (sl v0a)), (10, .int .i64 ((a_list.length : Nat) : Int)), (11, .int .i64 ((k1 : Nat) : Int))]) (fun _ => [box b2 [.int .i64 ((gx a_list (bif slt v1 v2 then k1 else s1)).Size), (sl (f (bif slt v1 v2 then k1 else s1)))], box b1 [.int .i64 0, (sl (⟨none, 0, 0⟩ : Hd))], own (sl v0a) u0a a_list]) ?_ ?_
      · skip
        refine wc_cond rfl (fun h2 => ?_) fun h2 => ?_
        · skip
          refine wcg ?_
          refine wlq (v := .agg #[.int .i64 ((gx a_list k1).Size), (sl (f k1))]) (plb tk_26 pz rfl rfl rfl) rfl ?_
          refine wls (sbx (cs' := [.int .i64 ((gx a_list k1).Size), (sl (f k1))]) tk_26 (pickS pz) rfl rfl rfl rfl rfl rfl rfl) ?_
          refine wln ?_
          rw [h2]
          exact wqm () trivial (yc rfl (yc rfl (yc rfl (yc rfl (yc rfl yn))))) (zc pz (zc (pickS pz) (zc (pickS pz) zn)))
        refine wck ?_
        rw [h2]
        exact wqm () trivial (yc rfl (yc rfl (yc rfl (yc rfl (yc rfl yn))))) (zc (pickS pz) (zc (pickS pz) (zc (pickS pz) zn)))
      intro x4 _
      refine wqb ?_
      refine wqt ?_
      refine wcg ?_
      refine wlq (po_inc rfl rfl (by omega)) rfl ?_
      refine mv rfl rfl ?_
      refine wln ?_
      exact wq_rnd hk1 (stpN l1 t1) () (yc rfl (yc rfl (yc rfl (yc rfl (yc rfl yn))))) (zc pz (zc pz (zc pz zn)))
    have c1 : (decide (((k1 : Nat) : Int) < ((a_list.length : Nat) : Int))) = false := decide_eq_false (by omega)
    have en1 := foe l1 hk1
    refine wcr ?_
    refine wlq (pls rfl rfl) rfl ?_
    refine wnt ?_
    refine wcs ?_
    refine wff rfl c1 ?_
    refine wcx ?_
    refine wqe ?_
    refine wqe ?_
    refine wbx ?_
    exact wjm _ () (Sum.inl.inj en1) (yc rfl (yc rfl yn)) (zc pz (zc pz (zc pz zn)))
  intro e1 x2 hp
  obtain rfl : e1 = y1 := hp.symm
  refine gdO t0 fun g4 t0 => ?_
  refine wqt ?_
  refine wcr ?_
  refine wlq (v := .agg #[.int .i64 ((gx a_list e1).Size), (sl (f e1))]) (plb tk_26 pz rfl rfl rfl) rfl ?_
  refine wls (sbx (cs' := [.int .i64 ((gx a_list e1).Size), (sl (f e1))]) tk_26 (pickS pz) rfl rfl rfl rfl rfl rfl rfl) ?_
  refine wnt ?_
  refine wct ?_
  obtain rfl := Option.some.inj t0
  exact wqc rfl tk_26 rfl pz rfl fun w hw => ⟨f e1, rfl, ((hw.ent (take_elem (pickS (pickS pz)) g4 (hf e1 g4))).ent un_GBlock).weak (zc pz zn)⟩

theorem c_impl_LeastForm (w : World) (a_b : GBlock) (v0a : Hd) (r0 : rdF w (dm w []) (sl v0a) a_b.Cells) {r : GBlock} (t0 : impl_LeastForm a_b = some r) : Calls Tryd.prog 31 #[.agg #[.int .i64 a_b.Size, (sl v0a)]] w fun e w' => ∃ x : Hd, e = .returned (.agg #[.int .i64 r.Size, (sl x)]) ∧ SH w [] [ownF (sl x) r.Cells] w' := by
 refine cwc (args := [_]) Tryd.func31 R Tryd.ntmps31 R ?_
 unfold impl_LeastForm at t0
 refine wcr (wle (eo_box R R) R fun b1 => (wle (eal (cs := [iv 0, (sl hn)]) za_26) R fun b2 => (wnt (wcs (wcr (wlq (v := .agg #[iv a_b.Size, (sl v0a)]) (plb tk_26 pk1 R R R) R (bdO t0 fun v1 hv1 t0 => (wlc (cz0 fa_19 R fun w hw => c_impl_BlockOk w a_b v0a (ra r0 hw) hv1) R fun _ => (wlq (po_not R) R (wnt (wcO t0 R (fun h1 t0 => ?_) fun h1 t0 => ?_)))))))))))
 refine wcr (wlq (po_build R bd_26) R (wls (sbx (cs' := [iv 0, (sl hn)]) tk_26 pz R R R R R R R) (wnt (wct (wqr ?_)))))
 obtain rfl := oi t0
 exact wqc R tk_26 R pz R fun w hw => ⟨hn, R, hw.weak (zc pick_nil zn)⟩
 refine wck (wqt (wcr (wlq (v := .agg #[iv a_b.Size, (sl v0a)]) (plb tk_26 pk1 R R R) R (bdO t0 fun v2 hv2 t0 => (wlc (cz1 fa_52 R fun w hw => c_impl_views w a_b v0a (ra r0 hw) hv2) R fun x1 => (bdO t0 fun v3 hv3 t0 => (wlc (co_o1 [own (sl x1.1) x1.2 v2] fa_51 (zc pz some_refl) R fun w fp hw => c_impl_least w fp v2 x1.1 x1.2 hw.ow hv3) R fun x2 => (wls (sbx (cs' := [iv v3.Size, (sl x2)]) tk_26 pk1 R R R R R R R) (wnt (wct ?_))))))))))
 obtain rfl := oi t0
 exact wqc R tk_26 R pz R fun w hw => ⟨x2, R, hw.weak (zc pk1 zn)⟩

theorem c_impl_countDifferent (w : World) (a_list : List GBlock) (v0a : Hd) (u0a : List Value) (r0 : RdL w (dm w []) (sl v0a) u0a a_list) {r : Int} (t0 : impl_countDifferent a_list = some r) : Calls Tryd.prog 32 #[(sl v0a)] w fun e w' => e = .returned (.int .i64 r) ∧ SH w [] [] w' := by
 refine cwc (args := [_]) Tryd.func32 R Tryd.ntmps32 R ?_
 unfold impl_countDifferent at t0
 refine wcr (asg R R (wnt (wcr (wle eo_map R fun b1 => (asg R R (wnt (wcs (wcr (mv R R (wlq (pln (rga r0) el_49 R) R (mv R R (wnt (gdO t0 fun g1 t0 => (lpO_inv t0 fun y1 l1 t0 => (wj (J := List Str) (X := Unit) (fun z => y1 = z) (fun _ _ => [(3, mref b1)]) (fun z _ => [mp b1 z]) ?_ ?_)))))))))))))))
 refine wcb (wcf (X := Unit) l1 (fun k1 s1 x1l => [(3, mref b1), (7, (sl v0a)), (8, iv ((a_list.length : Nat) : Int)), (9, iv ((k1 : Nat) : Int))]) (fun k1 s1 x1l => [mp b1 s1]) () (su4 R R R R) so1 fun k1 s1 x1l hN1 l1 => ?_)
 by_cases hk1 : k1 < a_list.length
 refine fos l1 hk1 fun _ t1 l1 => ?_
 unfold impl_countDifferent_L1 at t1
 have c1 : (decide (((k1 : Nat) : Int) < ((a_list.length : Nat) : Int))) = true := ddt (by omega)
 refine wcr (wlq (pls R R) R (wnt (wcs (wft R c1 (wck (wqt (wcs (wcb (wcr (wlq (po_ixn (k := k1) (rga r0) el_49 R R hk1) R (wl_elem (rga r0) hk1 ?_)))))))))))
 rintro ⟨_, _, he1⟩
 obtain ⟨w1, hc1, _⟩ := rd_GBlock.1 he1
 refine wlq (v := .agg #[iv ((gx a_list k1).Size), (sl w1)]) (po_ldns (rga r0) tk_26 R hc1 R R R) R (wle (eal (cs := [iv 0, (sl hn)]) za_26) R fun b2 => (wls (sbx (cs' := [iv ((gx a_list k1).Size), (sl w1)]) tk_26 pz R R R R R R R) (wnt (wcg (mv R R (wlq (v := .agg #[iv ((gx a_list k1).Size), (sl w1)]) (plb tk_26 pz R R R) R (bdO t1 fun v1 hv1 t1 => (wlc (cz0 fa_53 R fun w hw => c_impl_TextOf w (gx a_list k1) w1 (Rg.on (er_GBlock_0 hc1 (rga r0) hk1) hw) hv1) R fun _ => (wls (so_put mt_68 pk1 R R R R) (wln (wqb (wqt (wcg (wlq (po_inc R R (by omega)) R ?_))))))))))))))
 exact mv R R (wln (wq_rnd hk1 (stpN l1 t1) () (su4 R R R R) so1))
 have c1 : (decide (((k1 : Nat) : Int) < ((a_list.length : Nat) : Int))) = false := ddf (by omega)
 have en1 := foe l1 hk1
 exact wcr (wlq (pls R R) R (wnt (wcs (wff R c1 (wcx (wqe (wqe (wbx (wjm _ () (Sum.inl.inj en1) (su1 R) so1)))))))))
 intro e1 _ hp
 obtain rfl : e1 = y1 := hp.symm
 refine wqt (wcr (mv R R (wlq (po_mlen mt_68 pz R) R (asg R R (wnt (wct ?_))))))
 obtain rfl := oi t0
 exact wq1 R R fun w hw => ⟨R, hw.weak zn⟩

theorem c_impl_FreeColorways (w : World) (a_b : GBlock) (v0a : Hd) (r0 : rdF w (dm w []) (sl v0a) a_b.Cells) {r : Int} (t0 : impl_FreeColorways a_b = some r) : Calls Tryd.prog 14 #[.agg #[.int .i64 a_b.Size, (sl v0a)]] w fun e w' => e = .returned (.int .i64 r) ∧ SH w [] [] w' := by
 refine cwc (args := [_]) Tryd.func14 R Tryd.ntmps14 R ?_
 unfold impl_FreeColorways at t0
 refine wcr (wle (eo_box R R) R fun b1 => (asg R R (wnt (wcs (wcs (bdO t0 fun y1 t1 t0 => (wj (J := Bool) (X := Unit) (fun z => y1 = z) (fun z _ => [(1, ptr b1 0), (15, .bool z)]) (fun _ _ => [box b1 [iv a_b.Size, (sl v0a)]]) ?_ ?_)))))))
 refine wcg (wlq (v := .agg #[iv a_b.Size, (sl v0a)]) (plb tk_26 pz R R R) R (bdO t1 fun v1 hv1 t1 => (wlc (cz0 fa_19 R fun w hw => c_impl_BlockOk w a_b v0a (ra r0 hw) hv1) R fun _ => (wlq (po_not R) R (mv R R (wlo (t := 10) t1 R (fun h1 t1 => ?_) fun h1 t1 => ?_))))))
 exact wgf (j := 3) R R R R R (wgf (j := 3) R R R R R (wgf (j := 3) R R R R R (wgf (j := 3) R R R R R (wlq (pit R R) R (wln (wjm _ () (mtE t1) (su2 R R) so1))))))
 exact wgn (j := 3) R R R (wlq (v := .agg #[iv a_b.Size, (sl v0a)]) (plb tk_26 pz R R R) R (bdO t1 fun v2 hv2 t1 => (wgn (j := 3) R R R (wlc (cz1 fa_21 R fun w hw => c_impl_ColorsOf w a_b v0a (ra r0 hw) hv2) R (fun x2 => (wgn (j := 3) R R R (wlq (pln (rgo pz) el_29 R) R (wgn (j := 3) R R R (wlq (po_gtr R R) R (wlq (pif R R) R (wln (wjm _ () (mtE t1) (su2 R R) (zc pk1 zn)))))))))))))
 intro j1 _ hp
 obtain rfl : j1 = y1 := hp.symm
 refine wqt (wcO t0 R (fun h2 t0 => ?_) fun h2 t0 => ?_)
 refine wcr (asg R R (wnt (wct (wqr ?_))))
 obtain rfl := oi t0
 exact wq1 R R fun w hw => ⟨R, hw.weak zn⟩
 refine wck (wqt (wcr (wle (ebs R sb_49_0) R fun b2 => (asg R R (wnt (wcs (wcr (wlq (v := .agg #[iv a_b.Size, (sl v0a)]) (plb tk_26 pk1 R R R) R (bdO t0 fun v3 hv3 t0 => (wlc (cz0 fa_6 R fun w hw => c_impl_ColorwayCount w a_b v0a (ra r0 hw) hv3) R fun _ => (mv R R (wnt (gdO t0 fun g1 t0 => (lpO_inv t0 fun y1 l1 t0 => (wj (J := List GBlock) (X := Hd × (List Value)) (fun z => y1 = z) (fun _ x => [(3, (sl x.1))]) (fun z x => [own (sl x.1) x.2 z]) ?_ ?_)))))))))))))))
 refine wcb (wcf (X := Hd × (List Value)) l1 (fun k1 s1 x1l => [(1, ptr b1 0), (3, (sl x1l.1)), (18, iv v3), (19, iv ((k1 : Nat) : Int))]) (fun k1 s1 x1l => [box b1 [iv a_b.Size, (sl v0a)], own (sl x1l.1) x1l.2 s1]) ((⟨some ⟨b2, 0, none⟩, 0, 0⟩ : Hd), []) (su4 R R R R) (zc pk1 (zc (pick_box_nil pz) zn)) fun k1 s1 x1l hN1 l1 => ?_)
 by_cases hk1 : k1 < (v3).toNat
 refine fos l1 hk1 fun _ t1 l1 => ?_
 unfold impl_FreeColorways_L1 at t1
 have c1 : (decide (((k1 : Nat) : Int) < v3)) = true := ddt (by omega)
 refine wcr (wlq (pls R R) R (wnt (wcs (wft R c1 (wck (wqt (wcs (wcb (wcr (mv R R (asg R R (wnt (wcr (wlq (v := .agg #[iv a_b.Size, (sl v0a)]) (plb tk_26 pz R R R) R (mv R R (bdO t1 fun v4 hv4 t1 => (wlc (cz1 fa_9 R fun w hw => c_impl_ColorwayAt w a_b v0a (ra r0 hw) ((k1 : Nat) : Int) hv4) R fun x4 => (mv R R (wlq (pex R R) R (wlq (pex R R) R (wle (eal (cs := [iv 0, (sl hn)]) za_26) R fun b3 => (wls (sbx (cs' := [iv v4.1.Size, (sl x4)]) tk_26 pz R R R R R R R) (asg R R (wnt (wcg (mv R R (wlq (v := .agg #[iv v4.1.Size, (sl x4)]) (plb tk_26 pz R R R) R (bdO t1 fun v5 hv5 t1 => (wlc (cz1 fa_31 R fun w hw => c_impl_LeastForm w v4.1 x4 (Rg.on (rgo pk1) hw) hv5) R fun x5 => (wle (ebs R (sb_49_1 v5.Size x5)) R fun b4 => (gdO t1 fun g2 t1 => (wle (eo_append_one (us := x1l.2) (xs := s1) ak_49 pk5 (pow_GBlock (x := v5) pk1) pz R R R g2) R fun x6 => (asg R R (wln (wqb (wqt (wcg (wlq (po_inc R R (by omega)) R ?_))))))))))))))))))))))))))))))))))))))
 exact mv R R (wln (wq_rnd hk1 (stpN l1 t1) (x6, (x1l.2 ++ [iv v5.Size, (sl x5)])) (su4 R R R R) (zc pk4 so1)))
 have c1 : (decide (((k1 : Nat) : Int) < v3)) = false := ddf (by omega)
 have en1 := foe l1 hk1
 exact wcr (wlq (pls R R) R (wnt (wcs (wff R c1 (wcx (wqe (wqe (wbx (wjm _ (x1l.1, x1l.2) (Sum.inl.inj en1) (su1 R) (zc pk1 zn))))))))))
 intro e1 x3 hp
 obtain rfl : e1 = y1 := hp.symm
 refine wqt (wcr (mv R R (bdO t0 fun v6 hv6 t0 => (wlc (cz0 fa_32 R fun w hw => c_impl_countDifferent w e1 x3.1 x3.2 (Rg.on (rgo pz) hw) hv6) R fun _ => (asg R R (wnt (wct ?_)))))))
 obtain rfl := oi t0
 exact wq1 R R fun w hw => ⟨R, hw.weak zn⟩

theorem c_spec_ColorSymmetries (w : World) (a_b : GBlock) (v0a : Hd) (r0 : rdF w (dm w []) (sl v0a) a_b.Cells) {r : List Int} (t0 : spec_ColorSymmetries a_b = some r) : Calls Tryd.prog 16 #[.agg #[.int .i64 a_b.Size, (sl v0a)]] w fun e w' => ∃ x : Hd, e = .returned ((sl x)) ∧ SH w [] [ownF (sl x) r] w' := by
 refine cwc (args := [_]) Tryd.func16 R Tryd.ntmps16 R ?_
 unfold spec_ColorSymmetries at t0
 refine wcr (wle (eo_box R R) R fun b1 => (asg R R (wnt (wcr (wle (ebs R sb_29_0) R fun b2 => (asg R R (wnt (wcs (wcr (asg R R (wnt (lpO_inv t0 fun y1 l1 t0 => (wj (J := List Int) (X := Hd) (fun z => y1 = z) (fun _ x => [(3, (sl x))]) (fun z x => [ownF (sl x) z]) ?_ ?_)))))))))))))
 refine wcb (wcf (X := Hd) l1 (fun k1 s1 x1l => [(1, ptr b1 0), (3, (sl x1l)), (4, iv ((k1 : Nat) : Int))]) (fun k1 s1 x1l => [box b1 [iv a_b.Size, (sl v0a)], ownF (sl x1l) s1]) (⟨some ⟨b2, 0, none⟩, 0, 0⟩ : Hd) (su3 R R R) (zc pk1 (zc (pbo pz (n := 0) (xs := ([] : List Int)) R R (by unfold maxLen; omega)) zn)) fun k1 s1 x1l hN1 l1 => ?_)
 by_cases hk1 : k1 < 8
 refine fos l1 hk1 fun _ t1 l1 => ?_
 unfold spec_ColorSymmetries_L1 at t1
 have c1 : (decide (((k1 : Nat) : Int) < 8)) = true := ddt (by omega)
 refine wcs (wcr (mv R R (wlq (pls R R) R (mv R R (wl_know (t := 8) R c1 (wgn (j := 2) R R R (wlq (v := .agg #[iv a_b.Size, (sl v0a)]) (plb tk_26 pz R R R) R (bdO t1 fun v1 hv1 t1 => (wgn (j := 2) R R R (wlc (cz0 fa_15 R fun w hw => c_spec_BlockOk w a_b v0a (ra r0 hw) hv1) R (fun _ => (wlq (pit R R) R (wnt (wcO t1 R (fun h1 t1 => ?_) fun h1 t1 => ?_))))))))))))))
 refine wck (wqt (wcs (wcb (wcs (wcd [box b1 [iv a_b.Size, (sl v0a)], ownF (sl x1l) s1] 7 mixed (aq (v := .agg #[iv a_b.Size, (sl v0a)]) 0 R (plb tk_26 pz R R R) so2 R (aq 1 R (pom R) so2 R (aq (v := .agg #[iv a_b.Size, (sl v0a)]) 4 R (plb tk_26 pz R R R) so2 R (a1 2 (bdO t1 fun v2 hv2 t1 => (wsc R (cz1 fa_36 R fun w hw => c_spec_SeenFrom w a_b v0a (ra r0 hw) ((k1 : Nat) : Int) hv2) (fun _ => (zt (zc pk1 (zc pk1 zn)))) R fun x2 => (a1 3 (bdO t1 fun v3 hv3 t1 => (wsc R (cz1 fa_35 R fun w hw => c_spec_l07Plain w v2 x2 (Rg.on (rgo pz) hw) hv3) (fun _ => (zt (zc pk2 (zc pk2 zn)))) R fun x3 => (a1 5 (bdO t1 fun v4 hv4 t1 => (wsc R (cz1 fa_35 R fun w hw => c_spec_l07Plain w a_b v0a (ra r0 hw) hv4) (fun _ => (zt (zc pk3 (zc pk3 zn)))) R fun x4 => (a1 6 (bdO t1 fun v5 hv5 t1 => (wsc R (cz0 fa_26 R fun w hw => c_spec_SameBlock w v3 x3 (Rg.on (rgo pk1) hw) v4 x4 (Rg.on (rgo pz) hw) hv5) (fun _ => (zt (zc pk3 (zc pk3 zn)))) R fun _ => (ae (wqt (bdO t1 fun y2 t2 t1 => (wj (J := List Int) (X := Hd) (fun z => y2 = z) (fun _ x => [(1, ptr b1 0), (3, (sl x)), (4, iv ((k1 : Nat) : Int)), (9, .agg #[iv a_b.Size, (sl v0a)]), (10, .bool v1)]) (fun z x => [box b1 [iv a_b.Size, (sl v0a)], ownF (sl x) z]) ?_ ?_))))))))))))))))))))))))
 refine wcO t2 R (fun h2 t2 => ?_) fun h2 t2 => ?_
 refine wcg (mv R R (mv R R (wle (ebs R (sb_29_1 ((k1 : Nat) : Int))) R fun b3 => (gdO t2 fun g1 t2 => (wle (eo_append (xs := s1) (ys := ([((k1 : Nat) : Int)] : List Int)) ak_29 pk5 R R (slin_rd fun _ g => Rg.on (rgo (pbo pz (n := 1) (xs := ([((k1 : Nat) : Int)] : List Int)) R R (by unfold maxLen; omega))) g) g1) R fun x6 => ?_)))))
 exact asg R R (wln (wjm _ x6 (mtE t2) (su5 R R R R R) (zc pk5 so1)))
 exact wck (wjm _ x1l (mtE t2) (su5 R R R R R) (zc pk3 (zc pk3 zn)))
 intro j1 x5 hp
 obtain rfl : j1 = y2 := hp.symm
 refine wqb (wqt (wcg (mv R R (wlq (po_inc R R (by omega)) R ?_))))
 exact asg R R (wln (wq_rnd hk1 (stpN l1 t1) x5 (su3 R R R) so2))
 exact wcx (wqe (wqe (wbx (wjm _ x1l (Sum.inl.inj (stpB l1 t1)) (su1 R) (zc pk1 zn)))))
 have c1 : (decide (((k1 : Nat) : Int) < 8)) = false := ddf (by omega)
 have en1 := foe l1 hk1
 exact wcs (wcr (mv R R (wlq (pls R R) R (mv R R (wl_know (t := 8) R c1 (wgf (j := 2) R R R R R (wgf (j := 2) R R R R R (wlq (pif R R) R (wnt (wff R R (wcx (wqe (wqe (wbx (wjm _ x1l (Sum.inl.inj en1) (su1 R) (zc pk1 zn))))))))))))))))
 intro e1 x1 hp
 obtain rfl : e1 = y1 := hp.symm
 refine wqt (wcr (mv R R (asg R R (wnt (wct ?_)))))
 obtain rfl := oi t0
 exact wq1 R R fun w hw => ⟨x1, R, hw.weak so1⟩

theorem c_laws_FnColorways (w : World) (a_code : List UInt8) (v0a : Hd) (r0 : rdF w (dm w []) (sl v0a) a_code) {r : Bool} (t0 : laws_FnColorways a_code = some r) : Calls Tryd.prog 3 #[(sl v0a)] w fun e w' => e = .returned (.bool r) ∧ SH w [] [] w' := by
 refine cwc (args := [_]) Tryd.func3 R Tryd.ntmps3 R ?_
 unfold laws_FnColorways at t0
 refine wcr (asg R R (wnt (wcs (wcr (mv R R (bdO t0 fun v1 hv1 t0 => (wlc (cz0 fa_4 R fun w hw => c_laws_big w a_code v0a (ra r0 hw) hv1) R fun _ => (wnt (wcO t0 R (fun h1 t0 => ?_) fun h1 t0 => ?_)))))))))
 refine wcr (asg R R (wnt (wct (wqr ?_))))
 obtain rfl := oi t0
 exact wq1 R R fun w hw => ⟨R, hw.weak zn⟩
 refine wck (wqt (wcr (mv R R (bdO t0 fun v2 hv2 t0 => (wlc (cz1 fa_5 R fun w hw => c_spec_DrawBlock w a_code v0a (ra r0 hw) hv2) R fun x1 => (wle (eal (cs := [iv 0, (sl hn)]) za_26) R fun b1 => (wls (sbx (cs' := [iv v2.Size, (sl x1)]) tk_26 pz R R R R R R R) (wnt (wcr (wlq (v := .agg #[iv v2.Size, (sl x1)]) (plb tk_26 pz R R R) R (bdO t0 fun v3 hv3 t0 => (wlc (cz0 fa_6 R fun w hw => c_impl_ColorwayCount w v2 x1 (Rg.on (rgo pk1) hw) hv3) R fun _ => (asg R R (wnt (wcr (asg R R (wnt (wcs (wcr (asg R R (wnt (wlO_inv t0 fun y1 l1 t0 => (wj (J := Int × Int) (X := Unit) (fun z => y1 = z) (fun z _ => [(0, (sl v0a)), (3, ptr b1 0), (4, iv v3), (5, iv z.1)]) (fun _ _ => [box b1 [iv v2.Size, (sl x1)], ownF (sl x1) v2.Cells]) ?_ ?_)))))))))))))))))))))))
 refine wcb (wc_whO (X := Unit) l1 (fun s1 x1l => [(0, (sl v0a)), (3, ptr b1 0), (4, iv v3), (5, iv s1.1), (6, iv s1.2)]) (fun s1 x1l => [box b1 [iv v2.Size, (sl x1)], ownF (sl x1) v2.Cells]) () (su5 R R R R R) so2 fun m1 s1 x1l l1 => (whO_step l1 fun _ t1 l1 => ?_))
 unfold laws_FnColorways_L1 at t1
 refine wcs (wcr (mv R R (wlq (v := .agg #[iv v2.Size, (sl x1)]) (plb tk_26 pz R R R) R (bdO t1 fun v4 hv4 t1 => (wlc (cz1 fa_7 R fun w hw => c_spec_ColorsOf w v2 x1 (Rg.on (rgo pk1) hw) hv4) R fun x3 => (wlq (pln (rgo pz) el_29 R) R (wlq (pls R R) R (wnt (wcO t1 R (fun h2 t1 => ?_) fun h2 t1 => ?_)))))))))
 exact wck (wqt (wcs (wcb (wcg (mv R R (mv R R (wlq (po_sub R R) R (wlq (po_mul R R) R (asg R R (wln (wqb (wqt (wcg (mv R R (wlq (po_add R R) R (asg R R (wln (wq_rndw (stwN l1 t1) () (su5 R R R R R) (zc pk1 (zc pk1 zn))))))))))))))))))))
 exact wcx (wqe (wqe (wbx (wjm _ () (Sum.inl.inj (stwB l1 t1)) (su4 R R R R) (zc pk1 (zc pk1 zn))))))
 intro e1 _ hp
 obtain rfl : e1 = y1 := hp.symm
 refine wqt (wcs (wcr (mv R R (mv R R (wlq (po_neq R R) R (wnt (wcO t0 R (fun h3 t0 => ?_) fun h3 t0 => ?_)))))))
 refine wcr (asg R R (wnt (wct (wqr ?_))))
 obtain rfl := oi t0
 exact wq1 R R fun w hw => ⟨R, hw.weak zn⟩
 refine wck (wqt (wcr (mv R R (bdO t0 fun v5 hv5 t0 => (wlc (cz0 fa_8 R fun w hw => c_laws_at w a_code v0a (ra r0 hw) 0 hv5) R fun _ => (mv R R (bdO t0 fun v6 hv6 t0 => (wlc (cz0 fa_8 R fun w hw => c_laws_at w a_code v0a (ra r0 hw) 1 hv6) R fun _ => (wlq (po_mul R R) R (wlq (po_add R R) R (mv R R (gdO t0 fun g1 t0 => (wlq (po_rem R R g1) R (asg R R (wnt (wcr (mv R R (bdO t0 fun v7 hv7 t0 => (wlc (cz0 fa_8 R fun w hw => c_laws_at w a_code v0a (ra r0 hw) 2 hv7) R fun _ => (mv R R (bdO t0 fun v8 hv8 t0 => (wlc (cz0 fa_8 R fun w hw => c_laws_at w a_code v0a (ra r0 hw) 3 hv8) R fun _ => (wlq (po_mul R R) R (wlq (po_add R R) R (mv R R (wlq (po_rem R R g1) R (asg R R (wnt (wcr (wlq (v := .agg #[iv v2.Size, (sl x1)]) (plb tk_26 pz R R R) R (mv R R (bdO t0 fun v9 hv9 t0 => (wlc (cz1 fa_9 R fun w hw => c_impl_ColorwayAt w v2 x1 (Rg.on (rgo pk1) hw) ((wr (v5 + (wr (256 * v6)))).tmod v3) hv9) R fun x4 => (mv R R (wlq (pex R R) R (wlq (pex R R) R (wle (eal (cs := [iv 0, (sl hn)]) za_26) R fun b2 => (wls (sbx (cs' := [iv v9.1.Size, (sl x4)]) tk_26 pz R R R R R R R) (asg R R ?_)))))))))))))))))))))))))))))))))))))))
 refine wnt (wcr (wlq (v := .agg #[iv v2.Size, (sl x1)]) (plb tk_26 pk2 R R R) R (mv R R (bdO t0 fun v10 hv10 t0 => (wlc (cz1 fa_9 R fun w hw => c_impl_ColorwayAt w v2 x1 (Rg.on (rgo pk3) hw) ((wr (v7 + (wr (256 * v8)))).tmod v3) hv10) R fun x5 => (mv R R (wlq (pex R R) R (wlq (pex R R) R (wle (eal (cs := [iv 0, (sl hn)]) za_26) R fun b3 => (wls (sbx (cs' := [iv v10.1.Size, (sl x5)]) tk_26 pz R R R R R R R) (asg R R (wnt (wcr (wlq (v := .agg #[iv v2.Size, (sl x1)]) (plb tk_26 pk4 R R R) R (mv R R (bdO t0 fun v11 hv11 t0 => (wlc (cz1 fa_9 R fun w hw => c_impl_ColorwayAt w v2 x1 (Rg.on (rgo pk5) hw) v3 hv11) R fun x6 => (mv R R (wlq (pex R R) R (wlq (pex R R) R (wle (eal (cs := [iv 0, (sl hn)]) za_26) R fun b4 => (wls (sbx (cs' := [iv v11.1.Size, (sl x6)]) tk_26 pz R R R R R R R) (asg R R (wnt (wcs (wcs (bdO t0 fun y1 t1 t0 => (wj (J := Bool) (X := Unit) (fun z => y1 = z) (fun z _ => [(0, (sl v0a)), (108, .bool z)]) (fun _ _ => []) ?_ ?_))))))))))))))))))))))))))))
 refine wcg (mv R R (wlq (po_not R) R (mv R R (wlo (t := 75) t1 R (fun h4 t1 => ?_) fun h4 t1 => ?_))))
 exact wgf (j := 2) R R R R R (wgf (j := 2) R R R R R (wlq (pit R R) R (mv R R (wgf (j := 6) R R R R R (wlq (pit R R) R (mv R R (wgf (j := 9) R R R R R (wgf (j := 9) R R R R R (wgf (j := 9) R R R R R (wgf (j := 9) R R R R R (wgf (j := 9) R R R R R (wgf (j := 9) R R R R R (wgf (j := 9) R R R R R (wlq (pit R R) R (mv R R (wgf (j := 18) R R R R R (wgf (j := 18) R R R R R (wgf (j := 18) R R R R R (wgf (j := 18) R R R R R (wlq (pit R R) R (mv R R (wgf (j := 24) R R R R R (wgf (j := 24) R R R R R (wgf (j := 24) R R R R R (wgf (j := 24) R R R R R (wlq (pit R R) R (mv R R (wgf (j := 30) R R R R R (wgf (j := 30) R R R R R (wgf (j := 30) R R R R R (wgf (j := 30) R R R R R (wlq (pit R R) R (wln (wjm _ () (mtE t1) (su2 R R) zn))))))))))))))))))))))))))))))))))
 refine wgn (j := 2) R R R (mv R R (wgn (j := 2) R R R (wlq (po_not R) R (wlq (pif R R) R (mv R R (wlo (t := 79) t1 R (fun h5 t1 => ?_) fun h5 t1 => ?_))))))
 exact wgf (j := 6) R R R R R (wlq (pit R R) R (mv R R (wgf (j := 9) R R R R R (wgf (j := 9) R R R R R (wgf (j := 9) R R R R R (wgf (j := 9) R R R R R (wgf (j := 9) R R R R R (wgf (j := 9) R R R R R (wgf (j := 9) R R R R R (wlq (pit R R) R (mv R R (wgf (j := 18) R R R R R (wgf (j := 18) R R R R R (wgf (j := 18) R R R R R (wgf (j := 18) R R R R R (wlq (pit R R) R (mv R R (wgf (j := 24) R R R R R (wgf (j := 24) R R R R R (wgf (j := 24) R R R R R (wgf (j := 24) R R R R R (wlq (pit R R) R (mv R R (wgf (j := 30) R R R R R (wgf (j := 30) R R R R R (wgf (j := 30) R R R R R (wgf (j := 30) R R R R R (wlq (pit R R) R (wln (wjm _ () (mtE t1) (su2 R R) zn))))))))))))))))))))))))))))))
 refine wgn (j := 6) R R R (mv R R (wlq (pif R R) R (mv R R (wlo (t := 82) t1 R (fun h6 t1 => ?_) fun h6 t1 => ?_))))
 exact wgf (j := 9) R R R R R (wgf (j := 9) R R R R R (wgf (j := 9) R R R R R (wgf (j := 9) R R R R R (wgf (j := 9) R R R R R (wgf (j := 9) R R R R R (wgf (j := 9) R R R R R (wlq (pit R R) R (mv R R (wgf (j := 18) R R R R R (wgf (j := 18) R R R R R (wgf (j := 18) R R R R R (wgf (j := 18) R R R R R (wlq (pit R R) R (mv R R (wgf (j := 24) R R R R R (wgf (j := 24) R R R R R (wgf (j := 24) R R R R R (wgf (j := 24) R R R R R (wlq (pit R R) R (mv R R (wgf (j := 30) R R R R R (wgf (j := 30) R R R R R (wgf (j := 30) R R R R R (wgf (j := 30) R R R R R (wlq (pit R R) R (wln (wjm _ () (mtE t1) (su2 R R) zn)))))))))))))))))))))))))))
 refine wgn (j := 9) R R R (wlq (v := .agg #[iv v9.1.Size, (sl x4)]) (plb tk_26 pk4 R R R) R (wgn (j := 9) R R R (wlq (v := .agg #[iv v10.1.Size, (sl x5)]) (plb tk_26 pk2 R R R) R (bdO t1 fun v12 hv12 t1 => (wgn (j := 9) R R R (wlc (cz0 fa_10 R fun w hw => c_impl_SameBlock w v9.1 x4 (Rg.on (rgo pk5) hw) v10.1 x5 (Rg.on (rgo pk3) hw) hv12) R (fun _ => (wgn (j := 9) R R R (mv R R (wgn (j := 9) R R R (mv R R (wgn (j := 9) R R R (wlq (pol R R) R (wgn (j := 9) R R R (wlq (po_neq_bool ub_4 R R) R (wlq (pif R R) R (mv R R (wlo (t := 91) t1 R (fun h7 t1 => ?_) fun h7 t1 => ?_))))))))))))))))))
 exact wgf (j := 18) R R R R R (wgf (j := 18) R R R R R (wgf (j := 18) R R R R R (wgf (j := 18) R R R R R (wlq (pit R R) R (mv R R (wgf (j := 24) R R R R R (wgf (j := 24) R R R R R (wgf (j := 24) R R R R R (wgf (j := 24) R R R R R (wlq (pit R R) R (mv R R (wgf (j := 30) R R R R R (wgf (j := 30) R R R R R (wgf (j := 30) R R R R R (wgf (j := 30) R R R R R (wlq (pit R R) R (wln (wjm _ () (mtE t1) (su2 R R) zn))))))))))))))))))
 refine wgn (j := 18) R R R (wlq (v := .agg #[iv v2.Size, (sl x1)]) (plb tk_26 pk6 R R R) R (wgn (j := 18) R R R (wlq (v := .agg #[iv v9.1.Size, (sl x4)]) (plb tk_26 pk4 R R R) R (bdO t1 fun v13 hv13 t1 => (wgn (j := 18) R R R (wlc (cz0 fa_11 R fun w hw => c_impl_IsColorway w v2 x1 (Rg.on (rgo pk7) hw) v9.1 x4 (Rg.on (rgo pk5) hw) hv13) R (fun _ => (wgn (j := 18) R R R (wlq (po_not R) R (wlq (pif R R) R (mv R R (wlo (t := 97) t1 R (fun h8 t1 => ?_) fun h8 t1 => ?_))))))))))))
 exact wgf (j := 24) R R R R R (wgf (j := 24) R R R R R (wgf (j := 24) R R R R R (wgf (j := 24) R R R R R (wlq (pit R R) R (mv R R (wgf (j := 30) R R R R R (wgf (j := 30) R R R R R (wgf (j := 30) R R R R R (wgf (j := 30) R R R R R (wlq (pit R R) R (wln (wjm _ () (mtE t1) (su2 R R) zn))))))))))))
 refine wgn (j := 24) R R R (wlq (v := .agg #[iv v9.1.Size, (sl x4)]) (plb tk_26 pk4 R R R) R (wgn (j := 24) R R R (wlq (v := .agg #[iv v10.1.Size, (sl x5)]) (plb tk_26 pk2 R R R) R (bdO t1 fun v14 hv14 t1 => (wgn (j := 24) R R R (wlc (cz0 fa_11 R fun w hw => c_impl_IsColorway w v9.1 x4 (Rg.on (rgo pk5) hw) v10.1 x5 (Rg.on (rgo pk3) hw) hv14) R (fun _ => (wgn (j := 24) R R R (wlq (po_not R) R (wlq (pif R R) R (mv R R (wlo (t := 103) t1 R (fun h9 t1 => ?_) fun h9 t1 => ?_))))))))))))
 exact wgf (j := 30) R R R R R (wgf (j := 30) R R R R R (wgf (j := 30) R R R R R (wgf (j := 30) R R R R R (wlq (pit R R) R (wln (wjm _ () (mtE t1) (su2 R R) zn))))))
 exact wgn (j := 30) R R R (wlq (v := .agg #[iv v2.Size, (sl x1)]) (plb tk_26 pk6 R R R) R (wgn (j := 30) R R R (wlq (v := .agg #[iv v9.1.Size, (sl x4)]) (plb tk_26 pk4 R R R) R (bdO t1 fun v15 hv15 t1 => (wgn (j := 30) R R R (wlc (cz0 fa_12 R fun w hw => c_spec_ArePatternsSame w v2 x1 (Rg.on (rgo pk7) hw) v9.1 x4 (Rg.on (rgo pk5) hw) hv15) R (fun _ => (wgn (j := 30) R R R (wlq (po_not R) R (wlq (pif R R) R (wln (wjm _ () (mtE t1) (su2 R R) zn))))))))))))
 intro j1 _ hp
 obtain rfl : j1 = y1 := hp.symm
 refine wqt (wcO t0 R (fun h10 t0 => ?_) fun h10 t0 => ?_)
 refine wcr (asg R R (wnt (wct (wqr ?_))))
 obtain rfl := oi t0
 exact wq1 R R fun w hw => ⟨R, hw.weak zn⟩
 refine wck (wqt (wcr (mv R R (bdO t0 fun v16 hv16 t0 => (wlc (cz1 fa_13 R fun w hw => c_spec_DrawFreeColorways w a_code v0a (ra r0 hw) hv16) R fun x8 => (wle (eal (cs := [iv 0, (sl hn)]) za_26) R fun b5 => (wls (sbx (cs' := [iv v16.Size, (sl x8)]) tk_26 pz R R R R R R R) (wnt (wcr (wlq (v := .agg #[iv v16.Size, (sl x8)]) (plb tk_26 pz R R R) R (bdO t0 fun v17 hv17 t0 => (wlc (cz0 fa_14 R fun w hw => c_impl_FreeColorways w v16 x8 (Rg.on (rgo pk1) hw) hv17) R fun _ => (asg R R (wnt (wcs (wcs (bdO t0 fun y1 t1 t0 => (wj (J := Bool) (X := Unit) (fun z => y1 = z) (fun z _ => [(15, ptr b5 0), (16, iv v17), (121, .bool z)]) (fun _ _ => [box b5 [iv v16.Size, (sl x8)], ownF (sl x8) v16.Cells]) ?_ ?_))))))))))))))))))
 refine wcg (wlq (v := .agg #[iv v16.Size, (sl x8)]) (plb tk_26 pz R R R) R (bdO t1 fun v18 hv18 t1 => (wlc (cz0 fa_15 R fun w hw => c_spec_BlockOk w v16 x8 (Rg.on (rgo pk1) hw) hv18) R fun _ => (wlq (po_not R) R (mv R R (wlo (t := 116) t1 R (fun h11 t1 => ?_) fun h11 t1 => ?_))))))
 exact wgf (j := 3) R R R R R (wgf (j := 3) R R R R R (wgf (j := 3) R R R R R (wgf (j := 3) R R R R R (wlq (pit R R) R (wln (wjm _ () (mtE t1) (su3 R R R) so2))))))
 exact wgn (j := 3) R R R (wlq (v := .agg #[iv v16.Size, (sl x8)]) (plb tk_26 pz R R R) R (bdO t1 fun v19 hv19 t1 => (wgn (j := 3) R R R (wlc (cz1 fa_7 R fun w hw => c_spec_ColorsOf w v16 x8 (Rg.on (rgo pk1) hw) hv19) R (fun x10 => (wgn (j := 3) R R R (wlq (pln (rgo pz) el_29 R) R (wgn (j := 3) R R R (wlq (po_gtr R R) R (wlq (pif R R) R (wln (wjm _ () (mtE t1) (su3 R R R) (zc pk1 (zc pk1 zn))))))))))))))
 intro j2 _ hp
 obtain rfl : j2 = y1 := hp.symm
 refine wqt (wcO t0 R (fun h12 t0 => ?_) fun h12 t0 => ?_)
 refine wcr (mv R R (wlq (pol R R) R (asg R R (wnt (wct (wqr ?_))))))
 obtain rfl := oi t0
 exact wq1 R R fun w hw => ⟨R, hw.weak zn⟩
 refine wck (wqt (wcr (wlq (v := .agg #[iv v16.Size, (sl x8)]) (plb tk_26 pz R R R) R (bdO t0 fun v20 hv20 t0 => (wlc (cz0 fa_6 R fun w hw => c_impl_ColorwayCount w v16 x8 (Rg.on (rgo pk1) hw) hv20) R fun _ => (asg R R (wnt (wcr (wlq (v := .agg #[iv v16.Size, (sl x8)]) (plb tk_26 pz R R R) R (bdO t0 fun v21 hv21 t0 => (wlc (cz1 fa_16 R fun w hw => c_spec_ColorSymmetries w v16 x8 (Rg.on (rgo pk1) hw) hv21) R fun x11 => (wlq (pln (rgo pz) el_29 R) R (asg R R (wnt (wcs (bdO t0 fun y1 t1 t0 => (wj (J := Bool) (X := Unit) (fun z => y1 = z) (fun z _ => [(2, .bool z)]) (fun _ _ => []) ?_ ?_)))))))))))))))))
 refine wcg (mv R R (wlq (po_geq R R) R (mv R R (wlo (t := 131) t1 R (fun h13 t1 => ?_) fun h13 t1 => ?_))))
 refine wgn (j := 2) R R R (mv R R (wgn (j := 2) R R R (mv R R (wgn (j := 2) R R R (wlq (po_leq R R) R (wlq (pit R R) R (mv R R (wlo (t := 136) t1 R (fun h14 t1 => ?_) fun h14 t1 => ?_))))))))
 refine wgn (j := 7) R R R (mv R R (wgn (j := 7) R R R (mv R R (wgn (j := 7) R R R (wlq (po_mul R R) R (wgn (j := 7) R R R (mv R R (wgn (j := 7) R R R (wlq (po_geq R R) R (wlq (pit R R) R (mv R R (wlo (t := 143) t1 R (fun h15 t1 => ?_) fun h15 t1 => ?_))))))))))))
 exact wgn (j := 14) R R R (wlq (v := .agg #[iv v16.Size, (sl x8)]) (plb tk_26 pk1 R R R) R (wgn (j := 14) R R R (wlq (v := .agg #[iv v16.Size, (sl x8)]) (plb tk_26 pk1 R R R) R (bdO t1 fun v22 hv22 t1 => (wgn (j := 14) R R R (wlc (cz0 fa_11 R fun w hw => c_impl_IsColorway w v16 x8 (Rg.on (rgo pk2) hw) v16 x8 (Rg.on (rgo pk2) hw) hv22) R (fun _ => (wlq (pit R R) R (asg R R (wln (wjm _ () (mtE t1) (su1 R) zn)))))))))))
 exact wgf (j := 14) R R R R R (wgf (j := 14) R R R R R (wgf (j := 14) R R R R R (wlq (pif R R) R (asg R R (wln (wjm _ () (mtE t1) (su1 R) zn))))))
 exact wgf (j := 7) R R R R R (wgf (j := 7) R R R R R (wgf (j := 7) R R R R R (wgf (j := 7) R R R R R (wgf (j := 7) R R R R R (wlq (pif R R) R (mv R R (wgf (j := 14) R R R R R (wgf (j := 14) R R R R R (wgf (j := 14) R R R R R (wlq (pif R R) R (asg R R (wln (wjm _ () (mtE t1) (su1 R) zn)))))))))))))
 exact wgf (j := 2) R R R R R (wgf (j := 2) R R R R R (wgf (j := 2) R R R R R (wlq (pif R R) R (mv R R (wgf (j := 7) R R R R R (wgf (j := 7) R R R R R (wgf (j := 7) R R R R R (wgf (j := 7) R R R R R (wgf (j := 7) R R R R R (wlq (pif R R) R (mv R R (wgf (j := 14) R R R R R (wgf (j := 14) R R R R R (wgf (j := 14) R R R R R (wlq (pif R R) R (asg R R (wln (wjm _ () (mtE t1) (su1 R) zn))))))))))))))))))
 intro j3 _ hp
 obtain rfl : j3 = y1 := hp.symm
 refine wqt (wct ?_)
 obtain rfl := oi t0
 exact wq1 R R fun w hw => ⟨R, hw.weak zn⟩

end Go.Proofs.YtkahnmhkfmjomabDoor
