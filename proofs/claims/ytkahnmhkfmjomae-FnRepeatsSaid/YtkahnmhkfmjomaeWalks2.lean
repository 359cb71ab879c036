/-
 Each Go function computes its Lean function (part 2).
-/
import Derived.Test.YtkahnmhkfmjomaeWalks1
namespace Go.Proofs.Ytkahnmhkfmjomae
open Go Go.RowKit Go.Proofs
set_option maxRecDepth 100000

theorem c_spec_QuiltOk (w : World) (a_q : GQuilt) (v0a : Hd) (r0 : rdF w (dm w []) (sl v0a) a_q.Spots) (a_blocks : List GBlock) (v1a : Hd) (u1a : List Value) (r1 : RdL w (dm w []) (sl v1a) u1a a_blocks) {r : Bool} (t0 : spec_QuiltOk a_q a_blocks = some r) : Calls Try.prog 24 #[.agg #[.int .i64 a_q.Width, .int .i64 a_q.Height, (sl v0a)], (sl v1a)] w fun e w' => e = .returned (.bool r) ∧ SH w [] [] w' := by
 refine cwc (args := [_, _]) Try.func24 R Try.ntmps24 R ?_
 unfold spec_QuiltOk at t0
 refine wcr (wle (eo_box R R) R fun b1 => (asg R R (wnt (wcs (wcs (bdO t0 fun y1 t1 t0 => (wj (J := Bool) (X := Unit) (fun z => y1 = z) (fun z _ => [(1, (sl v1a)), (2, ptr b1 0), (33, .bool z)]) (fun _ _ => [box b1 [iv a_q.Width, iv a_q.Height, (sl v0a)]]) ?_ ?_)))))))
 refine wcg (wlq (pof fo_26_0 R) R (wlq (v := iv a_q.Width) (plx tk_3 pz R R) R (bdO t1 fun v1 hv1 t1 => (wlc (cz0 fa_25 R fun w hw => c_spec_l01In w a_q.Width 1 6 hv1) R fun _ => (wlq (po_not R) R (mv R R (wlo (t := 11) t1 R (fun h1 t1 => ?_) fun h1 t1 => ?_)))))))
 exact wgf (j := 4) R R R R R (wgf (j := 4) R R R R R (wgf (j := 4) R R R R R (wgf (j := 4) R R R R R (wlq (pit R R) R (mv R R (wgf (j := 10) R R R R R (wgf (j := 10) R R R R R (wgf (j := 10) R R R R R (wgf (j := 10) R R R R R (wlq (pit R R) R (mv R R (wgf (j := 16) R R R R R (wgf (j := 16) R R R R R (wgf (j := 16) R R R R R (wgf (j := 16) R R R R R (wgf (j := 16) R R R R R (wgf (j := 16) R R R R R (wgf (j := 16) R R R R R (wgf (j := 16) R R R R R (wgf (j := 16) R R R R R (wlq (pit R R) R (wln (wjm _ () (mtE t1) (su3 R R R) so1)))))))))))))))))))))))
 refine wgn (j := 4) R R R (wlq (pof fo_26_1 R) R (wgn (j := 4) R R R (wlq (v := iv a_q.Height) (plx tk_3 pz R R) R (bdO t1 fun v2 hv2 t1 => (wgn (j := 4) R R R (wlc (cz0 fa_25 R fun w hw => c_spec_l01In w a_q.Height 1 6 hv2) R (fun _ => (wgn (j := 4) R R R (wlq (po_not R) R (wlq (pif R R) R (mv R R (wlo (t := 17) t1 R (fun h2 t1 => ?_) fun h2 t1 => ?_))))))))))))
 exact wgf (j := 10) R R R R R (wgf (j := 10) R R R R R (wgf (j := 10) R R R R R (wgf (j := 10) R R R R R (wlq (pit R R) R (mv R R (wgf (j := 16) R R R R R (wgf (j := 16) R R R R R (wgf (j := 16) R R R R R (wgf (j := 16) R R R R R (wgf (j := 16) R R R R R (wgf (j := 16) R R R R R (wgf (j := 16) R R R R R (wgf (j := 16) R R R R R (wgf (j := 16) R R R R R (wlq (pit R R) R (wln (wjm _ () (mtE t1) (su3 R R R) so1)))))))))))))))))
 refine wgn (j := 10) R R R (mv R R (wgn (j := 10) R R R (wlq (pln (rga r1) el_27 R) R (bdO t1 fun v3 hv3 t1 => (wgn (j := 10) R R R (wlc (cz0 fa_25 R fun w hw => c_spec_l01In w ((a_blocks.length : Nat) : Int) 1 6 hv3) R (fun _ => (wgn (j := 10) R R R (wlq (po_not R) R (wlq (pif R R) R (mv R R (wlo (t := 23) t1 R (fun h3 t1 => ?_) fun h3 t1 => ?_))))))))))))
 exact wgf (j := 16) R R R R R (wgf (j := 16) R R R R R (wgf (j := 16) R R R R R (wgf (j := 16) R R R R R (wgf (j := 16) R R R R R (wgf (j := 16) R R R R R (wgf (j := 16) R R R R R (wgf (j := 16) R R R R R (wgf (j := 16) R R R R R (wlq (pit R R) R (wln (wjm _ () (mtE t1) (su3 R R R) so1)))))))))))
 exact wgn (j := 16) R R R (wlq (pof fo_26_2 R) R (wgn (j := 16) R R R (wlq (v := (sl v0a)) (plx tk_24 pz R R) R (wgn (j := 16) R R R (wlq (pln (rga r0) el_24 R) R (wgn (j := 16) R R R (wlq (pof fo_26_0 R) R (wgn (j := 16) R R R (wlq (v := iv a_q.Width) (plx tk_3 pz R R) R (wgn (j := 16) R R R (wlq (pof fo_26_1 R) R (wgn (j := 16) R R R (wlq (v := iv a_q.Height) (plx tk_3 pz R R) R (wgn (j := 16) R R R (wlq (po_mul R R) R (wgn (j := 16) R R R (wlq (po_neq R R) R (wlq (pif R R) R (wln (wjm _ () (mtE t1) (su3 R R R) so1))))))))))))))))))))
 intro j1 _ hp
 obtain rfl : j1 = y1 := hp.symm
 refine wqt (wcO t0 R (fun h4 t0 => ?_) fun h4 t0 => ?_)
 refine wcr (asg R R (wnt (wct (wqr ?_))))
 obtain rfl := oi t0
 exact wq1 R R fun w hw => ⟨R, hw.weak zn⟩
 refine wck (wqt (wcs (wcr (asg R R (wnt (gdO t0 fun g1 t0 => (sqO t0 fun y1 l1 t0 => (wj (J := Unit) (X := Unit) (fun z => y1 = .inl z) (fun _ _ => [(1, (sl v1a)), (2, ptr b1 0)]) (fun _ _ => [box b1 [iv a_q.Width, iv a_q.Height, (sl v0a)]]) ?_ ?_))))))))
 refine wcb (wcf (X := Unit) l1 (fun k1 s1 x1l => [(1, (sl v1a)), (2, ptr b1 0), (5, iv ((k1 : Nat) : Int))]) (fun k1 s1 x1l => [box b1 [iv a_q.Width, iv a_q.Height, (sl v0a)]]) () (su3 R R R) so1 fun k1 s1 x1l hN1 l1 => ?_)
 by_cases hk1 : k1 < a_blocks.length
 refine fos l1 hk1 fun _ t1 l1 => ?_
 unfold spec_QuiltOk_L1 at t1
 have c1 : (decide (((k1 : Nat) : Int) < ((a_blocks.length : Nat) : Int))) = true := ddt (by omega)
 refine wcs (wcr (mv R R (mv R R (wlq (pln (rga r1) el_27 R) R (wlq (pls R R) R (wnt (wft R c1 (wck (wqt (wcs (wcb (wcs (bdO t1 fun y2 t2 t1 => (wj (J := Bool) (X := Unit) (fun z => y2 = z) (fun z _ => [(1, (sl v1a)), (2, ptr b1 0), (5, iv ((k1 : Nat) : Int)), (57, .bool z)]) (fun _ _ => [box b1 [iv a_q.Width, iv a_q.Height, (sl v0a)]]) ?_ ?_))))))))))))))
 refine wcd [box b1 [iv a_q.Width, iv a_q.Height, (sl v0a)]] 18 mixed (aq 0 R (pom R) so1 R (aq 1 R (pom R) so1 R (aq 2 R (po_ixn (k := k1) (rga r1) el_27 R R hk1) so1 R (wa_elem (rga r1) hk1 ?_))))
 rintro ⟨_, _, he1⟩
 obtain ⟨w1, hc1, _⟩ := rd_GBlock.1 he1
 refine aq (v := .agg #[iv ((gx a_blocks k1).Size), (sl w1)]) 3 R (po_ldns (rga r1) tk_44 R hc1 R R R) so1 R (a1 4 (bdO t2 fun v4 hv4 t2 => (wsc R (cz0 fa_34 R fun w hw => c_spec_BlockOk w (gx a_blocks k1) w1 (Rg.on (er_GBlock_0 hc1 (rga r1) hk1) hw) hv4) (fun _ => (zt so1)) R fun _ => (aq 5 R (po_not R) so1 R (aq 6 R (pom R) so1 R (waO_ (t := 46) t2 R (fun h5 t2 => ?_) fun h5 t2 => ?_))))))
 exact af 7 6 R R R R R so1 R (af 8 6 R R R R R so1 R (af 9 6 R R R R R so1 R (af 10 6 R R R R R so1 R (af 11 6 R R R R R so1 R (af 12 6 R R R R R so1 R (af 13 6 R R R R R so1 R (af 14 6 R R R R R so1 R (af 15 6 R R R R R so1 R (af 16 6 R R R R R so1 R (aq 17 R (pit R R) so1 R (ae (wjm _ () (mtE t2) (su4 R R R R) so1))))))))))))
 refine an 7 6 R R R R (pom R) so1 R (an 8 6 R R R R (pom R) so1 R (an 9 6 R R R R (po_ixn (k := k1) (rga r1) el_27 R R hk1) so1 R (an 10 6 R R R R (po_sfldr (rga r1) hk1 fo_44_0 R) so1 R (an (v := iv ((gx a_blocks k1).Size)) 11 6 R R R R (po_ldn (rga r1) tk_3 R hc1 R) so1 R (an 12 6 R R R R (pom R) so1 R (gdO t2 fun g2 t2 => (an 13 6 R R R R (po_ixn (k := 0) (rga r1) el_27 R R g2) so1 R (an 14 6 R R R R (po_sfldr (rga r1) g2 fo_44_0 R) so1 R (wa_elem (rga r1) g2 ?_)))))))))
 rintro ⟨_, _, he2⟩
 obtain ⟨w2, hc2, _⟩ := rd_GBlock.1 he2
 exact an (v := iv ((gx a_blocks 0).Size)) 15 6 R R R R (po_ldn (rga r1) tk_3 R hc2 R) so1 R (an 16 6 R R R R (po_neq R R) so1 R (aq 17 R (pif R R) so1 R (ae (wjm _ () (mtE t2) (su4 R R R R) so1))))
 intro j2 _ hp
 obtain rfl : j2 = y2 := hp.symm
 refine wqt (wcO t1 R (fun h6 t1 => ?_) fun h6 t1 => ?_)
 refine wcr (asg R R (wnt (wct (wbr (wqr (wqr (wbr (wqr (wqr ?_)))))))))
 replace t0 := lpR t0 l1 t1
 obtain rfl := oi t0
 exact wq1 R R fun w hw => ⟨R, hw.weak zn⟩
 refine wck (wqb (wqt (wcg (mv R R (wlq (po_inc R R (by omega)) R ?_)))))
 exact asg R R (wln (wq_rnd hk1 (stpN l1 t1) () (su3 R R R) so1))
 have c1 : (decide (((k1 : Nat) : Int) < ((a_blocks.length : Nat) : Int))) = false := ddf (by omega)
 have en1 := foe l1 hk1
 exact wcs (wcr (mv R R (mv R R (wlq (pln (rga r1) el_27 R) R (wlq (pls R R) R (wnt (wff R c1 (wcx (wqe (wqe (wbx (wjm _ () en1 (su2 R R) so1))))))))))))
 intro e1 _ hp
 replace t0 := sqE (j := e1) t0 hp
 refine wqt (wcs (wcr (asg R R (wnt (gdO t0 fun g3 t0 => (sqO t0 fun y1 l1 t0 => (wj (J := Unit) (X := Unit) (fun z => y1 = .inl z) (fun _ _ => []) (fun _ _ => []) ?_ ?_)))))))
 refine wcb (wcf (X := Unit) l1 (fun k2 s2 x2l => [(1, (sl v1a)), (2, ptr b1 0), (6, iv ((k2 : Nat) : Int))]) (fun k2 s2 x2l => [box b1 [iv a_q.Width, iv a_q.Height, (sl v0a)]]) () (su3 R R R) so1 fun k2 s2 x2l hN2 l1 => ?_)
 by_cases hk2 : k2 < a_q.Spots.length
 refine fos l1 hk2 fun _ t1 l1 => ?_
 unfold spec_QuiltOk_L2 at t1
 have c2 : (decide (((k2 : Nat) : Int) < ((a_q.Spots.length : Nat) : Int))) = true := ddt (by omega)
 refine wcs (wcr (mv R R (wlq (pof fo_26_2 R) R (wlq (v := (sl v0a)) (plx tk_24 pz R R) R (wlq (pln (rga r0) el_24 R) R (wlq (pls R R) R (wnt (wft R c2 (wck (wqt (wcs (wcb (wcs (bdO t1 fun y2 t2 t1 => (wj (J := Bool) (X := Unit) (fun z => y2 = z) (fun z _ => [(1, (sl v1a)), (2, ptr b1 0), (6, iv ((k2 : Nat) : Int)), (85, .bool z)]) (fun _ _ => [box b1 [iv a_q.Width, iv a_q.Height, (sl v0a)]]) ?_ ?_)))))))))))))))
 refine wcg (wlq (pof fo_26_2 R) R (wlq (v := (sl v0a)) (plx tk_24 pz R R) R (mv R R (wlq (po_ixn (k := k2) (rga r0) el_24 R R hk2) R (wlq (po_sfldr (rga r0) hk2 fo_40_0 R) R (wlq (v := iv ((gx a_q.Spots k2).Block)) (po_ldf (rga r0) tk_3 R hk2 R) R (mv R R (wlq (pln (rga r1) el_27 R) R (wlq (po_sub R R) R (bdO t2 fun v5 hv5 t2 => (wlc (cz0 fa_25 R fun w hw => c_spec_l01In w ((gx a_q.Spots k2).Block) 0 (wr (((a_blocks.length : Nat) : Int) - 1)) hv5) R fun _ => (wlq (po_not R) R (mv R R (wlo (t := 76) t2 R (fun h7 t2 => ?_) fun h7 t2 => ?_))))))))))))))
 exact wgf (j := 11) R R R R R (wgf (j := 11) R R R R R (wgf (j := 11) R R R R R (wgf (j := 11) R R R R R (wgf (j := 11) R R R R R (wgf (j := 11) R R R R R (wgf (j := 11) R R R R R (wgf (j := 11) R R R R R (wlq (pit R R) R (wln (wjm _ () (mtE t2) (su4 R R R R) so1))))))))))
 exact wgn (j := 11) R R R (wlq (pof fo_26_2 R) R (wgn (j := 11) R R R (wlq (v := (sl v0a)) (plx tk_24 pz R R) R (wgn (j := 11) R R R (mv R R (wgn (j := 11) R R R (wlq (po_ixn (k := k2) (rga r0) el_24 R R hk2) R (wgn (j := 11) R R R (wlq (po_sfldr (rga r0) hk2 fo_40_1 R) R (wgn (j := 11) R R R (wlq (v := iv ((gx a_q.Spots k2).Seen)) (po_ldf (rga r0) tk_3 R hk2 R) R (bdO t2 fun v6 hv6 t2 => (wgn (j := 11) R R R (wlc (cz0 fa_25 R fun w hw => c_spec_l01In w ((gx a_q.Spots k2).Seen) 0 7 hv6) R (fun _ => (wgn (j := 11) R R R (wlq (po_not R) R (wlq (pif R R) R (wln (wjm _ () (mtE t2) (su4 R R R R) so1))))))))))))))))))))
 intro j3 _ hp
 obtain rfl : j3 = y2 := hp.symm
 refine wqt (wcO t1 R (fun h8 t1 => ?_) fun h8 t1 => ?_)
 refine wcr (asg R R (wnt (wct (wbr (wqr (wqr (wbr (wqr (wqr ?_)))))))))
 replace t0 := lpR t0 l1 t1
 obtain rfl := oi t0
 exact wq1 R R fun w hw => ⟨R, hw.weak zn⟩
 refine wck (wqb (wqt (wcg (mv R R (wlq (po_inc R R (by omega)) R ?_)))))
 exact asg R R (wln (wq_rnd hk2 (stpN l1 t1) () (su3 R R R) so1))
 have c2 : (decide (((k2 : Nat) : Int) < ((a_q.Spots.length : Nat) : Int))) = false := ddf (by omega)
 have en2 := foe l1 hk2
 exact wcs (wcr (mv R R (wlq (pof fo_26_2 R) R (wlq (v := (sl v0a)) (plx tk_24 pz R R) R (wlq (pln (rga r0) el_24 R) R (wlq (pls R R) R (wnt (wff R c2 (wcx (wqe (wqe (wbx (wjm _ () en2 yn zn)))))))))))))
 intro e2 _ hp
 replace t0 := sqE (j := e2) t0 hp
 refine wqt (wcr (asg R R (wnt (wct ?_))))
 obtain rfl := oi t0
 exact wq1 R R fun w hw => ⟨R, hw.weak zn⟩

theorem c_spec_l03Copy (w : World) (a_b : GBlock) (v0a : Hd) (r0 : rdF w (dm w []) (sl v0a) a_b.Cells) {r : GBlock} (t0 : spec_l03Copy a_b = some r) : Calls Try.prog 35 #[.agg #[.int .i64 a_b.Size, (sl v0a)]] w fun e w' => ∃ x : Hd, e = .returned (.agg #[.int .i64 r.Size, (sl x)]) ∧ SH w [] [ownF (sl x) r.Cells] w' := by
 refine cwc (args := [_]) Try.func35 R Try.ntmps35 R ?_
 unfold spec_l03Copy at t0
 refine wcr (wle (eo_box R R) R fun b1 => (wle (eal (cs := [iv 0, (sl hn)]) za_44) R fun b2 => (wnt (wcs (wcd [box b2 [iv 0, (sl hn)], box b1 [iv a_b.Size, (sl v0a)]] 7 mixed (aq 0 R (pof fo_44_0 R) so2 R (aq (v := iv a_b.Size) 1 R (plx tk_3 pk1 R R) so2 R (aq 3 R (pof fo_44_1 R) so2 R (aq (v := (sl v0a)) 4 R (plx tk_42 pk1 R R) so2 R (a1 2 (wse R (ebs R sb_42_0) (fun _ => (zt (zc pk1 (zc pk1 zn)))) R fun b3 => (a1 5 (gdO t0 fun g1 t0 => (wse R (eo_append (xs := ([] : List GCell)) (ys := a_b.Cells) ak_42 (pbo pz (n := 0) (xs := ([] : List GCell)) R R (by unfold maxLen; omega)) R R (slin_rd fun _ g => Rg.on (rga r0) g) g1) (fun _ => (zt (zc pk1 (zc pk1 zn)))) R fun x1 => ?_))))))))))))))
 refine aq 6 R (po_build R (bd_44_0_1 a_b.Size x1)) (zc pk1 (zc pk1 zn)) R (a1 7 (ws_skipop R (sbx (cs' := [iv a_b.Size, (sl x1)]) tk_44 pk1 R R R R R R R) (sts_past (by kernel_rfl)) ?_))
 refine ae (wqt (wct ?_))
 obtain rfl := oi t0
 exact wqc R tk_44 R pz R fun w hw => ⟨x1, R, hw.weak (zc pk1 zn)⟩

theorem c_spec_MirrorCell (w : World) (a_c : GCell) {r : GCell} (t0 : spec_MirrorCell a_c = some r) : Calls Try.prog 45 #[.agg #[.int .i64 a_c.Split, .int .i64 a_c.A, .int .i64 a_c.B]] w fun e w' => e = .returned (.agg #[.int .i64 r.Split, .int .i64 r.A, .int .i64 r.B]) ∧ SH w [] [] w' := by
 refine cwc (args := [_]) Try.func45 R Try.ntmps45 R ?_
 unfold spec_MirrorCell at t0
 refine wcr (wle (eo_box R R) R fun b1 => (wle (eal (cs := [iv 0, iv 0, iv 0]) za_57) R fun b2 => (wnt (wcs (wcr (wlq (v := .agg #[iv a_c.Split, iv a_c.A, iv a_c.B]) (plb tk_57 pk1 R R R) R (bdO t0 fun v1 hv1 t0 => (wlc (cz0 fa_44 R fun w hw => c_spec_CellOk w a_c hv1) R fun _ => (wlq (po_not R) R (wnt (wcO t0 R (fun h1 t0 => ?_) fun h1 t0 => ?_)))))))))))
 refine wcr (wlq (po_build R bd_57) R (wls (sbx (cs' := [iv 0, iv 0, iv 0]) tk_57 pz R R R R R R R) (wnt (wct (wqr ?_)))))
 obtain rfl := oi t0
 exact wqc R tk_57 R pz R fun w hw => ⟨R, hw.weak zn⟩
 refine wck (wqt (wcs (wcr (wlq (pof fo_57_0 R) R (wlq (v := iv a_c.Split) (plx tk_3 pk1 R R) R (wlq (pol R R) R (wnt (wcO t0 R (fun h2 t0 => ?_) fun h2 t0 => ?_))))))))
 refine wcr (wlq (v := .agg #[iv a_c.Split, iv a_c.A, iv a_c.B]) (plb tk_57 pk1 R R R) R (wls (sbx (cs' := [iv a_c.Split, iv a_c.A, iv a_c.B]) tk_57 pz R R R R R R R) (wnt (wct (wqr ?_)))))
 obtain rfl := oi t0
 exact wqc R tk_57 R pz R fun w hw => ⟨R, hw.weak zn⟩
 refine wck (wqt (wcr (wlq (pof fo_57_0 R) R (wlq (v := iv a_c.Split) (plx tk_3 pk1 R R) R (wlq (po_sub R R) R (wlq (pof fo_57_2 R) R (wlq (v := iv a_c.B) (plx tk_3 pk1 R R) R (wlq (pof fo_57_1 R) R (wlq (v := iv a_c.A) (plx tk_3 pk1 R R) R (wlq (po_build R (bd_57_0_1_2 (wr (3 - a_c.Split)) a_c.B a_c.A)) R (wls (sbx (cs' := [iv (wr (3 - a_c.Split)), iv a_c.B, iv a_c.A]) tk_57 pz R R R R R R R) (wnt (wct ?_)))))))))))))
 obtain rfl := oi t0
 exact wqc R tk_57 R pz R fun w hw => ⟨R, hw.weak zn⟩

theorem c_spec_MirrorBlock (w : World) (a_b : GBlock) (v0a : Hd) (r0 : rdF w (dm w []) (sl v0a) a_b.Cells) {r : GBlock} (t0 : spec_MirrorBlock a_b = some r) : Calls Try.prog 36 #[.agg #[.int .i64 a_b.Size, (sl v0a)]] w fun e w' => ∃ x : Hd, e = .returned (.agg #[.int .i64 r.Size, (sl x)]) ∧ SH w [] [ownF (sl x) r.Cells] w' := by
 refine cwc (args := [_]) Try.func36 R Try.ntmps36 R ?_
 unfold spec_MirrorBlock at t0
 refine wcr (wle (eo_box R R) R fun b1 => (wle (eal (cs := [iv 0, (sl hn)]) za_44) R fun b2 => (wnt (wcs (wcr (wlq (v := .agg #[iv a_b.Size, (sl v0a)]) (plb tk_44 pk1 R R R) R (bdO t0 fun v1 hv1 t0 => (wlc (cz0 fa_34 R fun w hw => c_spec_BlockOk w a_b v0a (ra r0 hw) hv1) R fun _ => (wlq (po_not R) R (wnt (wcO t0 R (fun h1 t0 => ?_) fun h1 t0 => ?_)))))))))))
 refine wcr (wlq (po_build R bd_44) R (wls (sbx (cs' := [iv 0, (sl hn)]) tk_44 pz R R R R R R R) (wnt (wct (wqr ?_)))))
 obtain rfl := oi t0
 exact wqc R tk_44 R pz R fun w hw => ⟨hn, R, hw.weak (zc pick_nil zn)⟩
 refine wck (wqt (wcr (wlq (pof fo_44_0 R) R (wlq (v := iv a_b.Size) (plx tk_3 pk1 R R) R (wlq (po_build R (bd_44_0 a_b.Size)) R (wle (eal (cs := [iv 0, (sl hn)]) za_44) R fun b3 => (wls (sbx (cs' := [iv a_b.Size, (sl hn)]) tk_44 pz R R R R R R R) (wnt (wcs (wcr (asg R R (wnt (gdO t0 fun g1 t0 => (lpO_inv t0 fun y1 l1 t0 => (wj (J := List GCell) (X := Hd) (fun z => y1 = z) (fun _ _ => [(2, ptr b2 0), (3, ptr b3 0)]) (fun z x => [box b3 [iv a_b.Size, (sl x)], box b2 [iv 0, (sl hn)], ownF (sl x) z]) ?_ ?_)))))))))))))))
 refine wcb (wcf (X := Hd) l1 (fun k1 s1 x1l => [(1, ptr b1 0), (2, ptr b2 0), (3, ptr b3 0), (4, iv ((k1 : Nat) : Int))]) (fun k1 s1 x1l => [box b3 [iv a_b.Size, (sl x1l)], box b2 [iv 0, (sl hn)], box b1 [iv a_b.Size, (sl v0a)], ownF (sl x1l) s1]) hn (su4 R R R R) (zc pz (zc pz (zc pz (zc pick_nil zn)))) fun k1 s1 x1l hN1 l1 => ?_)
 by_cases hk1 : k1 < (a_b.Size).toNat
 refine fos l1 hk1 fun _ t1 l1 => ?_
 unfold spec_MirrorBlock_L1 at t1
 have c1 : (decide (((k1 : Nat) : Int) < a_b.Size)) = true := ddt (by omega)
 refine wcs (wcr (mv R R (wlq (pof fo_44_0 R) R (wlq (v := iv a_b.Size) (plx tk_3 pk2 R R) R (wlq (pls R R) R (wnt (wft R c1 (wck (wqt (wcs (wcb (wcr (asg R R (wnt (lpO_inv t1 fun y2 l2 t1 => (wj (J := List GCell) (X := Hd) (fun z => y2 = z) (fun _ _ => [(1, ptr b1 0), (2, ptr b2 0), (3, ptr b3 0), (4, iv ((k1 : Nat) : Int))]) (fun z x => [box b3 [iv a_b.Size, (sl x)], box b2 [iv 0, (sl hn)], box b1 [iv a_b.Size, (sl v0a)], ownF (sl x) z]) ?_ ?_))))))))))))))))
 refine wcb (wcf (X := Hd) l2 (fun k2 s2 x2l => [(1, ptr b1 0), (2, ptr b2 0), (3, ptr b3 0), (4, iv ((k1 : Nat) : Int)), (5, iv ((k2 : Nat) : Int))]) (fun k2 s2 x2l => [box b3 [iv a_b.Size, (sl x2l)], box b2 [iv 0, (sl hn)], box b1 [iv a_b.Size, (sl v0a)], ownF (sl x2l) s2]) x1l (su5 R R R R R) so4 fun k2 s2 x2l hN2 l2 => ?_)
 by_cases hk2 : k2 < (a_b.Size).toNat
 refine fos l2 hk2 fun _ t2 l2 => ?_
 unfold spec_MirrorBlock_L2 at t2
 have c2 : (decide (((k2 : Nat) : Int) < a_b.Size)) = true := ddt (by omega)
 refine wcs (wcr (mv R R (wlq (pof fo_44_0 R) R (wlq (v := iv a_b.Size) (plx tk_3 pk2 R R) R (wlq (pls R R) R (wnt (wft R c2 (wck (wqt (wcs (wcb (wcd [box b3 [iv a_b.Size, (sl x2l)], box b2 [iv 0, (sl hn)], box b1 [iv a_b.Size, (sl v0a)]] 20 mixed (aq 0 R (pof fo_44_1 R) so3 R (aq (v := (sl x2l)) 1 R (plx tk_42 pz R R) so3 R (aq 2 R (pof fo_44_1 R) so3 R (aq (v := (sl v0a)) 3 R (plx tk_42 pk2 R R) so3 R (aq 4 R (pom R) so3 R (aq 5 R (pof fo_44_0 R) so3 R (aq (v := iv a_b.Size) 6 R (plx tk_3 pk2 R R) so3 R (aq 7 R (po_mul R R) so3 R (aq 8 R (pof fo_44_0 R) so3 R (aq (v := iv a_b.Size) 9 R (plx tk_3 pk2 R R) so3 R (aq 10 R (po_add R R) so3 R (aq 11 R (po_sub R R) so3 R (aq 12 R (pom R) so3 R (aq 13 R (po_sub R R) so3 R (gdO t2 fun g2 t2 => (aq 14 R (po_ixr (rga r0) el_42 R R g2.1 g2.2) so3 R (aq (v := .agg #[iv ((gx a_b.Cells (((wr ((wr ((wr ((wr (((k1 : Nat) : Int) * a_b.Size)) + a_b.Size)) - 1)) - ((k2 : Nat) : Int)))).toNat)).Split), iv ((gx a_b.Cells (((wr ((wr ((wr ((wr (((k1 : Nat) : Int) * a_b.Size)) + a_b.Size)) - 1)) - ((k2 : Nat) : Int)))).toNat)).A), iv ((gx a_b.Cells (((wr ((wr ((wr ((wr (((k1 : Nat) : Int) * a_b.Size)) + a_b.Size)) - 1)) - ((k2 : Nat) : Int)))).toNat)).B)]) 15 R (po_ldfs (rga r0) tk_57 R (ix_lt g2) R R R) so3 R (a1 16 (bdO t2 fun v2 hv2 t2 => (wsc R (cz0 fa_45 R fun w hw => c_spec_MirrorCell w (gx a_b.Cells (((wr ((wr ((wr ((wr (((k1 : Nat) : Int) * a_b.Size)) + a_b.Size)) - 1)) - ((k2 : Nat) : Int)))).toNat)) hv2) (fun _ => (zt so3)) R fun _ => (a1 17 (wse R (ebs R (sb_42_1 v2.Split v2.A v2.B)) (fun _ => (zt (zc pk1 (zc pk1 (zc pk1 zn))))) R fun b4 => (a1 18 (gdO t2 fun g3 t2 => (wse R (eo_append (xs := s2) (ys := ([v2] : List GCell)) ak_42 pk4 R R (slin_rd fun _ g => Rg.on (rgo (pbo pz (n := 1) (xs := ([v2] : List GCell)) R R (by unfold maxLen; omega))) g) g3) (fun _ => (zt (zc pk2 (zc pk2 (zc pk2 zn))))) R fun x3 => ?_)))))))))))))))))))))))))))))))))))))
 refine aq 19 R (pof fo_44_1 R) (zc pk2 (zc pk2 (zc pk2 zn))) R (a1 20 (ws_skipop R (sbx (cs' := [iv a_b.Size, (sl x3)]) tk_42 pk2 R R R R R R R) (sts_past (by kernel_rfl)) ?_))
 refine ae (wqb (wqt (wcg (mv R R (wlq (po_inc R R (by omega)) R ?_)))))
 exact asg R R (wln (wq_rnd hk2 (stpN l2 t2) x3 (su5 R R R R R) (zc pz (zc pk2 (zc pk2 so1)))))
 have c2 : (decide (((k2 : Nat) : Int) < a_b.Size)) = false := ddf (by omega)
 have en1 := foe l2 hk2
 exact wcs (wcr (mv R R (wlq (pof fo_44_0 R) R (wlq (v := iv a_b.Size) (plx tk_3 pk2 R R) R (wlq (pls R R) R (wnt (wff R c2 (wcx (wqe (wqe (wbx (wjm _ x2l (Sum.inl.inj en1) (su4 R R R R) so4))))))))))))
 intro e2 x2 hp
 obtain rfl : e2 = y2 := hp.symm
 refine wqb (wqt (wcg (mv R R (wlq (po_inc R R (by omega)) R ?_))))
 exact asg R R (wln (wq_rnd hk1 (stpN l1 t1) x2 (su4 R R R R) so4))
 have c1 : (decide (((k1 : Nat) : Int) < a_b.Size)) = false := ddf (by omega)
 have en2 := foe l1 hk1
 exact wcs (wcr (mv R R (wlq (pof fo_44_0 R) R (wlq (v := iv a_b.Size) (plx tk_3 pk2 R R) R (wlq (pls R R) R (wnt (wff R c1 (wcx (wqe (wqe (wbx (wjm _ x1l (Sum.inl.inj en2) (su2 R R) (zc pz (zc pz (zc pk1 zn)))))))))))))))
 intro e1 x1 hp
 obtain rfl : e1 = y1 := hp.symm
 refine wqt (wcr (wlq (v := .agg #[iv a_b.Size, (sl x1)]) (plb tk_44 pz R R R) R (wls (sbx (cs' := [iv a_b.Size, (sl x1)]) tk_44 pk1 R R R R R R R) (wnt (wct ?_)))))
 obtain rfl := oi t0
 exact wqc R tk_44 R pz R fun w hw => ⟨x1, R, hw.weak (zc pk2 zn)⟩

theorem c_spec_TurnCell (w : World) (a_c : GCell) {r : GCell} (t0 : spec_TurnCell a_c = some r) : Calls Try.prog 46 #[.agg #[.int .i64 a_c.Split, .int .i64 a_c.A, .int .i64 a_c.B]] w fun e w' => e = .returned (.agg #[.int .i64 r.Split, .int .i64 r.A, .int .i64 r.B]) ∧ SH w [] [] w' := by
 refine cwc (args := [_]) Try.func46 R Try.ntmps46 R ?_
 unfold spec_TurnCell at t0
 refine wcr (wle (eo_box R R) R fun b1 => (wle (eal (cs := [iv 0, iv 0, iv 0]) za_57) R fun b2 => (wnt (wcs (wcr (wlq (v := .agg #[iv a_c.Split, iv a_c.A, iv a_c.B]) (plb tk_57 pk1 R R R) R (bdO t0 fun v1 hv1 t0 => (wlc (cz0 fa_44 R fun w hw => c_spec_CellOk w a_c hv1) R fun _ => (wlq (po_not R) R (wnt (wcO t0 R (fun h1 t0 => ?_) fun h1 t0 => ?_)))))))))))
 refine wcr (wlq (po_build R bd_57) R (wls (sbx (cs' := [iv 0, iv 0, iv 0]) tk_57 pz R R R R R R R) (wnt (wct (wqr ?_)))))
 obtain rfl := oi t0
 exact wqc R tk_57 R pz R fun w hw => ⟨R, hw.weak zn⟩
 refine wck (wqt (wcs (wcr (wlq (pof fo_57_0 R) R (wlq (v := iv a_c.Split) (plx tk_3 pk1 R R) R (wnt (wcb (wcr (wlq (pol R R) R (asg R R (wnt (wcO t0 R (fun h2 t0 => ?_) fun h2 t0 => ?_))))))))))))
 refine wcr (wlq (pof fo_57_2 R) R (wlq (v := iv a_c.B) (plx tk_3 pk1 R R) R (wlq (pof fo_57_1 R) R (wlq (v := iv a_c.A) (plx tk_3 pk1 R R) R (wlq (po_build R (bd_57_0_1_2 2 a_c.B a_c.A)) R (wls (sbx (cs' := [iv 2, iv a_c.B, iv a_c.A]) tk_57 pz R R R R R R R) (wnt (wct (wbr (wqr ?_))))))))))
 obtain rfl := oi t0
 exact wqc R tk_57 R pz R fun w hw => ⟨R, hw.weak zn⟩
 refine wcr (wlq (pol R R) R (asg R R (wnt (wcO t0 R (fun h3 t0 => ?_) fun h3 t0 => ?_))))
 refine wcr (wlq (pof fo_57_1 R) R (wlq (v := iv a_c.A) (plx tk_3 pk1 R R) R (wlq (pof fo_57_2 R) R (wlq (v := iv a_c.B) (plx tk_3 pk1 R R) R (wlq (po_build R (bd_57_0_1_2 1 a_c.A a_c.B)) R (wls (sbx (cs' := [iv 1, iv a_c.A, iv a_c.B]) tk_57 pz R R R R R R R) (wnt (wct (wbr (wqr ?_))))))))))
 obtain rfl := oi t0
 exact wqc R tk_57 R pz R fun w hw => ⟨R, hw.weak zn⟩
 refine wck (wqb (wqt (wcr (wlq (v := .agg #[iv a_c.Split, iv a_c.A, iv a_c.B]) (plb tk_57 pk1 R R R) R (wls (sbx (cs' := [iv a_c.Split, iv a_c.A, iv a_c.B]) tk_57 pz R R R R R R R) (wnt (wct ?_)))))))
 obtain rfl := oi t0
 exact wqc R tk_57 R pz R fun w hw => ⟨R, hw.weak zn⟩

theorem c_spec_TurnBlock (w : World) (a_b : GBlock) (v0a : Hd) (r0 : rdF w (dm w []) (sl v0a) a_b.Cells) {r : GBlock} (t0 : spec_TurnBlock a_b = some r) : Calls Try.prog 37 #[.agg #[.int .i64 a_b.Size, (sl v0a)]] w fun e w' => ∃ x : Hd, e = .returned (.agg #[.int .i64 r.Size, (sl x)]) ∧ SH w [] [ownF (sl x) r.Cells] w' := by
 refine cwc (args := [_]) Try.func37 R Try.ntmps37 R ?_
 unfold spec_TurnBlock at t0
 refine wcr (wle (eo_box R R) R fun b1 => (wle (eal (cs := [iv 0, (sl hn)]) za_44) R fun b2 => (wnt (wcs (wcr (wlq (v := .agg #[iv a_b.Size, (sl v0a)]) (plb tk_44 pk1 R R R) R (bdO t0 fun v1 hv1 t0 => (wlc (cz0 fa_34 R fun w hw => c_spec_BlockOk w a_b v0a (ra r0 hw) hv1) R fun _ => (wlq (po_not R) R (wnt (wcO t0 R (fun h1 t0 => ?_) fun h1 t0 => ?_)))))))))))
 refine wcr (wlq (po_build R bd_44) R (wls (sbx (cs' := [iv 0, (sl hn)]) tk_44 pz R R R R R R R) (wnt (wct (wqr ?_)))))
 obtain rfl := oi t0
 exact wqc R tk_44 R pz R fun w hw => ⟨hn, R, hw.weak (zc pick_nil zn)⟩
 refine wck (wqt (wcr (wlq (pof fo_44_0 R) R (wlq (v := iv a_b.Size) (plx tk_3 pk1 R R) R (wlq (po_build R (bd_44_0 a_b.Size)) R (wle (eal (cs := [iv 0, (sl hn)]) za_44) R fun b3 => (wls (sbx (cs' := [iv a_b.Size, (sl hn)]) tk_44 pz R R R R R R R) (wnt (wcs (wcr (asg R R (wnt (gdO t0 fun g1 t0 => (lpO_inv t0 fun y1 l1 t0 => (wj (J := List GCell) (X := Hd) (fun z => y1 = z) (fun _ _ => [(2, ptr b2 0), (3, ptr b3 0)]) (fun z x => [box b3 [iv a_b.Size, (sl x)], box b2 [iv 0, (sl hn)], ownF (sl x) z]) ?_ ?_)))))))))))))))
 refine wcb (wcf (X := Hd) l1 (fun k1 s1 x1l => [(1, ptr b1 0), (2, ptr b2 0), (3, ptr b3 0), (4, iv ((k1 : Nat) : Int))]) (fun k1 s1 x1l => [box b3 [iv a_b.Size, (sl x1l)], box b2 [iv 0, (sl hn)], box b1 [iv a_b.Size, (sl v0a)], ownF (sl x1l) s1]) hn (su4 R R R R) (zc pz (zc pz (zc pz (zc pick_nil zn)))) fun k1 s1 x1l hN1 l1 => ?_)
 by_cases hk1 : k1 < (a_b.Size).toNat
 refine fos l1 hk1 fun _ t1 l1 => ?_
 unfold spec_TurnBlock_L1 at t1
 have c1 : (decide (((k1 : Nat) : Int) < a_b.Size)) = true := ddt (by omega)
 refine wcs (wcr (mv R R (wlq (pof fo_44_0 R) R (wlq (v := iv a_b.Size) (plx tk_3 pk2 R R) R (wlq (pls R R) R (wnt (wft R c1 (wck (wqt (wcs (wcb (wcr (asg R R (wnt (lpO_inv t1 fun y2 l2 t1 => (wj (J := List GCell) (X := Hd) (fun z => y2 = z) (fun _ _ => [(1, ptr b1 0), (2, ptr b2 0), (3, ptr b3 0), (4, iv ((k1 : Nat) : Int))]) (fun z x => [box b3 [iv a_b.Size, (sl x)], box b2 [iv 0, (sl hn)], box b1 [iv a_b.Size, (sl v0a)], ownF (sl x) z]) ?_ ?_))))))))))))))))
 refine wcb (wcf (X := Hd) l2 (fun k2 s2 x2l => [(1, ptr b1 0), (2, ptr b2 0), (3, ptr b3 0), (4, iv ((k1 : Nat) : Int)), (5, iv ((k2 : Nat) : Int))]) (fun k2 s2 x2l => [box b3 [iv a_b.Size, (sl x2l)], box b2 [iv 0, (sl hn)], box b1 [iv a_b.Size, (sl v0a)], ownF (sl x2l) s2]) x1l (su5 R R R R R) so4 fun k2 s2 x2l hN2 l2 => ?_)
 by_cases hk2 : k2 < (a_b.Size).toNat
 refine fos l2 hk2 fun _ t2 l2 => ?_
 unfold spec_TurnBlock_L2 at t2
 have c2 : (decide (((k2 : Nat) : Int) < a_b.Size)) = true := ddt (by omega)
 refine wcs (wcr (mv R R (wlq (pof fo_44_0 R) R (wlq (v := iv a_b.Size) (plx tk_3 pk2 R R) R (wlq (pls R R) R (wnt (wft R c2 (wck (wqt (wcs (wcb (wcd [box b3 [iv a_b.Size, (sl x2l)], box b2 [iv 0, (sl hn)], box b1 [iv a_b.Size, (sl v0a)]] 20 mixed (aq 0 R (pof fo_44_1 R) so3 R (aq (v := (sl x2l)) 1 R (plx tk_42 pz R R) so3 R (aq 2 R (pof fo_44_1 R) so3 R (aq (v := (sl v0a)) 3 R (plx tk_42 pk2 R R) so3 R (aq 4 R (pof fo_44_0 R) so3 R (aq (v := iv a_b.Size) 5 R (plx tk_3 pk2 R R) so3 R (aq 6 R (po_sub R R) so3 R (aq 7 R (pom R) so3 R (aq 8 R (po_sub R R) so3 R (aq 9 R (pof fo_44_0 R) so3 R (aq (v := iv a_b.Size) 10 R (plx tk_3 pk2 R R) so3 R (aq 11 R (po_mul R R) so3 R (aq 12 R (pom R) so3 R (aq 13 R (po_add R R) so3 R (gdO t2 fun g2 t2 => (aq 14 R (po_ixr (rga r0) el_42 R R g2.1 g2.2) so3 R (aq (v := .agg #[iv ((gx a_b.Cells (((wr ((wr ((wr ((wr (a_b.Size - 1)) - ((k2 : Nat) : Int))) * a_b.Size)) + ((k1 : Nat) : Int)))).toNat)).Split), iv ((gx a_b.Cells (((wr ((wr ((wr ((wr (a_b.Size - 1)) - ((k2 : Nat) : Int))) * a_b.Size)) + ((k1 : Nat) : Int)))).toNat)).A), iv ((gx a_b.Cells (((wr ((wr ((wr ((wr (a_b.Size - 1)) - ((k2 : Nat) : Int))) * a_b.Size)) + ((k1 : Nat) : Int)))).toNat)).B)]) 15 R (po_ldfs (rga r0) tk_57 R (ix_lt g2) R R R) so3 R (a1 16 (bdO t2 fun v2 hv2 t2 => (wsc R (cz0 fa_46 R fun w hw => c_spec_TurnCell w (gx a_b.Cells (((wr ((wr ((wr ((wr (a_b.Size - 1)) - ((k2 : Nat) : Int))) * a_b.Size)) + ((k1 : Nat) : Int)))).toNat)) hv2) (fun _ => (zt so3)) R fun _ => (a1 17 (wse R (ebs R (sb_42_1 v2.Split v2.A v2.B)) (fun _ => (zt (zc pk1 (zc pk1 (zc pk1 zn))))) R fun b4 => (a1 18 (gdO t2 fun g3 t2 => (wse R (eo_append (xs := s2) (ys := ([v2] : List GCell)) ak_42 pk4 R R (slin_rd fun _ g => Rg.on (rgo (pbo pz (n := 1) (xs := ([v2] : List GCell)) R R (by unfold maxLen; omega))) g) g3) (fun _ => (zt (zc pk2 (zc pk2 (zc pk2 zn))))) R fun x3 => ?_)))))))))))))))))))))))))))))))))))))
 refine aq 19 R (pof fo_44_1 R) (zc pk2 (zc pk2 (zc pk2 zn))) R (a1 20 (ws_skipop R (sbx (cs' := [iv a_b.Size, (sl x3)]) tk_42 pk2 R R R R R R R) (sts_past (by kernel_rfl)) ?_))
 refine ae (wqb (wqt (wcg (mv R R (wlq (po_inc R R (by omega)) R ?_)))))
 exact asg R R (wln (wq_rnd hk2 (stpN l2 t2) x3 (su5 R R R R R) (zc pz (zc pk2 (zc pk2 so1)))))
 have c2 : (decide (((k2 : Nat) : Int) < a_b.Size)) = false := ddf (by omega)
 have en1 := foe l2 hk2
 exact wcs (wcr (mv R R (wlq (pof fo_44_0 R) R (wlq (v := iv a_b.Size) (plx tk_3 pk2 R R) R (wlq (pls R R) R (wnt (wff R c2 (wcx (wqe (wqe (wbx (wjm _ x2l (Sum.inl.inj en1) (su4 R R R R) so4))))))))))))
 intro e2 x2 hp
 obtain rfl : e2 = y2 := hp.symm
 refine wqb (wqt (wcg (mv R R (wlq (po_inc R R (by omega)) R ?_))))
 exact asg R R (wln (wq_rnd hk1 (stpN l1 t1) x2 (su4 R R R R) so4))
 have c1 : (decide (((k1 : Nat) : Int) < a_b.Size)) = false := ddf (by omega)
 have en2 := foe l1 hk1
 exact wcs (wcr (mv R R (wlq (pof fo_44_0 R) R (wlq (v := iv a_b.Size) (plx tk_3 pk2 R R) R (wlq (pls R R) R (wnt (wff R c1 (wcx (wqe (wqe (wbx (wjm _ x1l (Sum.inl.inj en2) (su2 R R) (zc pz (zc pz (zc pk1 zn)))))))))))))))
 intro e1 x1 hp
 obtain rfl : e1 = y1 := hp.symm
 refine wqt (wcr (wlq (v := .agg #[iv a_b.Size, (sl x1)]) (plb tk_44 pz R R R) R (wls (sbx (cs' := [iv a_b.Size, (sl x1)]) tk_44 pk1 R R R R R R R) (wnt (wct ?_)))))
 obtain rfl := oi t0
 exact wqc R tk_44 R pz R fun w hw => ⟨x1, R, hw.weak (zc pk2 zn)⟩

theorem c_spec_SeenFrom (w : World) (a_b : GBlock) (v0a : Hd) (r0 : rdF w (dm w []) (sl v0a) a_b.Cells) (a_k : Int) {r : GBlock} (t0 : spec_SeenFrom a_b a_k = some r) : Calls Try.prog 26 #[.agg #[.int .i64 a_b.Size, (sl v0a)], .int .i64 a_k] w fun e w' => ∃ x : Hd, e = .returned (.agg #[.int .i64 r.Size, (sl x)]) ∧ SH w [] [ownF (sl x) r.Cells] w' := by
 refine cwc (args := [_, _]) Try.func26 R Try.ntmps26 R ?_
 unfold spec_SeenFrom at t0
 refine wcr (wle (eo_box R R) R fun b1 => (wle (eal (cs := [iv 0, (sl hn)]) za_44) R fun b2 => (wnt (wcs (wcs (bdO t0 fun y1 t1 t0 => (wj (J := Bool) (X := Unit) (fun z => y1 = z) (fun z _ => [(1, iv a_k), (2, ptr b1 0), (4, ptr b2 0), (14, .bool z)]) (fun _ _ => [box b2 [iv 0, (sl hn)], box b1 [iv a_b.Size, (sl v0a)]]) ?_ ?_)))))))
 refine wcg (wlq (v := .agg #[iv a_b.Size, (sl v0a)]) (plb tk_44 pk1 R R R) R (bdO t1 fun v1 hv1 t1 => (wlc (cz0 fa_34 R fun w hw => c_spec_BlockOk w a_b v0a (ra r0 hw) hv1) R fun _ => (wlq (po_not R) R (mv R R (wlo (t := 10) t1 R (fun h1 t1 => ?_) fun h1 t1 => ?_))))))
 exact wgf (j := 3) R R R R R (wgf (j := 3) R R R R R (wgf (j := 3) R R R R R (wlq (pit R R) R (wln (wjm _ () (mtE t1) (su4 R R R R) so2)))))
 exact wgn (j := 3) R R R (mv R R (bdO t1 fun v2 hv2 t1 => (wgn (j := 3) R R R (wlc (cz0 fa_25 R fun w hw => c_spec_l01In w a_k 0 7 hv2) R (fun _ => (wgn (j := 3) R R R (wlq (po_not R) R (wlq (pif R R) R (wln (wjm _ () (mtE t1) (su4 R R R R) so2))))))))))
 intro j1 _ hp
 obtain rfl : j1 = y1 := hp.symm
 refine wqt (wcO t0 R (fun h2 t0 => ?_) fun h2 t0 => ?_)
 refine wcr (wlq (po_build R bd_44) R (wls (sbx (cs' := [iv 0, (sl hn)]) tk_44 pz R R R R R R R) (wnt (wct (wqr ?_)))))
 obtain rfl := oi t0
 exact wqc R tk_44 R pz R fun w hw => ⟨hn, R, hw.weak (zc pick_nil zn)⟩
 refine wck (wqt (wcr (wlq (v := .agg #[iv a_b.Size, (sl v0a)]) (plb tk_44 pk1 R R R) R (bdO t0 fun v3 hv3 t0 => (wlc (cz1 fa_35 R fun w hw => c_spec_l03Copy w a_b v0a (ra r0 hw) hv3) R fun x2 => (wle (eal (cs := [iv 0, (sl hn)]) za_44) R fun b3 => (wls (sbx (cs' := [iv v3.Size, (sl x2)]) tk_44 pz R R R R R R R) (wnt (wcs (wcr (mv R R (wlq (po_geq R R) R (wnt (bdO t0 fun y1 t1 t0 => (wj (J := GBlock) (X := Hd) (fun z => y1 = z) (fun _ _ => [(1, iv a_k), (4, ptr b2 0), (5, ptr b3 0)]) (fun z x => [box b3 [iv ((z).Size), (sl x)], box b2 [iv 0, (sl hn)], ownF (sl x) ((z).Cells)]) ?_ ?_)))))))))))))))
 refine wcO t1 R (fun h3 t1 => ?_) fun h3 t1 => ?_
 exact wcg (wlq (v := .agg #[iv a_b.Size, (sl v0a)]) (plb tk_44 pk3 R R R) R (bdO t1 fun v4 hv4 t1 => (wlc (cz1 fa_36 R fun w hw => c_spec_MirrorBlock w a_b v0a (ra r0 hw) hv4) R fun x4 => (wls (sbx (cs' := [iv v4.Size, (sl x4)]) tk_44 pk1 R R R R R R R) (wln (wjm _ x4 (mtE t1) (su3 R R R) (zc pz (zc pk2 so1))))))))
 exact wck (wjm _ x2 (mtE t1) (su3 R R R) (zc pz (zc pk1 so1)))
 intro j2 x3 hp
 obtain rfl : j2 = y1 := hp.symm
 refine wqt (wcs (wcr (asg R R (wnt (gdO t0 fun g1 t0 => (lpO_inv t0 fun y1 l1 t0 => (wj (J := Int × (List GCell)) (X := Hd) (fun z => y1 = z) (fun _ _ => [(4, ptr b2 0), (5, ptr b3 0)]) (fun z x => [box b3 [iv z.1, (sl x)], box b2 [iv 0, (sl hn)], ownF (sl x) z.2]) ?_ ?_)))))))
 refine wcb (wcf (X := Hd) l1 (fun k1 s1 x1l => [(1, iv a_k), (4, ptr b2 0), (5, ptr b3 0), (6, iv ((k1 : Nat) : Int))]) (fun k1 s1 x1l => [box b3 [iv s1.1, (sl x1l)], box b2 [iv 0, (sl hn)], ownF (sl x1l) s1.2]) x3 (su4 R R R R) so3 fun k1 s1 x1l hN1 l1 => ?_)
 by_cases hk1 : k1 < ((a_k.tmod 4)).toNat
 refine fos l1 hk1 fun _ t1 l1 => ?_
 unfold spec_SeenFrom_L1 at t1
 have c1 : (decide (((k1 : Nat) : Int) < (a_k.tmod 4))) = true := ddt (by omega)
 refine wcs (wcr (mv R R (mv R R (wlq (po_rem R R (by decide)) R ?_))))
 refine wlq (pls R R) R (wnt (wft R c1 (wck (wqt (wcs (wcb (wcg (wlq (v := .agg #[iv s1.1, (sl x1l)]) (plb tk_44 pz R R R) R (bdO t1 fun v5 hv5 t1 => (wlc (cz1 fa_37 R fun w hw => c_spec_TurnBlock w (GBlock.mk s1.1 s1.2) x1l (Rg.on (rgo pk2) hw) hv5) R fun x6 => (wls (sbx (cs' := [iv v5.Size, (sl x6)]) tk_44 pk1 R R R R R R R) (wln (wqb (wqt (wcg (mv R R (wlq (po_inc R R (by omega)) R ?_)))))))))))))))))
 exact asg R R (wln (wq_rnd hk1 (stpN l1 t1) x6 (su4 R R R R) (zc pz (zc pk1 so1))))
 have c1 : (decide (((k1 : Nat) : Int) < (a_k.tmod 4))) = false := ddf (by omega)
 have en1 := foe l1 hk1
 refine wcs (wcr (mv R R (mv R R (wlq (po_rem R R (by decide)) R ?_))))
 exact wlq (pls R R) R (wnt (wff R c1 (wcx (wqe (wqe (wbx (wjm _ x1l (Sum.inl.inj en1) (su2 R R) so3)))))))
 intro e1 x5 hp
 obtain rfl : e1 = y1 := hp.symm
 refine wqt (wcr (wlq (v := .agg #[iv e1.1, (sl x5)]) (plb tk_44 pz R R R) R (wls (sbx (cs' := [iv e1.1, (sl x5)]) tk_44 pk1 R R R R R R R) (wnt (wct ?_)))))
 obtain rfl := oi t0
 exact wqc R tk_44 R pz R fun w hw => ⟨x5, R, hw.weak (zc pk2 zn)⟩

theorem c_spec_ShownAt (w : World) (a_q : GQuilt) (v0a : Hd) (r0 : rdF w (dm w []) (sl v0a) a_q.Spots) (a_blocks : List GBlock) (v1a : Hd) (u1a : List Value) (r1 : RdL w (dm w []) (sl v1a) u1a a_blocks) (a_x : Int) (a_y : Int) {r : GBlock} (t0 : spec_ShownAt a_q a_blocks a_x a_y = some r) : Calls Try.prog 13 #[.agg #[.int .i64 a_q.Width, .int .i64 a_q.Height, (sl v0a)], (sl v1a), .int .i64 a_x, .int .i64 a_y] w fun e w' => ∃ x : Hd, e = .returned (.agg #[.int .i64 r.Size, (sl x)]) ∧ SH w [] [ownF (sl x) r.Cells] w' := by
 refine cwc (args := [_, _, _, _]) Try.func13 R Try.ntmps13 R ?_
 unfold spec_ShownAt at t0
 refine wcr (wle (eo_box R R) R fun b1 => (wle (eal (cs := [iv 0, (sl hn)]) za_44) R fun b2 => (wnt (wcs (wcs (bdO t0 fun y1 t1 t0 => (wj (J := Bool) (X := Unit) (fun z => y1 = z) (fun z _ => [(1, (sl v1a)), (2, iv a_x), (3, iv a_y), (4, ptr b1 0), (8, ptr b2 0), (29, .bool z)]) (fun _ _ => [box b2 [iv 0, (sl hn)], box b1 [iv a_q.Width, iv a_q.Height, (sl v0a)]]) ?_ ?_)))))))
 refine wcg (wlq (v := .agg #[iv a_q.Width, iv a_q.Height, (sl v0a)]) (plb tk_26 pk1 R R R) R (mv R R (bdO t1 fun v1 hv1 t1 => (wlc (cz0 fa_24 R fun w hw => c_spec_QuiltOk w a_q v0a (ra r0 hw) a_blocks v1a u1a (ra r1 hw) hv1) R fun _ => (wlq (po_not R) R (mv R R (wlo (t := 14) t1 R (fun h1 t1 => ?_) fun h1 t1 => ?_)))))))
 exact wgf (j := 4) R R R R R (wgf (j := 4) R R R R R (wgf (j := 4) R R R R R (wgf (j := 4) R R R R R (wgf (j := 4) R R R R R (wgf (j := 4) R R R R R (wlq (pit R R) R (mv R R (wgf (j := 12) R R R R R (wgf (j := 12) R R R R R (wgf (j := 12) R R R R R (wgf (j := 12) R R R R R (wgf (j := 12) R R R R R (wgf (j := 12) R R R R R (wlq (pit R R) R (wln (wjm _ () (mtE t1) (su6 R R R R R R) so2))))))))))))))))
 refine wgn (j := 4) R R R (mv R R (wgn (j := 4) R R R (wlq (pof fo_26_0 R) R (wgn (j := 4) R R R (wlq (v := iv a_q.Width) (plx tk_3 pk1 R R) R (wgn (j := 4) R R R (wlq (po_sub R R) R (bdO t1 fun v2 hv2 t1 => (wgn (j := 4) R R R (wlc (cz0 fa_25 R fun w hw => c_spec_l01In w a_x 0 (wr (a_q.Width - 1)) hv2) R (fun _ => (wgn (j := 4) R R R (wlq (po_not R) R (wlq (pif R R) R (mv R R (wlo (t := 22) t1 R (fun h2 t1 => ?_) fun h2 t1 => ?_))))))))))))))))
 exact wgf (j := 12) R R R R R (wgf (j := 12) R R R R R (wgf (j := 12) R R R R R (wgf (j := 12) R R R R R (wgf (j := 12) R R R R R (wgf (j := 12) R R R R R (wlq (pit R R) R (wln (wjm _ () (mtE t1) (su6 R R R R R R) so2))))))))
 exact wgn (j := 12) R R R (mv R R (wgn (j := 12) R R R (wlq (pof fo_26_1 R) R (wgn (j := 12) R R R (wlq (v := iv a_q.Height) (plx tk_3 pk1 R R) R (wgn (j := 12) R R R (wlq (po_sub R R) R (bdO t1 fun v3 hv3 t1 => (wgn (j := 12) R R R (wlc (cz0 fa_25 R fun w hw => c_spec_l01In w a_y 0 (wr (a_q.Height - 1)) hv3) R (fun _ => (wgn (j := 12) R R R (wlq (po_not R) R (wlq (pif R R) R (wln (wjm _ () (mtE t1) (su6 R R R R R R) so2))))))))))))))))
 intro j1 _ hp
 obtain rfl : j1 = y1 := hp.symm
 refine wqt (wcO t0 R (fun h3 t0 => ?_) fun h3 t0 => ?_)
 refine wcr (wlq (po_build R bd_44) R (wls (sbx (cs' := [iv 0, (sl hn)]) tk_44 pz R R R R R R R) (wnt (wct (wqr ?_)))))
 obtain rfl := oi t0
 exact wqc R tk_44 R pz R fun w hw => ⟨hn, R, hw.weak (zc pick_nil zn)⟩
 refine wck (wqt (wcr (wlq (pof fo_26_2 R) R (wlq (v := (sl v0a)) (plx tk_24 pk1 R R) R (mv R R (wlq (pof fo_26_0 R) R (wlq (v := iv a_q.Width) (plx tk_3 pk1 R R) R (wlq (po_mul R R) R (mv R R (wlq (po_add R R) R (gdO t0 fun g1 t0 => (wlq (po_ixr (rga r0) el_24 R R g1.1 g1.2) R (wlq (v := .agg #[iv ((gx a_q.Spots (((wr ((wr (a_y * a_q.Width)) + a_x))).toNat)).Block), iv ((gx a_q.Spots (((wr ((wr (a_y * a_q.Width)) + a_x))).toNat)).Seen)]) (po_ldfs (rga r0) tk_40 R (ix_lt g1) R R R) R (wle (eal (cs := [iv 0, iv 0]) za_40) R fun b3 => (wls (sbx (cs' := [iv ((gx a_q.Spots (((wr ((wr (a_y * a_q.Width)) + a_x))).toNat)).Block), iv ((gx a_q.Spots (((wr ((wr (a_y * a_q.Width)) + a_x))).toNat)).Seen)]) tk_40 pz R R R R R R R) (wnt (wcs (wcd [box b3 [iv ((gx a_q.Spots (((wr ((wr (a_y * a_q.Width)) + a_x))).toNat)).Block), iv ((gx a_q.Spots (((wr ((wr (a_y * a_q.Width)) + a_x))).toNat)).Seen)], box b2 [iv 0, (sl hn)], box b1 [iv a_q.Width, iv a_q.Height, (sl v0a)]] 8 mixed (aq 0 R (pom R) so3 R (aq 1 R (pof fo_40_0 R) so3 R (aq (v := iv ((gx a_q.Spots (((wr ((wr (a_y * a_q.Width)) + a_x))).toNat)).Block)) 2 R (plx tk_3 pz R R) so3 R (gdO t0 fun g2 t0 => (aq 3 R (po_ixr (rga r1) el_27 R R g2.1 g2.2) so3 R (wa_elem (rga r1) (ix_lt g2) ?_))))))))))))))))))))))))
 rintro ⟨_, _, he1⟩
 obtain ⟨w1, hc1, _⟩ := rd_GBlock.1 he1
 refine aq (v := .agg #[iv ((gx a_blocks (((gx a_q.Spots (((wr ((wr (a_y * a_q.Width)) + a_x))).toNat)).Block).toNat)).Size), (sl w1)]) 4 R (po_ldns (rga r1) tk_44 R hc1 R R R) so3 R (aq 5 R (pof fo_40_1 R) so3 R (aq (v := iv ((gx a_q.Spots (((wr ((wr (a_y * a_q.Width)) + a_x))).toNat)).Seen)) 6 R (plx tk_3 pz R R) so3 R (a1 7 (bdO t0 fun v4 hv4 t0 => (wsc R (cz1 fa_26 R fun w hw => c_spec_SeenFrom w (gx a_blocks (((gx a_q.Spots (((wr ((wr (a_y * a_q.Width)) + a_x))).toNat)).Block).toNat)) w1 (Rg.on (er_GBlock_0 hc1 (rga r1) (ix_lt g2)) hw) ((gx a_q.Spots (((wr ((wr (a_y * a_q.Width)) + a_x))).toNat)).Seen) hv4) (fun _ => (zt (zc pk1 (zc pk1 (zc pk1 zn))))) R fun x2 => (a1 8 (ws_skipop R (sbx (cs' := [iv v4.Size, (sl x2)]) tk_44 pk2 R R R R R R R) (sts_past (by kernel_rfl)) ?_)))))))
 refine ae (wqt (wct ?_))
 obtain rfl := oi t0
 exact wqc R tk_44 R pz R fun w hw => ⟨x2, R, hw.weak (zc pk1 zn)⟩

theorem c_spec_SameBlock (w : World) (a_b : GBlock) (v0a : Hd) (r0 : rdF w (dm w []) (sl v0a) a_b.Cells) (a_d : GBlock) (v1a : Hd) (r1 : rdF w (dm w []) (sl v1a) a_d.Cells) {r : Bool} (t0 : spec_SameBlock a_b a_d = some r) : Calls Try.prog 12 #[.agg #[.int .i64 a_b.Size, (sl v0a)], .agg #[.int .i64 a_d.Size, (sl v1a)]] w fun e w' => e = .returned (.bool r) ∧ SH w [] [] w' := by
 refine cwc (args := [_, _]) Try.func12 R Try.ntmps12 R ?_
 unfold spec_SameBlock at t0
 refine wcr (wle (eo_box R R) R fun b1 => (wle (eo_box R R) R fun b2 => (asg R R (wnt (wcs (wcs (wcj (X := Unit) (fun _ => True) (fun _ => [(2, ptr b1 0), (3, ptr b2 0), (19, .bool ((a_b.Size != a_d.Size) || (((a_b.Cells.length : Nat) : Int) != ((a_d.Cells.length : Nat) : Int))))]) (fun _ => [box b2 [iv a_d.Size, (sl v1a)], box b1 [iv a_b.Size, (sl v0a)]]) ?_ ?_)))))))
 refine wcg (wlq (pof fo_44_0 R) R (wlq (v := iv a_b.Size) (plx tk_3 pk1 R R) R (wlq (pof fo_44_0 R) R (wlq (v := iv a_d.Size) (plx tk_3 pz R R) R (wlq (po_neq R R) R (mv R R (wl_fork (t := 11) R (fun h1 => ?_) fun h1 => ?_)))))))
 exact wgf (j := 5) R R R R R (wgf (j := 5) R R R R R (wgf (j := 5) R R R R R (wgf (j := 5) R R R R R (wgf (j := 5) R R R R R (wgf (j := 5) R R R R R (wgf (j := 5) R R R R R (wlq (pit R R) R (wln (wqm () trivial (yc R (yc R (sub_b R (by rw [h1]; rfl) yn))) so2)))))))))
 exact wgn (j := 5) R R R (wlq (pof fo_44_1 R) R (wgn (j := 5) R R R (wlq (v := (sl v0a)) (plx tk_42 pk1 R R) R (wgn (j := 5) R R R (wlq (pln (rga r0) el_42 R) R (wgn (j := 5) R R R (wlq (pof fo_44_1 R) R (wgn (j := 5) R R R (wlq (v := (sl v1a)) (plx tk_42 pz R R) R (wgn (j := 5) R R R (wlq (pln (rga r1) el_42 R) R (wgn (j := 5) R R R (wlq (po_neq R R) R (wlq (pif R R) R (wln (wqm () trivial (yc R (yc R (sub_b R (by rw [h1]; rfl) yn))) so2))))))))))))))))
 intro _ _
 refine wqt (wcO t0 R (fun h2 t0 => ?_) fun h2 t0 => ?_)
 refine wcr (asg R R (wnt (wct (wqr ?_))))
 obtain rfl := oi t0
 exact wq1 R R fun w hw => ⟨R, hw.weak zn⟩
 refine wck (wqt (wcs (wcr (asg R R (wnt (gdO t0 fun g1 t0 => (sqO t0 fun y1 l1 t0 => (wj (J := Unit) (X := Unit) (fun z => y1 = .inl z) (fun _ _ => []) (fun _ _ => []) ?_ ?_))))))))
 refine wcb (wcf (X := Unit) l1 (fun k1 s1 x1l => [(2, ptr b1 0), (3, ptr b2 0), (5, iv ((k1 : Nat) : Int))]) (fun k1 s1 x1l => [box b2 [iv a_d.Size, (sl v1a)], box b1 [iv a_b.Size, (sl v0a)]]) () (su3 R R R) so2 fun k1 s1 x1l hN1 l1 => ?_)
 by_cases hk1 : k1 < a_b.Cells.length
 refine fos l1 hk1 fun _ t1 l1 => ?_
 unfold spec_SameBlock_L1 at t1
 have c1 : (decide (((k1 : Nat) : Int) < ((a_b.Cells.length : Nat) : Int))) = true := ddt (by omega)
 refine wcs (wcr (mv R R (wlq (pof fo_44_1 R) R (wlq (v := (sl v0a)) (plx tk_42 pk1 R R) R (wlq (pln (rga r0) el_42 R) R (wlq (pls R R) R (wnt (wft R c1 (wck (wqt (wcs (wcb (wcs (wcd [box b2 [iv a_d.Size, (sl v1a)], box b1 [iv a_b.Size, (sl v0a)]] 11 mixed (aq 0 R (pof fo_44_1 R) so2 R (aq (v := (sl v0a)) 1 R (plx tk_42 pk1 R R) so2 R (aq 2 R (pom R) so2 R (aq 3 R (po_ixn (k := k1) (rga r0) el_42 R R hk1) so2 R (aq (v := .agg #[iv ((gx a_b.Cells k1).Split), iv ((gx a_b.Cells k1).A), iv ((gx a_b.Cells k1).B)]) 4 R (po_ldfs (rga r0) tk_57 R hk1 R R R) so2 R (aq 5 R (pof fo_44_1 R) so2 R (aq (v := (sl v1a)) 6 R (plx tk_42 pz R R) so2 R (aq 7 R (pom R) so2 R (gdO t1 fun g2 t1 => (aq 8 R (po_ixn (k := k1) (rga r1) el_42 R R g2) so2 R (aq (v := .agg #[iv ((gx a_d.Cells k1).Split), iv ((gx a_d.Cells k1).A), iv ((gx a_d.Cells k1).B)]) 9 R (po_ldfs (rga r1) tk_57 R g2 R R R) so2 R (aq 10 R (po_neq_struct (ps := [(gx a_b.Cells k1).Split, (gx a_b.Cells k1).A, (gx a_b.Cells k1).B]) (qs := [(gx a_d.Cells k1).Split, (gx a_d.Cells k1).A, (gx a_d.Cells k1).B]) sq_57 R R R R) so2 R (ae (wqt (wcO t1 R (fun h3 t1 => ?_) fun h3 t1 => ?_)))))))))))))))))))))))))))))
 refine wcr (asg R R (wnt (wct (wbr (wqr (wqr (wbr (wqr (wqr ?_)))))))))
 replace t0 := lpR t0 l1 t1
 obtain rfl := oi t0
 exact wq1 R R fun w hw => ⟨R, hw.weak zn⟩
 refine wck (wqb (wqt (wcg (mv R R (wlq (po_inc R R (by omega)) R ?_)))))
 exact asg R R (wln (wq_rnd hk1 (stpN l1 t1) () (su3 R R R) so2))
 have c1 : (decide (((k1 : Nat) : Int) < ((a_b.Cells.length : Nat) : Int))) = false := ddf (by omega)
 have en1 := foe l1 hk1
 exact wcs (wcr (mv R R (wlq (pof fo_44_1 R) R (wlq (v := (sl v0a)) (plx tk_42 pk1 R R) R (wlq (pln (rga r0) el_42 R) R (wlq (pls R R) R (wnt (wff R c1 (wcx (wqe (wqe (wbx (wjm _ () en1 yn zn)))))))))))))
 intro e1 _ hp
 replace t0 := sqE (j := e1) t0 hp
 refine wqt (wcr (asg R R (wnt (wct ?_))))
 obtain rfl := oi t0
 exact wq1 R R fun w hw => ⟨R, hw.weak zn⟩

theorem c_laws_FnRepeats (w : World) (a_code : List UInt8) (v0a : Hd) (r0 : rdF w (dm w []) (sl v0a) a_code) {r : Bool} (t0 : laws_FnRepeats a_code = some r) : Calls Try.prog 3 #[(sl v0a)] w fun e w' => e = .returned (.bool r) ∧ SH w [] [] w' := by
 refine cwc (args := [_]) Try.func3 R Try.ntmps3 R ?_
 unfold laws_FnRepeats at t0
 refine wcr (asg R R (wnt (wcs (wcr (mv R R (bdO t0 fun v1 hv1 t0 => (wlc (cz0 fa_4 R fun w hw => c_laws_big w a_code v0a (ra r0 hw) hv1) R fun _ => (wnt (wcO t0 R (fun h1 t0 => ?_) fun h1 t0 => ?_)))))))))
 refine wcr (asg R R (wnt (wct (wqr ?_))))
 obtain rfl := oi t0
 exact wq1 R R fun w hw => ⟨R, hw.weak zn⟩
 refine wck (wqt (wcr (mv R R (bdO t0 fun v2 hv2 t0 => (wlc (co_c2 fa_5 R fun w hw => c_spec_DrawQuilt w a_code v0a (ra r0 hw) hv2) R fun x1 => (mv R R (wlq (pex R R) R (wlq (pex R R) R (wle (eal (cs := [iv 0, iv 0, (sl hn)]) za_26) R fun b1 => (wls (sbx (cs' := [iv v2.1.Width, iv v2.1.Height, (sl x1.1)]) tk_26 pz R R R R R R R) (asg R R (wnt (wcr (wlq (v := .agg #[iv v2.1.Width, iv v2.1.Height, (sl x1.1)]) (plb tk_26 pz R R R) R (mv R R (bdO t0 fun v3 hv3 t0 => (wlc (cz1 fa_6 R fun w hw => c_impl_ShiftsOf w v2.1 x1.1 (Rg.on (rgo pk1) hw) v2.2 x1.2.1 x1.2.2 (Rg.on (rgo pk2) hw) hv3) R fun x2 => (asg R R (wnt (wcr (wlq (pof fo_26_2 R) R (wlq (v := (sl x1.1)) (plx tk_24 pk1 R R) R (wlq (pln (rgo pk2) el_24 R) R (asg R R (wnt (wcr (wlq (v := .agg #[iv v2.1.Width, iv v2.1.Height, (sl x1.1)]) (plb tk_26 pk1 R R R) R (mv R R (bdO t0 fun v4 hv4 t0 => (wlc (cz0 fa_7 R fun w hw => c_impl_CountMotifs w v2.1 x1.1 (Rg.on (rgo pk2) hw) v2.2 x1.2.1 x1.2.2 (Rg.on (rgo pk3) hw) hv4) R fun _ => (asg R R (wnt (wcs (wcs (bdO t0 fun y1 t1 t0 => (wj (J := Bool) (X := Unit) (fun z => y1 = z) (fun z _ => [(0, (sl v0a)), (3, ptr b1 0), (4, (sl x1.2.1)), (5, (sl x2.1)), (6, iv ((v2.1.Spots.length : Nat) : Int)), (56, .bool z)]) (fun _ _ => [box b1 [iv v2.1.Width, iv v2.1.Height, (sl x1.1)], own (sl x1.2.1) x1.2.2 v2.2, own (sl x2.1) x2.2 v3, ownF (sl x1.1) v2.1.Spots]) ?_ ?_))))))))))))))))))))))))))))))))))))
 refine wcg (mv R R (wlq (pln (rgo pz) el_30 R) R (wlq (pol R R) R (mv R R (wlo (t := 36) t1 R (fun h2 t1 => ?_) fun h2 t1 => ?_)))))
 exact wgf (j := 3) R R R R R (wgf (j := 3) R R R R R (wgf (j := 3) R R R R R (wgf (j := 3) R R R R R (wgf (j := 3) R R R R R (wlq (pit R R) R (mv R R (wgf (j := 10) R R R R R (wgf (j := 10) R R R R R (wgf (j := 10) R R R R R (wgf (j := 10) R R R R R (wgf (j := 10) R R R R R (wgf (j := 10) R R R R R (wlq (pit R R) R (mv R R (wgf (j := 18) R R R R R (wgf (j := 18) R R R R R (wgf (j := 18) R R R R R (wgf (j := 18) R R R R R (wlq (pit R R) R (wln (wjm _ () (mtE t1) (su6 R R R R R R) (zc pk1 (zc pk2 so2)))))))))))))))))))))))
 refine wgn (j := 3) R R R (mv R R (wgn (j := 3) R R R (mv R R (wgn (j := 3) R R R (wlq (pln (rgo pz) el_30 R) R (gdO t1 fun g1 t1 => (wgn (j := 3) R R R (wlq (po_rem R R g1) R (wgn (j := 3) R R R (wlq (po_neq R R) R (wlq (pif R R) R (mv R R (wlo (t := 43) t1 R (fun h3 t1 => ?_) fun h3 t1 => ?_)))))))))))))
 exact wgf (j := 10) R R R R R (wgf (j := 10) R R R R R (wgf (j := 10) R R R R R (wgf (j := 10) R R R R R (wgf (j := 10) R R R R R (wgf (j := 10) R R R R R (wlq (pit R R) R (mv R R (wgf (j := 18) R R R R R (wgf (j := 18) R R R R R (wgf (j := 18) R R R R R (wgf (j := 18) R R R R R (wlq (pit R R) R (wln (wjm _ () (mtE t1) (su6 R R R R R R) (zc pk1 (zc pk2 so2))))))))))))))))
 refine wgn (j := 10) R R R (mv R R (wgn (j := 10) R R R (mv R R (wgn (j := 10) R R R (wlq (pln (rgo pz) el_30 R) R (wgn (j := 10) R R R (wlq (po_mul R R) R (wgn (j := 10) R R R (mv R R (wgn (j := 10) R R R (wlq (po_neq R R) R (wlq (pif R R) R (mv R R (wlo (t := 51) t1 R (fun h4 t1 => ?_) fun h4 t1 => ?_))))))))))))))
 exact wgf (j := 18) R R R R R (wgf (j := 18) R R R R R (wgf (j := 18) R R R R R (wgf (j := 18) R R R R R (wlq (pit R R) R (wln (wjm _ () (mtE t1) (su6 R R R R R R) (zc pk1 (zc pk2 so2))))))))
 exact wgn (j := 18) R R R (wlq (v := .agg #[iv v2.1.Width, iv v2.1.Height, (sl x1.1)]) (plb tk_26 pk1 R R R) R (wgn (j := 18) R R R (mv R R (bdO t1 fun v5 hv5 t1 => (wgn (j := 18) R R R (wlc (cz0 fa_8 R fun w hw => c_impl_HasShift w v2.1 x1.1 (Rg.on (rgo pk2) hw) v2.2 x1.2.1 x1.2.2 (Rg.on (rgo pk3) hw) 0 0 hv5) R (fun _ => (wgn (j := 18) R R R (wlq (po_not R) R (wlq (pif R R) R (wln (wjm _ () (mtE t1) (su6 R R R R R R) (zc pk1 (zc pk2 so2))))))))))))))
 intro j1 _ hp
 obtain rfl : j1 = y1 := hp.symm
 refine wqt (wcO t0 R (fun h5 t0 => ?_) fun h5 t0 => ?_)
 refine wcr (asg R R (wnt (wct (wqr ?_))))
 obtain rfl := oi t0
 exact wq1 R R fun w hw => ⟨R, hw.weak zn⟩
 refine wck (wqt (wcs (wcr (mv R R (mv R R (wlq (pln (rgo pk2) el_30 R) R (wlq (po_sub R R) R (gdO t0 fun g2 t0 => (wlq (po_ixr (rgo pk2) el_30 R R g2.1 g2.2) R (wl_elem (rgo pk2) (ix_lt g2) ?_))))))))))
 rintro ⟨_, _, he1⟩
 obtain ⟨w1, hc1, _⟩ := rd_LF.1 he1
 refine wlq (v := (sl w1)) (po_ldn (rgo pk2) tk_34 R hc1 R) R (wlq (pln (er_LF hc1 (rgo pk2) (ix_lt g2)) el_34 R) R (wlq (po_neq R R) R (wnt (wcO t0 R (fun h6 t0 => ?_) fun h6 t0 => ?_))))
 refine wcr (asg R R (wnt (wct (wqr ?_))))
 obtain rfl := oi t0
 exact wq1 R R fun w hw => ⟨R, hw.weak zn⟩
 refine wck (wqt (wcs (wcr (asg R R (wnt (gdO t0 fun g3 t0 => (sqO t0 fun y1 l1 t0 => (wj (J := Unit) (X := Unit) (fun z => y1 = .inl z) (fun _ _ => [(0, (sl v0a)), (3, ptr b1 0), (4, (sl x1.2.1)), (5, (sl x2.1)), (6, iv ((v2.1.Spots.length : Nat) : Int))]) (fun _ _ => [box b1 [iv v2.1.Width, iv v2.1.Height, (sl x1.1)], own (sl x1.2.1) x1.2.2 v2.2, own (sl x2.1) x2.2 v3, ownF (sl x1.1) v2.1.Spots]) ?_ ?_))))))))
 refine wcb (wcf (X := Unit) l1 (fun k1 s1 x1l => [(0, (sl v0a)), (3, ptr b1 0), (4, (sl x1.2.1)), (5, (sl x2.1)), (6, iv ((v2.1.Spots.length : Nat) : Int)), (8, iv ((k1 : Nat) : Int))]) (fun k1 s1 x1l => [box b1 [iv v2.1.Width, iv v2.1.Height, (sl x1.1)], own (sl x1.2.1) x1.2.2 v2.2, own (sl x2.1) x2.2 v3, ownF (sl x1.1) v2.1.Spots]) () (su6 R R R R R R) so4 fun k1 s1 x1l hN1 l1 => ?_)
 by_cases hk1 : k1 < v3.length
 refine fos l1 hk1 fun _ t1 l1 => ?_
 unfold laws_FnRepeats_L1 at t1
 have c1 : (decide (((k1 : Nat) : Int) < ((v3.length : Nat) : Int))) = true := ddt (by omega)
 refine wcs (wcr (mv R R (mv R R (wlq (pln (rgo pk2) el_30 R) R (wlq (pls R R) R (wnt (wft R c1 (wck (wqt (wcs (wcb (wcs (bdO t1 fun y2 t2 t1 => (wj (J := Bool) (X := Unit) (fun z => y2 = z) (fun z _ => [(0, (sl v0a)), (3, ptr b1 0), (4, (sl x1.2.1)), (5, (sl x2.1)), (6, iv ((v2.1.Spots.length : Nat) : Int)), (8, iv ((k1 : Nat) : Int)), (136, .bool z)]) (fun _ _ => [box b1 [iv v2.1.Width, iv v2.1.Height, (sl x1.1)], own (sl x1.2.1) x1.2.2 v2.2, own (sl x2.1) x2.2 v3, ownF (sl x1.1) v2.1.Spots]) ?_ ?_))))))))))))))
 refine wcd [box b1 [iv v2.1.Width, iv v2.1.Height, (sl x1.1)], own (sl x1.2.1) x1.2.2 v2.2, own (sl x2.1) x2.2 v3, ownF (sl x1.1) v2.1.Spots] 66 mixed (aq 0 R (pom R) so4 R (aq 1 R (pom R) so4 R (aq 2 R (po_ixn (k := k1) (rgo pk2) el_30 R R hk1) so4 R (wa_elem (rgo pk2) hk1 ?_))))
 rintro ⟨_, _, he2⟩
 obtain ⟨w2, hc2, _⟩ := rd_LF.1 he2
 refine aq (v := (sl w2)) 3 R (po_ldn (rgo pk2) tk_34 R hc2 R) so4 R (aq 4 R (pln (er_LF hc2 (rgo pk2) hk1) el_34 R) so4 R (aq 5 R (po_neq R R) so4 R (aq 6 R (pom R) so4 R (waO_ (t := 77) t2 R (fun h7 t2 => ?_) fun h7 t2 => ?_))))
 refine af 7 6 R R R R R so4 R (af 8 6 R R R R R so4 R (af 9 6 R R R R R so4 R (af 10 6 R R R R R so4 R (af 11 6 R R R R R so4 R (af 12 6 R R R R R so4 R (af 13 6 R R R R R so4 R (af 14 6 R R R R R so4 R (af 15 6 R R R R R so4 R (af 16 6 R R R R R so4 R (af 17 6 R R R R R so4 R (af 18 6 R R R R R so4 R (af 19 6 R R R R R so4 R (af 20 6 R R R R R so4 R (af 21 6 R R R R R so4 R (af 22 6 R R R R R so4 R (aq 23 R (pit R R) so4 R (aq 24 R (pom R) so4 R (af 25 24 R R R R R so4 R (af 26 24 R R R R R so4 R (af 27 24 R R R R R so4 R (af 28 24 R R R R R so4 R (af 29 24 R R R R R so4 R (af 30 24 R R R R R so4 R (af 31 24 R R R R R so4 R (af 32 24 R R R R R so4 R (af 33 24 R R R R R so4 R (af 34 24 R R R R R so4 R (af 35 24 R R R R R so4 R (af 36 24 R R R R R so4 R (af 37 24 R R R R R so4 R (af 38 24 R R R R R so4 R (af 39 24 R R R R R so4 R (af 40 24 R R R R R so4 R (af 41 24 R R R R R so4 R (af 42 24 R R R R R so4 R (af 43 24 R R R R R so4 R (af 44 24 R R R R R so4 R (af 45 24 R R R R R so4 R (af 46 24 R R R R R so4 R ?_)))))))))))))))))))))))))))))))))))))))
 exact af 47 24 R R R R R so4 R (af 48 24 R R R R R so4 R (af 49 24 R R R R R so4 R (af 50 24 R R R R R so4 R (af 51 24 R R R R R so4 R (af 52 24 R R R R R so4 R (af 53 24 R R R R R so4 R (af 54 24 R R R R R so4 R (af 55 24 R R R R R so4 R (af 56 24 R R R R R so4 R (af 57 24 R R R R R so4 R (af 58 24 R R R R R so4 R (af 59 24 R R R R R so4 R (af 60 24 R R R R R so4 R (af 61 24 R R R R R so4 R (af 62 24 R R R R R so4 R (af 63 24 R R R R R so4 R (af 64 24 R R R R R so4 R (aq 65 R (pit R R) so4 R (ae (wjm _ () (mtE t2) (su7 R R R R R R R) so4))))))))))))))))))))
 refine an (v := .agg #[iv v2.1.Width, iv v2.1.Height, (sl x1.1)]) 7 6 R R R R (plb tk_26 pz R R R) so4 R (an 8 6 R R R R (pom R) so4 R (an 9 6 R R R R (pom R) so4 R (an 10 6 R R R R (pom R) so4 R (an 11 6 R R R R (po_ixn (k := k1) (rgo pk2) el_30 R R hk1) so4 R (an (v := (sl w2)) 12 6 R R R R (po_ldn (rgo pk2) tk_34 R hc2 R) so4 R (gdO t2 fun g4 t2 => (an 13 6 R R R R (po_ixn (k := 0) (er_LF hc2 (rgo pk2) hk1) el_34 R R g4) so4 R (an (v := iv (gx (gx v3 k1) 0)) 14 6 R R R R (po_ldf (er_LF hc2 (rgo pk2) hk1) tk_3 R g4 R) so4 R (an 15 6 R R R R (pom R) so4 R (an 16 6 R R R R (pom R) so4 R (an 17 6 R R R R (po_ixn (k := k1) (rgo pk2) el_30 R R hk1) so4 R (an (v := (sl w2)) 18 6 R R R R (po_ldn (rgo pk2) tk_34 R hc2 R) so4 R (gdO t2 fun g5 t2 => (an 19 6 R R R R (po_ixn (k := 1) (er_LF hc2 (rgo pk2) hk1) el_34 R R g5) so4 R (an (v := iv (gx (gx v3 k1) 1)) 20 6 R R R R (po_ldf (er_LF hc2 (rgo pk2) hk1) tk_3 R g5 R) so4 R (a1 21 (bdO t2 fun v6 hv6 t2 => (ws_call_on (j := 6) R R R R (cz0 fa_8 R fun w hw => c_impl_HasShift w v2.1 x1.1 (Rg.on (rgo pk3) hw) v2.2 x1.2.1 x1.2.2 (Rg.on (rgo pk1) hw) (gx (gx v3 k1) 0) (gx (gx v3 k1) 1) hv6) (fun _ => (zt so4)) R fun _ => (an 22 6 R R R R (po_not R) so4 R (aq 23 R (pif R R) so4 R (aq 24 R (pom R) so4 R (waO_ (t := 95) t2 R (fun h8 t2 => ?_) fun h8 t2 => ?_))))))))))))))))))))))
 refine af 25 24 R R R R R so4 R (af 26 24 R R R R R so4 R (af 27 24 R R R R R so4 R (af 28 24 R R R R R so4 R (af 29 24 R R R R R so4 R (af 30 24 R R R R R so4 R (af 31 24 R R R R R so4 R (af 32 24 R R R R R so4 R (af 33 24 R R R R R so4 R (af 34 24 R R R R R so4 R (af 35 24 R R R R R so4 R (af 36 24 R R R R R so4 R (af 37 24 R R R R R so4 R (af 38 24 R R R R R so4 R (af 39 24 R R R R R so4 R (af 40 24 R R R R R so4 R (af 41 24 R R R R R so4 R (af 42 24 R R R R R so4 R (af 43 24 R R R R R so4 R (af 44 24 R R R R R so4 R (af 45 24 R R R R R so4 R (af 46 24 R R R R R so4 R (af 47 24 R R R R R so4 R (af 48 24 R R R R R so4 R (af 49 24 R R R R R so4 R (af 50 24 R R R R R so4 R (af 51 24 R R R R R so4 R (af 52 24 R R R R R so4 R (af 53 24 R R R R R so4 R (af 54 24 R R R R R so4 R (af 55 24 R R R R R so4 R (af 56 24 R R R R R so4 R (af 57 24 R R R R R so4 R (af 58 24 R R R R R so4 R (af 59 24 R R R R R so4 R (af 60 24 R R R R R so4 R (af 61 24 R R R R R so4 R (af 62 24 R R R R R so4 R (af 63 24 R R R R R so4 R (af 64 24 R R R R R so4 R ?_)))))))))))))))))))))))))))))))))))))))
 exact aq 65 R (pit R R) so4 R (ae (wjm _ () (mtE t2) (su7 R R R R R R R) so4))
 refine an (v := .agg #[iv v2.1.Width, iv v2.1.Height, (sl x1.1)]) 25 24 R R R R (plb tk_26 pz R R R) so4 R (an 26 24 R R R R (pom R) so4 R (an 27 24 R R R R (pom R) so4 R (an 28 24 R R R R (pom R) so4 R (an 29 24 R R R R (po_ixn (k := k1) (rgo pk2) el_30 R R hk1) so4 R (an (v := (sl w2)) 30 24 R R R R (po_ldn (rgo pk2) tk_34 R hc2 R) so4 R (an 31 24 R R R R (po_ixn (k := 0) (er_LF hc2 (rgo pk2) hk1) el_34 R R g4) so4 R (an (v := iv (gx (gx v3 k1) 0)) 32 24 R R R R (po_ldf (er_LF hc2 (rgo pk2) hk1) tk_3 R g4 R) so4 R (an 33 24 R R R R (pom R) so4 R (an 34 24 R R R R (pom R) so4 R (an 35 24 R R R R (pln (rgo pk2) el_30 R) so4 R (an 36 24 R R R R (po_sub R R) so4 R (an 37 24 R R R R (po_ixr (rgo pk2) el_30 R R g2.1 g2.2) so4 R (an (v := (sl w1)) 38 24 R R R R (po_ldn (rgo pk2) tk_34 R hc1 R) so4 R (gdO t2 fun g6 t2 => (an 39 24 R R R R (po_ixn (k := 0) (er_LF hc1 (rgo pk2) (ix_lt g2)) el_34 R R g6) so4 R (an (v := iv (gx (gx v3 (((wr (((v3.length : Nat) : Int) - 1))).toNat)) 0)) 40 24 R R R R (po_ldf (er_LF hc1 (rgo pk2) (ix_lt g2)) tk_3 R g6 R) so4 R (an 41 24 R R R R (po_add R R) so4 R (an 42 24 R R R R (pof fo_26_0 R) so4 R (an (v := iv v2.1.Width) 43 24 R R R R (plx tk_3 pz R R) so4 R (gdO t2 fun g7 t2 => (an 44 24 R R R R (po_rem R R g7) so4 R (an 45 24 R R R R (pom R) so4 R (an 46 24 R R R R (pom R) so4 R (an 47 24 R R R R (po_ixn (k := k1) (rgo pk2) el_30 R R hk1) so4 R (an (v := (sl w2)) 48 24 R R R R (po_ldn (rgo pk2) tk_34 R hc2 R) so4 R (an 49 24 R R R R (po_ixn (k := 1) (er_LF hc2 (rgo pk2) hk1) el_34 R R g5) so4 R (an (v := iv (gx (gx v3 k1) 1)) 50 24 R R R R (po_ldf (er_LF hc2 (rgo pk2) hk1) tk_3 R g5 R) so4 R (an 51 24 R R R R (pom R) so4 R (an 52 24 R R R R (pom R) so4 R (an 53 24 R R R R (pln (rgo pk2) el_30 R) so4 R (an 54 24 R R R R (po_sub R R) so4 R (an 55 24 R R R R (po_ixr (rgo pk2) el_30 R R g2.1 g2.2) so4 R (an (v := (sl w1)) 56 24 R R R R (po_ldn (rgo pk2) tk_34 R hc1 R) so4 R (gdO t2 fun g8 t2 => (an 57 24 R R R R (po_ixn (k := 1) (er_LF hc1 (rgo pk2) (ix_lt g2)) el_34 R R g8) so4 R (an (v := iv (gx (gx v3 (((wr (((v3.length : Nat) : Int) - 1))).toNat)) 1)) 58 24 R R R R (po_ldf (er_LF hc1 (rgo pk2) (ix_lt g2)) tk_3 R g8 R) so4 R (an 59 24 R R R R (po_add R R) so4 R (an 60 24 R R R R (pof fo_26_1 R) so4 R (an (v := iv v2.1.Height) 61 24 R R R R (plx tk_3 pz R R) so4 R ?_)))))))))))))))))))))))))))))))))))))))
 exact gdO t2 fun g9 t2 => an 62 24 R R R R (po_rem R R g9) so4 R (a1 63 (bdO t2 fun v7 hv7 t2 => (ws_call_on (j := 24) R R R R (cz0 fa_8 R fun w hw => c_impl_HasShift w v2.1 x1.1 (Rg.on (rgo pk3) hw) v2.2 x1.2.1 x1.2.2 (Rg.on (rgo pk1) hw) ((wr ((gx (gx v3 k1) 0) + (gx (gx v3 (((wr (((v3.length : Nat) : Int) - 1))).toNat)) 0))).tmod v2.1.Width) ((wr ((gx (gx v3 k1) 1) + (gx (gx v3 (((wr (((v3.length : Nat) : Int) - 1))).toNat)) 1))).tmod v2.1.Height) hv7) (fun _ => (zt so4)) R fun _ => (an 64 24 R R R R (po_not R) so4 R (aq 65 R (pif R R) so4 R (ae (wjm _ () (mtE t2) (su7 R R R R R R R) so4)))))))
 intro j2 _ hp
 obtain rfl : j2 = y2 := hp.symm
 refine wqt (wcO t1 R (fun h9 t1 => ?_) fun h9 t1 => ?_)
 refine wcr (asg R R (wnt (wct (wbr (wqr (wqr (wbr (wqr (wqr ?_)))))))))
 replace t0 := lpR t0 l1 t1
 obtain rfl := oi t0
 exact wq1 R R fun w hw => ⟨R, hw.weak zn⟩
 refine wck (wqb (wqt (wcg (mv R R (wlq (po_inc R R (by omega)) R ?_)))))
 exact asg R R (wln (wq_rnd hk1 (stpN l1 t1) () (su6 R R R R R R) so4))
 have c1 : (decide (((k1 : Nat) : Int) < ((v3.length : Nat) : Int))) = false := ddf (by omega)
 have en1 := foe l1 hk1
 exact wcs (wcr (mv R R (mv R R (wlq (pln (rgo pk2) el_30 R) R (wlq (pls R R) R (wnt (wff R c1 (wcx (wqe (wqe (wbx (wjm _ () en1 (su5 R R R R R) so4))))))))))))
 intro e1 _ hp
 replace t0 := sqE (j := e1) t0 hp
 refine wqt (wcs (wcd [box b1 [iv v2.1.Width, iv v2.1.Height, (sl x1.1)], own (sl x1.2.1) x1.2.2 v2.2, own (sl x2.1) x2.2 v3, ownF (sl x1.1) v2.1.Spots] 6 mixed (aq 0 R (pom R) so4 R (aq 2 R (pof fo_26_0 R) so4 R (aq (v := iv v2.1.Width) 3 R (plx tk_3 pz R R) so4 R (a1 1 (bdO t0 fun v8 hv8 t0 => (wsc R (cz0 fa_9 R fun w hw => c_laws_at w a_code v0a (ra r0 hw) 0 hv8) (fun _ => (zt so4)) R fun _ => (gdO t0 fun g10 t0 => (aq 4 R (po_rem R R g10) so4 R (aq 5 R (po_assign R) so4 R (ae (wqt (wcs (wcd [box b1 [iv v2.1.Width, iv v2.1.Height, (sl x1.1)], own (sl x1.2.1) x1.2.2 v2.2, own (sl x2.1) x2.2 v3, ownF (sl x1.1) v2.1.Spots] 6 mixed (aq 0 R (pom R) so4 R (aq 2 R (pof fo_26_1 R) so4 R (aq (v := iv v2.1.Height) 3 R (plx tk_3 pz R R) so4 R (a1 1 (bdO t0 fun v9 hv9 t0 => (wsc R (cz0 fa_9 R fun w hw => c_laws_at w a_code v0a (ra r0 hw) 1 hv9) (fun _ => (zt so4)) R fun _ => (gdO t0 fun g11 t0 => (aq 4 R (po_rem R R g11) so4 R (aq 5 R (po_assign R) so4 R (ae (wqt (wcr (wlq (v := .agg #[iv v2.1.Width, iv v2.1.Height, (sl x1.1)]) (plb tk_26 pz R R R) R (mv R R (mv R R (mv R R (bdO t0 fun v10 hv10 t0 => (wlc (cz1 fa_10 R fun w hw => c_impl_ShiftQuilt w v2.1 x1.1 (Rg.on (rgo pk3) hw) v2.2 x1.2.1 x1.2.2 (Rg.on (rgo pk1) hw) (v8.tmod v2.1.Width) (v9.tmod v2.1.Height) hv10) R fun x6 => (mv R R (wlq (pex R R) R (wlq (pex R R) R (wle (eal (cs := [iv 0, iv 0, (sl hn)]) za_26) R fun b2 => (wls (sbx (cs' := [iv v10.1.Width, iv v10.1.Height, (sl x6)]) tk_26 pz R R R R R R R) (asg R R ?_)))))))))))))))))))))))))))))))))))))))
 refine wnt (wcr (wlq (v := .agg #[iv v2.1.Width, iv v2.1.Height, (sl x1.1)]) (plb tk_26 pk2 R R R) R (mv R R (bdO t0 fun v11 hv11 t0 => (wlc (cz1 fa_11 R fun w hw => c_impl_LeastShift w v2.1 x1.1 (Rg.on (rgo pk5) hw) v2.2 x1.2.1 x1.2.2 (Rg.on (rgo pk3) hw) hv11) R fun x7 => (wle (eal (cs := [iv 0, iv 0, (sl hn)]) za_26) R fun b3 => (wls (sbx (cs' := [iv v11.Width, iv v11.Height, (sl x7)]) tk_26 pz R R R R R R R) (wnt (wcr (wlq (v := .agg #[iv v10.1.Width, iv v10.1.Height, (sl x6)]) (plb tk_26 pk2 R R R) R (mv R R (bdO t0 fun v12 hv12 t0 => (wlc (cz1 fa_11 R fun w hw => c_impl_LeastShift w v10.1 x6 (Rg.on (rgo pk3) hw) v2.2 x1.2.1 x1.2.2 (Rg.on (rgo pk5) hw) hv12) R fun x8 => (wle (eal (cs := [iv 0, iv 0, (sl hn)]) za_26) R fun b4 => (wls (sbx (cs' := [iv v12.Width, iv v12.Height, (sl x8)]) tk_26 pz R R R R R R R) (wnt (wcs (wcs (bdO t0 fun y1 t1 t0 => (wj (J := Bool) (X := Unit) (fun z => y1 = z) (fun z _ => [(3, ptr b1 0), (4, (sl x1.2.1)), (6, iv ((v2.1.Spots.length : Nat) : Int)), (9, iv (v8.tmod v2.1.Width)), (10, iv (v9.tmod v2.1.Height)), (13, ptr b3 0), (14, ptr b4 0), (185, .bool z)]) (fun _ _ => [box b4 [iv v12.Width, iv v12.Height, (sl x8)], box b3 [iv v11.Width, iv v11.Height, (sl x7)], box b1 [iv v2.1.Width, iv v2.1.Height, (sl x1.1)], own (sl x1.2.1) x1.2.2 v2.2, ownF (sl x8) v12.Spots, ownF (sl x7) v11.Spots, ownF (sl x1.1) v2.1.Spots]) ?_ ?_))))))))))))))))))))
 refine wcg (mv R R (wlq (po_not R) R (mv R R (wlo (t := 163) t1 R (fun h10 t1 => ?_) fun h10 t1 => ?_))))
 exact wgf (j := 2) R R R R R (wgf (j := 2) R R R R R (wgf (j := 2) R R R R R (wgf (j := 2) R R R R R (wgf (j := 2) R R R R R (wlq (pit R R) R (mv R R (wgf (j := 9) R R R R R (wgf (j := 9) R R R R R (wgf (j := 9) R R R R R (wgf (j := 9) R R R R R (wgf (j := 9) R R R R R (wlq (pit R R) R (mv R R (wgf (j := 16) R R R R R (wgf (j := 16) R R R R R (wgf (j := 16) R R R R R (wgf (j := 16) R R R R R (wgf (j := 16) R R R R R (wgf (j := 16) R R R R R (wgf (j := 16) R R R R R (wlq (pit R R) R (wln (wjm _ () (mtE t1) (su8 R R R R R R R R) (zc pz (zc pk1 (zc pk4 (zc pk4 (zc pz (zc pz (zc pk3 zn))))))))))))))))))))))))))))))
 refine wgn (j := 2) R R R (wlq (pof fo_26_2 R) R (wgn (j := 2) R R R (wlq (v := (sl x7)) (plx tk_24 pk2 R R) R (wgn (j := 2) R R R (wlq (pln (rgo pk3) el_24 R) R (wgn (j := 2) R R R (mv R R (wgn (j := 2) R R R (wlq (po_neq R R) R (wlq (pif R R) R (mv R R (wlo (t := 170) t1 R (fun h11 t1 => ?_) fun h11 t1 => ?_))))))))))))
 exact wgf (j := 9) R R R R R (wgf (j := 9) R R R R R (wgf (j := 9) R R R R R (wgf (j := 9) R R R R R (wgf (j := 9) R R R R R (wlq (pit R R) R (mv R R (wgf (j := 16) R R R R R (wgf (j := 16) R R R R R (wgf (j := 16) R R R R R (wgf (j := 16) R R R R R (wgf (j := 16) R R R R R (wgf (j := 16) R R R R R (wgf (j := 16) R R R R R (wlq (pit R R) R (wln (wjm _ () (mtE t1) (su8 R R R R R R R R) (zc pz (zc pk1 (zc pk4 (zc pk4 (zc pz (zc pz (zc pk3 zn)))))))))))))))))))))))
 refine wgn (j := 9) R R R (wlq (pof fo_26_2 R) R (wgn (j := 9) R R R (wlq (v := (sl x8)) (plx tk_24 pz R R) R (wgn (j := 9) R R R (wlq (pln (rgo pk1) el_24 R) R (wgn (j := 9) R R R (mv R R (wgn (j := 9) R R R (wlq (po_neq R R) R (wlq (pif R R) R (mv R R (wlo (t := 177) t1 R (fun h12 t1 => ?_) fun h12 t1 => ?_))))))))))))
 exact wgf (j := 16) R R R R R (wgf (j := 16) R R R R R (wgf (j := 16) R R R R R (wgf (j := 16) R R R R R (wgf (j := 16) R R R R R (wgf (j := 16) R R R R R (wgf (j := 16) R R R R R (wlq (pit R R) R (wln (wjm _ () (mtE t1) (su8 R R R R R R R R) (zc pz (zc pk1 (zc pk4 (zc pk4 (zc pz (zc pz (zc pk3 zn))))))))))))))))
 exact wgn (j := 16) R R R (wlq (v := .agg #[iv v10.1.Width, iv v10.1.Height, (sl x6)]) (plb tk_26 pk4 R R R) R (wgn (j := 16) R R R (mv R R (bdO t1 fun v13 hv13 t1 => (wgn (j := 16) R R R (wlc (cz1 fa_6 R fun w hw => c_impl_ShiftsOf w v10.1 x6 (Rg.on (rgo pk5) hw) v2.2 x1.2.1 x1.2.2 (Rg.on (rgo pk7) hw) hv13) R (fun x10 => (wgn (j := 16) R R R (wlq (pln (rgo pz) el_30 R) R (wgn (j := 16) R R R (mv R R (wgn (j := 16) R R R (wlq (pln (rgo pk9) el_30 R) R (wgn (j := 16) R R R (wlq (po_neq R R) R (wlq (pif R R) R (wln (wjm _ () (mtE t1) (su8 R R R R R R R R) (zc pk1 (zc pk2 (zc pk5 (zc pk5 (zc pk1 (zc pk1 (zc pk4 zn)))))))))))))))))))))))))
 intro j3 _ hp
 obtain rfl : j3 = y1 := hp.symm
 refine wqt (wcO t0 R (fun h13 t0 => ?_) fun h13 t0 => ?_)
 refine wcr (asg R R (wnt (wct (wqr ?_))))
 obtain rfl := oi t0
 exact wq1 R R fun w hw => ⟨R, hw.weak zn⟩
 refine wck (wqt (wcs (wcr (asg R R (wnt (gdO t0 fun g12 t0 => (sqO t0 fun y1 l1 t0 => (wj (J := Unit) (X := Unit) (fun z => y1 = .inl z) (fun _ _ => [(3, ptr b1 0), (4, (sl x1.2.1)), (9, iv (v8.tmod v2.1.Width)), (10, iv (v9.tmod v2.1.Height))]) (fun _ _ => [box b1 [iv v2.1.Width, iv v2.1.Height, (sl x1.1)], own (sl x1.2.1) x1.2.2 v2.2, ownF (sl x1.1) v2.1.Spots]) ?_ ?_))))))))
 refine wcb (wcf (X := Unit) l1 (fun k2 s2 x2l => [(3, ptr b1 0), (4, (sl x1.2.1)), (6, iv ((v2.1.Spots.length : Nat) : Int)), (9, iv (v8.tmod v2.1.Width)), (10, iv (v9.tmod v2.1.Height)), (13, ptr b3 0), (14, ptr b4 0), (15, iv ((k2 : Nat) : Int))]) (fun k2 s2 x2l => [box b4 [iv v12.Width, iv v12.Height, (sl x8)], box b3 [iv v11.Width, iv v11.Height, (sl x7)], box b1 [iv v2.1.Width, iv v2.1.Height, (sl x1.1)], own (sl x1.2.1) x1.2.2 v2.2, ownF (sl x8) v12.Spots, ownF (sl x7) v11.Spots, ownF (sl x1.1) v2.1.Spots]) () (su8 R R R R R R R R) so7 fun k2 s2 x2l hN2 l1 => ?_)
 by_cases hk2 : k2 < v2.1.Spots.length
 refine fos l1 hk2 fun _ t1 l1 => ?_
 unfold laws_FnRepeats_L2 at t1
 have c2 : (decide (((k2 : Nat) : Int) < ((v2.1.Spots.length : Nat) : Int))) = true := ddt (by omega)
 refine wcs (wcr (mv R R (mv R R (wlq (pls R R) R (wnt (wft R c2 (wck (wqt (wcs (wcb (wcs (wcd [box b4 [iv v12.Width, iv v12.Height, (sl x8)], box b3 [iv v11.Width, iv v11.Height, (sl x7)], box b1 [iv v2.1.Width, iv v2.1.Height, (sl x1.1)], own (sl x1.2.1) x1.2.2 v2.2, ownF (sl x8) v12.Spots, ownF (sl x7) v11.Spots, ownF (sl x1.1) v2.1.Spots] 11 mixed (aq 0 R (pof fo_26_2 R) so7 R (aq (v := (sl x7)) 1 R (plx tk_24 pk1 R R) so7 R (aq 2 R (pom R) so7 R (gdO t1 fun g13 t1 => (aq 3 R (po_ixn (k := k2) (rgo pk5) el_24 R R g13) so7 R (aq (v := .agg #[iv ((gx v11.Spots k2).Block), iv ((gx v11.Spots k2).Seen)]) 4 R (po_ldfs (rgo pk5) tk_40 R g13 R R R) so7 R (aq 5 R (pof fo_26_2 R) so7 R (aq (v := (sl x8)) 6 R (plx tk_24 pz R R) so7 R (aq 7 R (pom R) so7 R (gdO t1 fun g14 t1 => (aq 8 R (po_ixn (k := k2) (rgo pk4) el_24 R R g14) so7 R (aq (v := .agg #[iv ((gx v12.Spots k2).Block), iv ((gx v12.Spots k2).Seen)]) 9 R (po_ldfs (rgo pk4) tk_40 R g14 R R R) so7 R (aq 10 R (po_neq_struct (ps := [(gx v11.Spots k2).Block, (gx v11.Spots k2).Seen]) (qs := [(gx v12.Spots k2).Block, (gx v12.Spots k2).Seen]) sq_40 R R R R) so7 R (ae (wqt (wcO t1 R (fun h14 t1 => ?_) fun h14 t1 => ?_))))))))))))))))))))))))))))
 refine wcr (asg R R (wnt (wct (wbr (wqr (wqr (wbr (wqr (wqr ?_)))))))))
 replace t0 := lpR t0 l1 t1
 obtain rfl := oi t0
 exact wq1 R R fun w hw => ⟨R, hw.weak zn⟩
 refine wck (wqb (wqt (wcg (mv R R (wlq (po_inc R R (by omega)) R ?_)))))
 exact asg R R (wln (wq_rnd hk2 (stpN l1 t1) () (su8 R R R R R R R R) so7))
 have c2 : (decide (((k2 : Nat) : Int) < ((v2.1.Spots.length : Nat) : Int))) = false := ddf (by omega)
 have en2 := foe l1 hk2
 exact wcs (wcr (mv R R (mv R R (wlq (pls R R) R (wnt (wff R c2 (wcx (wqe (wqe (wbx (wjm _ () en2 (su4 R R R R) (zc pk2 (zc pk2 (zc pk4 zn))))))))))))))
 intro e2 _ hp
 replace t0 := sqE (j := e2) t0 hp
 refine wqt (wcr (wlq (v := .agg #[iv v2.1.Width, iv v2.1.Height, (sl x1.1)]) (plb tk_26 pz R R R) R (mv R R (mv R R (mv R R (bdO t0 fun v14 hv14 t0 => (wlc (cz0 fa_8 R fun w hw => c_impl_HasShift w v2.1 x1.1 (Rg.on (rgo pk2) hw) v2.2 x1.2.1 x1.2.2 (Rg.on (rgo pk1) hw) (v8.tmod v2.1.Width) (v9.tmod v2.1.Height) hv14) R fun _ => (asg R R (wnt (wcs (bdO t0 fun y1 t1 t0 => (wj (J := Bool) (X := Unit) (fun z => y1 = z) (fun z _ => [(2, .bool z)]) (fun _ _ => []) ?_ ?_))))))))))))
 refine wcd [box b1 [iv v2.1.Width, iv v2.1.Height, (sl x1.1)], own (sl x1.2.1) x1.2.2 v2.2, ownF (sl x1.1) v2.1.Spots] 14 mixed (aq 0 R (pom R) so3 R (aq 1 R (po_not R) so3 R (aq 2 R (pom R) so3 R (waO_ (t := 209) t1 R (fun h15 t1 => ?_) fun h15 t1 => ?_))))
 exact af 3 2 R R R R R so3 R (af 4 2 R R R R R so3 R (af 5 2 R R R R R so3 R (af 6 2 R R R R R so3 R (af 7 2 R R R R R so3 R (af 8 2 R R R R R so3 R (af 9 2 R R R R R so3 R (af 10 2 R R R R R so3 R (af 11 2 R R R R R so3 R (aq 12 R (pit R R) so3 R (aq 13 R (po_assign R) so3 R (ae (wjm _ () (mtE t1) (su1 R) zn))))))))))))
 exact an (v := .agg #[iv v2.1.Width, iv v2.1.Height, (sl x1.1)]) 3 2 R R R R (plb tk_26 pz R R R) so3 R (an 4 2 R R R R (pom R) so3 R (an (v := .agg #[iv v2.1.Width, iv v2.1.Height, (sl x1.1)]) 6 2 R R R R (plb tk_26 pz R R R) so3 R (an 7 2 R R R R (pom R) so3 R (an 8 2 R R R R (pom R) so3 R (an 9 2 R R R R (pom R) so3 R (a1 5 (bdO t1 fun v15 hv15 t1 => (ws_call_on (j := 2) R R R R (cz1 fa_13 R fun w hw => c_spec_ShownAt w v2.1 x1.1 (Rg.on (rgo pk2) hw) v2.2 x1.2.1 x1.2.2 (Rg.on (rgo pk1) hw) 0 0 hv15) (fun _ => (zt (zc pk1 (zc pk1 (zc pk1 zn))))) R fun x13 => (a1 10 (bdO t1 fun v16 hv16 t1 => (ws_call_on (j := 2) R R R R (cz1 fa_13 R fun w hw => c_spec_ShownAt w v2.1 x1.1 (Rg.on (rgo pk3) hw) v2.2 x1.2.1 x1.2.2 (Rg.on (rgo pk2) hw) (v8.tmod v2.1.Width) (v9.tmod v2.1.Height) hv16) (fun _ => (zt (zc pk2 (zc pk2 (zc pk2 zn))))) R fun x14 => (a1 11 (bdO t1 fun v17 hv17 t1 => (ws_call_on (j := 2) R R R R (cz0 fa_12 R fun w hw => c_spec_SameBlock w v15 x13 (Rg.on (rgo pk1) hw) v16 x14 (Rg.on (rgo pz) hw) hv17) (fun _ => (zt (zc pk2 (zc pk2 (zc pk2 zn))))) R fun _ => (aq 12 R (pif R R) (zc pk2 (zc pk2 (zc pk2 zn))) R (aq 13 R (po_assign R) (zc pk2 (zc pk2 (zc pk2 zn))) R (ae (wjm _ () (mtE t1) (su1 R) zn))))))))))))))))))
 intro j4 _ hp
 obtain rfl : j4 = y1 := hp.symm
 refine wqt (wct ?_)
 obtain rfl := oi t0
 exact wq1 R R fun w hw => ⟨R, hw.weak zn⟩

end Go.Proofs.Ytkahnmhkfmjomae
