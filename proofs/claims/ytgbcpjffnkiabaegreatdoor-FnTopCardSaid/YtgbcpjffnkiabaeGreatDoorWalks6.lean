/-
 Each Go function computes its Lean function (part 6).
-/
import Derived.Test.YtgbcpjffnkiabaeGreatDoorWalks5
namespace Go.Proofs.YtgbcpjffnkiabaeGreatDoor
open Go Go.RowKit Go.Proofs
set_option maxRecDepth 100000

theorem c_spec_ActOk (w : World) (a_a : GAct) {r : Bool} (t0 : spec_ActOk a_a = some r) : Calls Tryz.prog 30 #[.agg #[.int .i64 a_a.Kind, .int .i64 a_a.A, .int .i64 a_a.B]] w fun e w' => e = .returned (.bool r) ∧ SH w [] [] w' := by
 refine cwc (args := [_]) Tryz.func30 R Tryz.ntmps30 R ?_
 unfold spec_ActOk at t0
 refine wcr (wle (eo_box R R) R fun b1 => (asg R R (wnt (wcs (wcr (wlq (pof fo_37_0 R) R (wlq (v := iv a_a.Kind) (plx tk_3 pz R R) R (wnt (wcb (wcr (wlq (pol R R) R (asg R R (wnt (wcO t0 R (fun h1 t0 => ?_) fun h1 t0 => ?_))))))))))))))
 refine wcs (bdO t0 fun y1 t1 t0 => (wj (J := Bool) (X := Unit) (fun z => y1 = z) (fun z _ => [(2, .bool z)]) (fun _ _ => []) ?_ ?_))
 refine wcg (wlq (pof fo_37_1 R) R (wlq (v := iv a_a.A) (plx tk_3 pz R R) R (bdO t1 fun v1 hv1 t1 => (wlc (cz0 fa_54 R fun w hw => c_spec_l01In w a_a.A 1 999 hv1) R fun _ => (mv R R (wlo (t := 10) t1 R (fun h2 t1 => ?_) fun h2 t1 => ?_))))))
 exact wgn (j := 3) R R R (wlq (pof fo_37_2 R) R (wgn (j := 3) R R R (wlq (v := iv a_a.B) (plx tk_3 pz R R) R (wgn (j := 3) R R R (wlq (pol R R) R (wlq (pit R R) R (asg R R (wln (wjm _ () (mtE t1) (su1 R) zn)))))))))
 exact wgf (j := 3) R R R R R (wgf (j := 3) R R R R R (wgf (j := 3) R R R R R (wlq (pif R R) R (asg R R (wln (wjm _ () (mtE t1) (su1 R) zn))))))
 intro j1 _ hp
 obtain rfl : j1 = y1 := hp.symm
 refine wqt (wct (wbr (wqr ?_)))
 obtain rfl := oi t0
 exact wq1 R R fun w hw => ⟨R, hw.weak zn⟩
 refine wcr (wlq (pol R R) R (asg R R (wnt (wcO t0 R (fun h3 t0 => ?_) fun h3 t0 => ?_))))
 refine wcs (bdO t0 fun y1 t1 t0 => (wj (J := Bool) (X := Unit) (fun z => y1 = z) (fun z _ => [(2, .bool z)]) (fun _ _ => []) ?_ ?_))
 refine wcg (wlq (pof fo_37_1 R) R (wlq (v := iv a_a.A) (plx tk_3 pz R R) R (bdO t1 fun v2 hv2 t1 => (wlc (cz0 fa_54 R fun w hw => c_spec_l01In w a_a.A 1 999 hv2) R fun _ => (mv R R (wlo (t := 20) t1 R (fun h4 t1 => ?_) fun h4 t1 => ?_))))))
 exact wgn (j := 3) R R R (wlq (pof fo_37_2 R) R (wgn (j := 3) R R R (wlq (v := iv a_a.B) (plx tk_3 pz R R) R (bdO t1 fun v3 hv3 t1 => (wgn (j := 3) R R R (wlc (cz0 fa_54 R fun w hw => c_spec_l01In w a_a.B 0 9 hv3) R (fun _ => (wlq (pit R R) R (asg R R (wln (wjm _ () (mtE t1) (su1 R) zn)))))))))))
 exact wgf (j := 3) R R R R R (wgf (j := 3) R R R R R (wgf (j := 3) R R R R R (wlq (pif R R) R (asg R R (wln (wjm _ () (mtE t1) (su1 R) zn))))))
 intro j2 _ hp
 obtain rfl : j2 = y1 := hp.symm
 refine wqt (wct (wbr (wqr ?_)))
 obtain rfl := oi t0
 exact wq1 R R fun w hw => ⟨R, hw.weak zn⟩
 refine wcs (wcr (wlq (pol R R) R (asg R R (wnt (wcj (X := Unit) (fun _ => True) (fun _ => [(1, ptr b1 0), (4, iv a_a.Kind), (25, .bool ((a_a.Kind == 3) || (a_a.Kind == 6)))]) (fun _ => [box b1 [iv a_a.Kind, iv a_a.A, iv a_a.B]]) ?_ ?_)))))
 refine wc_cond R (fun h5 => ?_) fun h5 => ?_
 exact wck (wqm () trivial (yc R (yc R (sub_b R (by rw [h5]; rfl) yn))) so1)
 exact wcg (wlq (pol R R) R (asg R R (wln (wqm () trivial (yc R (yc R (sub_b R (by rw [h5]; rfl) yn))) so1))))
 intro _ _
 refine wqt (wcO t0 R (fun h6 t0 => ?_) fun h6 t0 => ?_)
 refine wcs (bdO t0 fun y1 t1 t0 => (wj (J := Bool) (X := Unit) (fun z => y1 = z) (fun z _ => [(2, .bool z)]) (fun _ _ => []) ?_ ?_))
 refine wcg (wlq (pof fo_37_1 R) R (wlq (v := iv a_a.A) (plx tk_3 pz R R) R (bdO t1 fun v4 hv4 t1 => (wlc (cz0 fa_54 R fun w hw => c_spec_l01In w a_a.A 0 9 hv4) R fun _ => (mv R R (wlo (t := 31) t1 R (fun h7 t1 => ?_) fun h7 t1 => ?_))))))
 exact wgn (j := 3) R R R (wlq (pof fo_37_2 R) R (wgn (j := 3) R R R (wlq (v := iv a_a.B) (plx tk_3 pz R R) R (wgn (j := 3) R R R (wlq (pol R R) R (wlq (pit R R) R (asg R R (wln (wjm _ () (mtE t1) (su1 R) zn)))))))))
 exact wgf (j := 3) R R R R R (wgf (j := 3) R R R R R (wgf (j := 3) R R R R R (wlq (pif R R) R (asg R R (wln (wjm _ () (mtE t1) (su1 R) zn))))))
 intro j4 _ hp
 obtain rfl : j4 = y1 := hp.symm
 refine wqt (wct (wbr (wqr ?_)))
 obtain rfl := oi t0
 exact wq1 R R fun w hw => ⟨R, hw.weak zn⟩
 refine wcs (wcr (wlq (pol R R) R (asg R R (wnt (wcj (X := Unit) (fun _ => True) (fun _ => [(1, ptr b1 0), (36, .bool ((a_a.Kind == 4) || (a_a.Kind == 5)))]) (fun _ => [box b1 [iv a_a.Kind, iv a_a.A, iv a_a.B]]) ?_ ?_)))))
 refine wc_cond R (fun h8 => ?_) fun h8 => ?_
 exact wck (wqm () trivial (yc R (sub_b R (by rw [h8]; rfl) yn)) so1)
 exact wcg (wlq (pol R R) R (asg R R (wln (wqm () trivial (yc R (sub_b R (by rw [h8]; rfl) yn)) so1))))
 intro _ _
 refine wqt (wcO t0 R (fun h9 t0 => ?_) fun h9 t0 => ?_)
 refine wcs (wcj (X := Unit) (fun _ => True) (fun _ => [(2, .bool ((a_a.A == 0) && (a_a.B == 0)))]) (fun _ => []) ?_ ?_)
 refine wcg (wlq (pof fo_37_1 R) R (wlq (v := iv a_a.A) (plx tk_3 pz R R) R (wlq (pol R R) R (mv R R (wl_fork (t := 42) R (fun h10 => ?_) fun h10 => ?_)))))
 exact wgn (j := 3) R R R (wlq (pof fo_37_2 R) R (wgn (j := 3) R R R (wlq (v := iv a_a.B) (plx tk_3 pz R R) R (wgn (j := 3) R R R (wlq (pol R R) R (wlq (pit R R) R (asg R R (wln (wqm () trivial (sub_b R (by rw [h10]; rfl) yn) zn)))))))))
 exact wgf (j := 3) R R R R R (wgf (j := 3) R R R R R (wgf (j := 3) R R R R R (wlq (pif R R) R (asg R R (wln (wqm () trivial (sub_b R (by rw [h10]; rfl) yn) zn))))))
 intro _ _
 refine wqt (wct (wbr (wqr ?_)))
 obtain rfl := oi t0
 exact wq1 R R fun w hw => ⟨R, hw.weak zn⟩
 refine wck (wqb (wqt (wcr (asg R R (wnt (wct ?_))))))
 obtain rfl := oi t0
 exact wq1 R R fun w hw => ⟨R, hw.weak zn⟩

theorem c_spec_StarBlock (w : World)  {r : GBlock} (t0 : spec_StarBlock = some r) : Calls Tryz.prog 80 #[] w fun e w' => ∃ x : Hd, e = .returned (.agg #[.int .i64 r.Size, (sl x)]) ∧ SH w [] [ownF (sl x) r.Cells] w' := by
 refine cwc (args := []) Tryz.func80 R Tryz.ntmps80 R ?_
 unfold spec_StarBlock at t0
 refine wcr (wle (eal (cs := [iv 0, (sl hn)]) za_43) R fun b1 => (wnt (wcr (bdO t0 fun v1 hv1 t0 => (wlc (cz0 fa_81 R fun w hw => c_spec_WholeCell w 1 hv1) R fun _ => (wle (eal (cs := [iv 0, iv 0, iv 0]) za_90) R fun b2 => (wls (sbx (cs' := [iv v1.Split, iv v1.A, iv v1.B]) tk_90 pz R R R R R R R) (wnt (wcr (wlq (po_build R (bd_90_0_1_2 1 0 1)) R (wlq (v := .agg #[iv v1.Split, iv v1.A, iv v1.B]) (plb tk_90 pz R R R) R (wlq (po_build R (bd_90_0_1_2 2 1 0)) R (wlq (v := .agg #[iv v1.Split, iv v1.A, iv v1.B]) (plb tk_90 pz R R R) R (wlq (v := .agg #[iv v1.Split, iv v1.A, iv v1.B]) (plb tk_90 pz R R R) R (wlq (v := .agg #[iv v1.Split, iv v1.A, iv v1.B]) (plb tk_90 pz R R R) R (wlq (po_build R (bd_90_0_1_2 2 0 1)) R (wlq (v := .agg #[iv v1.Split, iv v1.A, iv v1.B]) (plb tk_90 pz R R R) R (wlq (po_build R (bd_90_0_1_2 1 1 0)) R (wle (ebs (qs := [(0, .agg #[iv 1, iv 0, iv 1]), (1, .agg #[iv v1.Split, iv v1.A, iv v1.B]), (2, .agg #[iv 2, iv 1, iv 0]), (3, .agg #[iv v1.Split, iv v1.A, iv v1.B]), (4, .agg #[iv v1.Split, iv v1.A, iv v1.B]), (5, .agg #[iv v1.Split, iv v1.A, iv v1.B]), (6, .agg #[iv 2, iv 0, iv 1]), (7, .agg #[iv v1.Split, iv v1.A, iv v1.B]), (8, .agg #[iv 1, iv 1, iv 0])]) R (sb_41_9 1 0 1 v1.Split v1.A v1.B 2 1 0 v1.Split v1.A v1.B v1.Split v1.A v1.B v1.Split v1.A v1.B 2 0 1 v1.Split v1.A v1.B 1 1 0)) R fun b3 => (wlq (po_build R (bd_43_0_1 3 (⟨some ⟨b3, 0, none⟩, 9, 9⟩ : Hd))) R (wls (sbx (cs' := [iv 3, (sl (⟨some ⟨b3, 0, none⟩, 9, 9⟩ : Hd))]) tk_43 pk2 R R R R R R R) (wnt (wct ?_)))))))))))))))))))))))
 obtain rfl := oi t0
 exact wqc R tk_43 R pz R fun w hw => ⟨(⟨some ⟨b3, 0, none⟩, 9, 9⟩ : Hd), R, hw.weak (zc (pbo pk1 (n := 9) (xs := ([(GCell.mk 1 0 1), v1, (GCell.mk 2 1 0), v1, v1, v1, (GCell.mk 2 0 1), v1, (GCell.mk 1 1 0)] : List GCell)) R R (by unfold maxLen; omega)) zn)⟩

theorem c_spec_SampleBlock (w : World) (a_n : Int) {r : GBlock} (t0 : spec_SampleBlock a_n = some r) : Calls Tryz.prog 33 #[.int .i64 a_n] w fun e w' => ∃ x : Hd, e = .returned (.agg #[.int .i64 r.Size, (sl x)]) ∧ SH w [] [ownF (sl x) r.Cells] w' := by
 refine cwc (args := [_]) Tryz.func33 R Tryz.ntmps33 R ?_
 unfold spec_SampleBlock at t0
 refine wcr (wle (eal (cs := [iv 0, (sl hn)]) za_43) R fun b1 => (wnt (wcs (wcr (mv R R (wlq (pol R R) R (wnt (wcO t0 R (fun h1 t0 => ?_) fun h1 t0 => ?_))))))))
 refine wcr (bdO t0 fun v1 hv1 t0 => (wlc (cz1 fa_80 R fun w hw => c_spec_StarBlock w hv1) R fun x1 => (wls (sbx (cs' := [iv v1.Size, (sl x1)]) tk_43 pk1 R R R R R R R) (wnt (wct (wqr ?_))))))
 obtain rfl := oi t0
 exact wqc R tk_43 R pz R fun w hw => ⟨x1, R, hw.weak (zc pk1 zn)⟩
 refine wck (wqt (wcs (wcr (mv R R (bdO t0 fun v2 hv2 t0 => (wlc (cz0 fa_54 R fun w hw => c_spec_l01In w a_n 1 9 hv2) R fun _ => (wlq (po_not R) R (wnt (wcO t0 R (fun h2 t0 => ?_) fun h2 t0 => ?_)))))))))
 refine wcr (wlq (po_build R bd_43) R (wls (sbx (cs' := [iv 0, (sl hn)]) tk_43 pz R R R R R R R) (wnt (wct (wqr ?_)))))
 obtain rfl := oi t0
 exact wqc R tk_43 R pz R fun w hw => ⟨hn, R, hw.weak (zc pick_nil zn)⟩
 refine wck (wqt (wcr (wlq (po_build R (bd_43_0 2)) R (wle (eal (cs := [iv 0, (sl hn)]) za_43) R fun b2 => (wls (sbx (cs' := [iv 2, (sl hn)]) tk_43 pz R R R R R R R) (wnt (wcs (wcr (asg R R (wnt (lpO_inv t0 fun y1 l1 t0 => (wj (J := List GCell) (X := Hd) (fun z => y1 = z) (fun _ _ => [(2, ptr b1 0), (3, ptr b2 0)]) (fun z x => [box b2 [iv 2, (sl x)], box b1 [iv 0, (sl hn)], ownF (sl x) z]) ?_ ?_))))))))))))
 refine wcb (wcf (X := Hd) l1 (fun k1 s1 x1l => [(0, iv a_n), (2, ptr b1 0), (3, ptr b2 0), (4, iv ((k1 : Nat) : Int))]) (fun k1 s1 x1l => [box b2 [iv 2, (sl x1l)], box b1 [iv 0, (sl hn)], ownF (sl x1l) s1]) hn (su4 R R R R) (zc pz (zc pz (zc pick_nil zn))) fun k1 s1 x1l hN1 l1 => ?_)
 by_cases hk1 : k1 < 4
 refine fos l1 hk1 fun _ t1 l1 => ?_
 unfold spec_SampleBlock_L1 at t1
 have c1 : (decide (((k1 : Nat) : Int) < 4)) = true := ddt (by omega)
 refine wcs (wcr (mv R R (wlq (pls R R) R (wnt (wft R c1 (wck (wqt (wcs (wcb (wcr (mv R R (wlq (po_quo R R (by decide)) R ?_))))))))))))
 refine wlq (po_add R R) R (bdO t1 fun v3 hv3 t1 => (wlc (cz0 fa_81 R fun w hw => c_spec_WholeCell w (wr ((wr (a_n.tdiv 5)) + 1)) hv3) R fun _ => (wle (eal (cs := [iv 0, iv 0, iv 0]) za_90) R fun b3 => (wls (sbx (cs' := [iv v3.Split, iv v3.A, iv v3.B]) tk_90 pz R R R R R R R) (wnt (wcs (wcr (mv R R (mv R R (wlq (po_rem R R (by decide)) R ?_))))))))))
 refine wlq (pls R R) R (wnt (bdO t1 fun y2 t2 t1 => (wj (J := GCell) (X := Unit) (fun z => y2 = z) (fun _ _ => [(0, iv a_n), (2, ptr b1 0), (3, ptr b2 0), (4, iv ((k1 : Nat) : Int)), (5, ptr b3 0)]) (fun z _ => [box b3 [iv ((z).Split), iv ((z).A), iv ((z).B)], box b2 [iv 2, (sl x1l)], box b1 [iv 0, (sl hn)], ownF (sl x1l) s1]) ?_ ?_)))
 refine wcO t2 R (fun h3 t2 => ?_) fun h3 t2 => ?_
 exact wcg (bdO t2 fun v4 hv4 t2 => (wlc (cz0 fa_82 R fun w hw => c_spec_SplitCell w 1 0 1 hv4) R fun _ => (wls (sbx (cs' := [iv v4.Split, iv v4.A, iv v4.B]) tk_90 pz R R R R R R R) (wln (wjm _ () (mtE t2) (su5 R R R R R) so4)))))
 exact wck (wjm _ () (mtE t2) (su5 R R R R R) so4)
 intro j1 _ hp
 obtain rfl : j1 = y2 := hp.symm
 refine wqt (wcg (wlq (pof fo_43_1 R) R (wlq (v := (sl x1l)) (plx tk_41 pk1 R R) R (wlq (v := .agg #[iv ((j1).Split), iv ((j1).A), iv ((j1).B)]) (plb tk_90 pz R R R) R (wle (ebs R (sb_41_1 ((j1).Split) ((j1).A) ((j1).B))) R fun b4 => (gdO t1 fun g1 t1 => (wle (eo_append (xs := s1) (ys := ([(j1)] : List GCell)) ak_41 pk4 R R (slin_rd fun _ g => Rg.on (rgo (pbo pz (n := 1) (xs := ([(j1)] : List GCell)) R R (by unfold maxLen; omega))) g) g1) R fun x4 => ?_)))))))
 refine wlq (pof fo_43_1 R) R (wls (sbx (cs' := [iv 2, (sl x4)]) tk_41 pk3 R R R R R R R) (wln (wqb (wqt (wcg (mv R R (wlq (po_inc R R (by omega)) R ?_)))))))
 exact asg R R (wln (wq_rnd hk1 (stpN l1 t1) x4 (su4 R R R R) (zc pz (zc pk3 so1))))
 have c1 : (decide (((k1 : Nat) : Int) < 4)) = false := ddf (by omega)
 have en1 := foe l1 hk1
 exact wcs (wcr (mv R R (wlq (pls R R) R (wnt (wff R c1 (wcx (wqe (wqe (wbx (wjm _ x1l (Sum.inl.inj en1) (su2 R R) so3))))))))))
 intro e1 x2 hp
 obtain rfl : e1 = y1 := hp.symm
 refine wqt (wcr (wlq (v := .agg #[iv 2, (sl x2)]) (plb tk_43 pz R R R) R (wls (sbx (cs' := [iv 2, (sl x2)]) tk_43 pk1 R R R R R R R) (wnt (wct ?_)))))
 obtain rfl := oi t0
 exact wqc R tk_43 R pz R fun w hw => ⟨x2, R, hw.weak (zc pk2 zn)⟩

theorem c_spec_CellArea (w : World) (a_c : GCell) (a_a : Int) {r : Int} (t0 : spec_CellArea a_c a_a = some r) : Calls Tryz.prog 87 #[.agg #[.int .i64 a_c.Split, .int .i64 a_c.A, .int .i64 a_c.B], .int .i64 a_a] w fun e w' => e = .returned (.int .i64 r) ∧ SH w [] [] w' := by
 refine cwc (args := [_, _]) Tryz.func87 R Tryz.ntmps87 R ?_
 unfold spec_CellArea at t0
 refine wcr (wle (eo_box R R) R fun b1 => (asg R R (wnt (wcr (asg R R (wnt (wcs (wcr (wlq (v := .agg #[iv a_c.Split, iv a_c.A, iv a_c.B]) (plb tk_90 pz R R R) R (bdO t0 fun v1 hv1 t0 => (wlc (cz0 fa_86 R fun w hw => c_spec_CellOk w a_c hv1) R fun _ => (wlq (po_not R) R (wnt (wcO t0 R (fun h1 t0 => ?_) fun h1 t0 => ?_))))))))))))))
 refine wcr (asg R R (wnt (wct (wqr ?_))))
 obtain rfl := oi t0
 exact wq1 R R fun w hw => ⟨R, hw.weak zn⟩
 refine wck (wqt (wcs (wcr (wlq (pof fo_90_1 R) R (wlq (v := iv a_c.A) (plx tk_3 pz R R) R (mv R R (wlq (pol R R) R (wnt (wcj (X := Unit) (fun _ => True) (fun _ => [(1, iv a_a), (2, ptr b1 0), (5, iv (bif (a_c.A == a_a) then (wr (0 + 2)) else 0))]) (fun _ => [box b1 [iv a_c.Split, iv a_c.A, iv a_c.B]]) ?_ ?_)))))))))
 refine wc_cond R (fun h2 => ?_) fun h2 => ?_
 exact wcg (mv R R (wlq (po_add R R) R (asg R R (wln (wqm () trivial (yc R (yc R (sub_i R (by simp only [h2, cond_true]) yn))) so1)))))
 exact wck (wqm () trivial (yc R (yc R (sub_i R (by simp only [h2, cond_false]) yn))) so1)
 intro _ _
 refine wqt (wcs (wcr (wlq (pof fo_90_2 R) R (wlq (v := iv a_c.B) (plx tk_3 pz R R) R (mv R R (wlq (pol R R) R (wnt (wcj (X := Unit) (fun _ => True) (fun _ => [(5, iv (bif (a_c.B == a_a) then (wr ((bif (a_c.A == a_a) then (wr (0 + 2)) else 0) + 2)) else (bif (a_c.A == a_a) then (wr (0 + 2)) else 0)))]) (fun _ => []) ?_ ?_))))))))
 refine wc_cond R (fun h3 => ?_) fun h3 => ?_
 exact wcg (mv R R (wlq (po_add R R) R (asg R R (wln (wqm () trivial (sub_i R (by simp only [h3, cond_true]) yn) zn)))))
 exact wck (wqm () trivial (sub_i R (by simp only [h3, cond_false]) yn) zn)
 intro _ _
 refine wqt (wcr (mv R R (asg R R (wnt (wct ?_)))))
 obtain rfl := oi t0
 exact wq1 R R fun w hw => ⟨R, hw.weak zn⟩

theorem c_spec_AreaOf (w : World) (a_b : GBlock) (v0a : Hd) (r0 : rdF w (dm w []) (sl v0a) a_b.Cells) (a_a : Int) {r : Int} (t0 : spec_AreaOf a_b a_a = some r) : Calls Tryz.prog 46 #[.agg #[.int .i64 a_b.Size, (sl v0a)], .int .i64 a_a] w fun e w' => e = .returned (.int .i64 r) ∧ SH w [] [] w' := by
 refine cwc (args := [_, _]) Tryz.func46 R Tryz.ntmps46 R ?_
 unfold spec_AreaOf at t0
 refine wcr (wle (eo_box R R) R fun b1 => (asg R R (wnt (wcr (asg R R (wnt (wcs (wcr (wlq (v := .agg #[iv a_b.Size, (sl v0a)]) (plb tk_43 pz R R R) R (bdO t0 fun v1 hv1 t0 => (wlc (cz0 fa_45 R fun w hw => c_spec_BlockOk w a_b v0a (ra r0 hw) hv1) R fun _ => (wlq (po_not R) R (wnt (wcO t0 R (fun h1 t0 => ?_) fun h1 t0 => ?_))))))))))))))
 refine wcr (asg R R (wnt (wct (wqr ?_))))
 obtain rfl := oi t0
 exact wq1 R R fun w hw => ⟨R, hw.weak zn⟩
 refine wck (wqt (wcs (wcr (asg R R (wnt (gdO t0 fun g1 t0 => (lpO_inv t0 fun y1 l1 t0 => (wj (J := Int) (X := Unit) (fun z => y1 = z) (fun z _ => [(5, iv z)]) (fun _ _ => []) ?_ ?_))))))))
 refine wcb (wcf (X := Unit) l1 (fun k1 s1 x1l => [(1, iv a_a), (2, ptr b1 0), (5, iv s1), (6, iv ((k1 : Nat) : Int))]) (fun k1 s1 x1l => [box b1 [iv a_b.Size, (sl v0a)]]) () (su4 R R R R) so1 fun k1 s1 x1l hN1 l1 => ?_)
 by_cases hk1 : k1 < a_b.Cells.length
 refine fos l1 hk1 fun _ t1 l1 => ?_
 unfold spec_AreaOf_L1 at t1
 have c1 : (decide (((k1 : Nat) : Int) < ((a_b.Cells.length : Nat) : Int))) = true := ddt (by omega)
 refine wcs (wcr (mv R R (wlq (pof fo_43_1 R) R (wlq (v := (sl v0a)) (plx tk_41 pz R R) R (wlq (pln (rga r0) el_41 R) R (wlq (pls R R) R (wnt (wft R c1 (wck (wqt (wcs (wcb (wcg (mv R R (wlq (pof fo_43_1 R) R (wlq (v := (sl v0a)) (plx tk_41 pz R R) R (mv R R (wlq (po_ixn (k := k1) (rga r0) el_41 R R hk1) R (wlq (v := .agg #[iv ((gx a_b.Cells k1).Split), iv ((gx a_b.Cells k1).A), iv ((gx a_b.Cells k1).B)]) (po_ldfs (rga r0) tk_90 R hk1 R R R) R (mv R R (bdO t1 fun v2 hv2 t1 => (wlc (cz0 fa_87 R fun w hw => c_spec_CellArea w (gx a_b.Cells k1) a_a hv2) R fun _ => (wlq (po_add R R) R (asg R R (wln (wqb (wqt (wcg (mv R R (wlq (po_inc R R (by omega)) R ?_))))))))))))))))))))))))))))))
 exact asg R R (wln (wq_rnd hk1 (stpN l1 t1) () (su4 R R R R) so1))
 have c1 : (decide (((k1 : Nat) : Int) < ((a_b.Cells.length : Nat) : Int))) = false := ddf (by omega)
 have en1 := foe l1 hk1
 exact wcs (wcr (mv R R (wlq (pof fo_43_1 R) R (wlq (v := (sl v0a)) (plx tk_41 pz R R) R (wlq (pln (rga r0) el_41 R) R (wlq (pls R R) R (wnt (wff R c1 (wcx (wqe (wqe (wbx (wjm _ () (Sum.inl.inj en1) (su1 R) zn)))))))))))))
 intro e1 _ hp
 obtain rfl : e1 = y1 := hp.symm
 refine wqt (wcr (mv R R (asg R R (wnt (wct ?_)))))
 obtain rfl := oi t0
 exact wq1 R R fun w hw => ⟨R, hw.weak zn⟩

theorem c_spec_AreaTable (w : World) (a_b : GBlock) (v0a : Hd) (r0 : rdF w (dm w []) (sl v0a) a_b.Cells) {r : List Int} (t0 : spec_AreaTable a_b = some r) : Calls Tryz.prog 11 #[.agg #[.int .i64 a_b.Size, (sl v0a)]] w fun e w' => ∃ x : Hd, e = .returned ((sl x)) ∧ SH w [] [ownF (sl x) r] w' := by
 refine cwc (args := [_]) Tryz.func11 R Tryz.ntmps11 R ?_
 unfold spec_AreaTable at t0
 refine wcr (wle (eo_box R R) R fun b1 => (asg R R (wnt (wcr (wle (ebs R sb_25_0) R fun b2 => (asg R R (wnt (wcs (wcr (asg R R (wnt (lpO_inv t0 fun y1 l1 t0 => (wj (J := List Int) (X := Hd) (fun z => y1 = z) (fun _ x => [(3, (sl x))]) (fun z x => [ownF (sl x) z]) ?_ ?_)))))))))))))
 refine wcb (wcf (X := Hd) l1 (fun k1 s1 x1l => [(1, ptr b1 0), (3, (sl x1l)), (4, iv ((k1 : Nat) : Int))]) (fun k1 s1 x1l => [box b1 [iv a_b.Size, (sl v0a)], ownF (sl x1l) s1]) (⟨some ⟨b2, 0, none⟩, 0, 0⟩ : Hd) (su3 R R R) (zc pk1 (zc (pbo pz (n := 0) (xs := ([] : List Int)) R R (by unfold maxLen; omega)) zn)) fun k1 s1 x1l hN1 l1 => ?_)
 by_cases hk1 : k1 < 6
 refine fos l1 hk1 fun _ t1 l1 => ?_
 unfold spec_AreaTable_L1 at t1
 have c1 : (decide (((k1 : Nat) : Int) < 6)) = true := ddt (by omega)
 refine wcs (wcr (mv R R (wlq (pls R R) R (mv R R (wl_know (t := 8) R c1 (wgn (j := 2) R R R (wlq (v := .agg #[iv a_b.Size, (sl v0a)]) (plb tk_43 pz R R R) R (bdO t1 fun v1 hv1 t1 => (wgn (j := 2) R R R (wlc (cz0 fa_45 R fun w hw => c_spec_BlockOk w a_b v0a (ra r0 hw) hv1) R (fun _ => (wlq (pit R R) R (wnt (wcO t1 R (fun h1 t1 => ?_) fun h1 t1 => ?_))))))))))))))
 refine wck (wqt (wcs (wcb (wcg (mv R R (wlq (v := .agg #[iv a_b.Size, (sl v0a)]) (plb tk_43 pz R R R) R (mv R R (bdO t1 fun v2 hv2 t1 => (wlc (cz0 fa_46 R fun w hw => c_spec_AreaOf w a_b v0a (ra r0 hw) ((k1 : Nat) : Int) hv2) R fun _ => (wle (ebs R (sb_25_1 v2)) R fun b3 => (gdO t1 fun g1 t1 => (wle (eo_append (xs := s1) (ys := ([v2] : List Int)) ak_25 pk2 R R (slin_rd fun _ g => Rg.on (rgo (pbo pz (n := 1) (xs := ([v2] : List Int)) R R (by unfold maxLen; omega))) g) g1) R fun x2 => ?_))))))))))))
 refine asg R R (wln (wqb (wqt (wcg (mv R R (wlq (po_inc R R (by omega)) R ?_))))))
 exact asg R R (wln (wq_rnd hk1 (stpN l1 t1) x2 (su3 R R R) (zc pk2 so1)))
 exact wcx (wqe (wqe (wbx (wjm _ x1l (Sum.inl.inj (stpB l1 t1)) (su1 R) (zc pk1 zn)))))
 have c1 : (decide (((k1 : Nat) : Int) < 6)) = false := ddf (by omega)
 have en1 := foe l1 hk1
 exact wcs (wcr (mv R R (wlq (pls R R) R (mv R R (wl_know (t := 8) R c1 (wgf (j := 2) R R R R R (wgf (j := 2) R R R R R (wlq (pif R R) R (wnt (wff R R (wcx (wqe (wqe (wbx (wjm _ x1l (Sum.inl.inj en1) (su1 R) (zc pk1 zn))))))))))))))))
 intro e1 x1 hp
 obtain rfl : e1 = y1 := hp.symm
 refine wqt (wcr (mv R R (asg R R (wnt (wct ?_)))))
 obtain rfl := oi t0
 exact wq1 R R fun w hw => ⟨x1, R, hw.weak so1⟩

theorem c_spec_EnoughFor (w : World) (a_stock : List Int) (v0a : Hd) (r0 : rdF w (dm w []) (sl v0a) a_stock) (a_need : List Int) (v1a : Hd) (r1 : rdF w (dm w []) (sl v1a) a_need) {r : Bool} (t0 : spec_EnoughFor a_stock a_need = some r) : Calls Tryz.prog 83 #[(sl v0a), (sl v1a)] w fun e w' => e = .returned (.bool r) ∧ SH w [] [] w' := by
 refine cwc (args := [_, _]) Tryz.func83 R Tryz.ntmps83 R ?_
 unfold spec_EnoughFor at t0
 refine wcr (asg R R (wnt (wcs (wcs (bdO t0 fun y1 t1 t0 => (wj (J := Bool) (X := Unit) (fun z => y1 = z) (fun z _ => [(0, (sl v0a)), (1, (sl v1a)), (13, .bool z)]) (fun _ _ => []) ?_ ?_))))))
 refine wcg (mv R R (bdO t1 fun v1 hv1 t1 => (wlc (cz0 fa_72 R fun w hw => c_spec_StockOk w a_stock v0a (ra r0 hw) hv1) R fun _ => (wlq (po_not R) R (mv R R (wlo (t := 9) t1 R (fun h1 t1 => ?_) fun h1 t1 => ?_))))))
 exact wgf (j := 3) R R R R R (wgf (j := 3) R R R R R (wgf (j := 3) R R R R R (wlq (pit R R) R (wln (wjm _ () (mtE t1) (su3 R R R) zn)))))
 exact wgn (j := 3) R R R (mv R R (bdO t1 fun v2 hv2 t1 => (wgn (j := 3) R R R (wlc (cz0 fa_72 R fun w hw => c_spec_StockOk w a_need v1a (ra r1 hw) hv2) R (fun _ => (wgn (j := 3) R R R (wlq (po_not R) R (wlq (pif R R) R (wln (wjm _ () (mtE t1) (su3 R R R) zn))))))))))
 intro j1 _ hp
 obtain rfl : j1 = y1 := hp.symm
 refine wqt (wcO t0 R (fun h2 t0 => ?_) fun h2 t0 => ?_)
 refine wcr (asg R R (wnt (wct (wqr ?_))))
 obtain rfl := oi t0
 exact wq1 R R fun w hw => ⟨R, hw.weak zn⟩
 refine wck (wqt (wcs (wcr (asg R R (wnt (sqO t0 fun y1 l1 t0 => (wj (J := Unit) (X := Unit) (fun z => y1 = .inl z) (fun _ _ => []) (fun _ _ => []) ?_ ?_)))))))
 refine wcb (wcf (X := Unit) l1 (fun k1 s1 x1l => [(0, (sl v0a)), (1, (sl v1a)), (5, iv ((k1 : Nat) : Int))]) (fun k1 s1 x1l => []) () (su3 R R R) zn fun k1 s1 x1l hN1 l1 => ?_)
 by_cases hk1 : k1 < 6
 refine fos l1 hk1 fun _ t1 l1 => ?_
 unfold spec_EnoughFor_L1 at t1
 have c1 : (decide (((k1 : Nat) : Int) < 6)) = true := ddt (by omega)
 refine wcs (wcr (mv R R (wlq (pls R R) R (wnt (wft R c1 (wck (wqt (wcs (wcb (wcs (wcd [] 9 mixed (aq 0 R (pom R) zn R (aq 1 R (pom R) zn R (gdO t1 fun g1 t1 => (aq 2 R (po_ixn (k := k1) (rga r1) el_25 R R g1) zn R (aq (v := iv (gx a_need k1)) 3 R (po_ldf (rga r1) tk_3 R g1 R) zn R (aq 4 R (pom R) zn R (aq 5 R (pom R) zn R (gdO t1 fun g2 t1 => (aq 6 R (po_ixn (k := k1) (rga r0) el_25 R R g2) zn R (aq (v := iv (gx a_stock k1)) 7 R (po_ldf (rga r0) tk_3 R g2 R) zn R (aq 8 R (po_gtr R R) zn R (ae (wqt (wcO t1 R (fun h3 t1 => ?_) fun h3 t1 => ?_)))))))))))))))))))))))))
 refine wcr (asg R R (wnt (wct (wbr (wqr (wqr (wbr (wqr (wqr ?_)))))))))
 replace t0 := lpR t0 l1 t1
 obtain rfl := oi t0
 exact wq1 R R fun w hw => ⟨R, hw.weak zn⟩
 refine wck (wqb (wqt (wcg (mv R R (wlq (po_inc R R (by omega)) R ?_)))))
 exact asg R R (wln (wq_rnd hk1 (stpN l1 t1) () (su3 R R R) zn))
 have c1 : (decide (((k1 : Nat) : Int) < 6)) = false := ddf (by omega)
 have en1 := foe l1 hk1
 exact wcs (wcr (mv R R (wlq (pls R R) R (wnt (wff R c1 (wcx (wqe (wqe (wbx (wjm _ () en1 yn zn))))))))))
 intro e1 _ hp
 replace t0 := sqE (j := e1) t0 hp
 refine wqt (wcr (asg R R (wnt (wct ?_))))
 obtain rfl := oi t0
 exact wq1 R R fun w hw => ⟨R, hw.weak zn⟩

theorem c_spec_SewBlock (w : World) (a_g : GGuild) (v0a : Hd) (r0 : rdF w (dm w []) (sl v0a) a_g.Members) (v1a : Hd) (r1 : rdF w (dm w []) (sl v1a) a_g.Stock) (v2a : Hd) (u2a : List Value) (r2 : RdL w (dm w []) (sl v2a) u2a a_g.Entries) (v3a : Hd) (r3 : rdF w (dm w []) (sl v3a) a_g.Books) (a_k : Int) {r : GGuild × Bool} (t0 : spec_SewBlock a_g a_k = some r) : Calls Tryz.prog 34 #[.agg #[(sl v0a), (sl v1a), (sl v2a), (sl v3a), .int .i64 a_g.Round, .int .i64 a_g.Year], .int .i64 a_k] w fun e w' => ∃ x : Hd × Hd × Hd × (List Value) × Hd, e = .returned (.tuple #[.agg #[(sl x.1), (sl x.2.1), (sl x.2.2.1), (sl x.2.2.2.2), .int .i64 r.1.Round, .int .i64 r.1.Year], .bool r.2]) ∧ SH w [] [ownF (sl x.1) r.1.Members, ownF (sl x.2.1) r.1.Stock, own (sl x.2.2.1) x.2.2.2.1 r.1.Entries, ownF (sl x.2.2.2.2) r.1.Books] w' := by
 refine cwc (args := [_, _]) Tryz.func34 R Tryz.ntmps34 R ?_
 unfold spec_SewBlock at t0
 refine wcr (wle (eo_box R R) R fun b1 => (wle (eal (cs := [(sl hn), (sl hn), (sl hn), (sl hn), iv 0, iv 0]) za_29) R fun b2 => (asg R R (wnt (wcr (wlq (v := .agg #[(sl v0a), (sl v1a), (sl v2a), (sl v3a), iv a_g.Round, iv a_g.Year]) (plb tk_29 pk1 R R R) R (bdO t0 fun v1 hv1 t0 => (wlc (co_c4 fa_28 R fun w hw => c_spec_l38Copy w a_g v0a (ra r0 hw) v1a (ra r1 hw) v2a u2a (ra r2 hw) v3a (ra r3 hw) hv1) R fun x1 => (wle (eal (cs := [(sl hn), (sl hn), (sl hn), (sl hn), iv 0, iv 0]) za_29) R fun b3 => (wls (sbx (cs' := [(sl x1.1), (sl x1.2.1), (sl x1.2.2.1), (sl x1.2.2.2.2), iv v1.Round, iv v1.Year]) tk_29 pz R R R R R R R) (wnt (wcs (wcs (bdO t0 fun y1 t1 t0 => (wj (J := Bool) (X := Unit) (fun z => y1 = z) (fun z _ => [(1, iv a_k), (2, ptr b1 0), (4, ptr b2 0), (6, ptr b3 0), (35, .bool z)]) (fun _ _ => [box b3 [(sl x1.1), (sl x1.2.1), (sl x1.2.2.1), (sl x1.2.2.2.2), iv v1.Round, iv v1.Year], box b2 [(sl hn), (sl hn), (sl hn), (sl hn), iv 0, iv 0], box b1 [(sl v0a), (sl v1a), (sl v2a), (sl v3a), iv a_g.Round, iv a_g.Year], ownF (sl x1.1) v1.Members, ownF (sl x1.2.1) v1.Stock, own (sl x1.2.2.1) x1.2.2.2.1 v1.Entries, ownF (sl x1.2.2.2.2) v1.Books]) ?_ ?_)))))))))))))))
 refine wcd [box b3 [(sl x1.1), (sl x1.2.1), (sl x1.2.2.1), (sl x1.2.2.2.2), iv v1.Round, iv v1.Year], ownF (sl x1.1) v1.Members, ownF (sl x1.2.1) v1.Stock, own (sl x1.2.2.1) x1.2.2.2.1 v1.Entries, ownF (sl x1.2.2.2.2) v1.Books, box b2 [(sl hn), (sl hn), (sl hn), (sl hn), iv 0, iv 0], box b1 [(sl v0a), (sl v1a), (sl v2a), (sl v3a), iv a_g.Round, iv a_g.Year]] 25 mixed (aq (v := .agg #[(sl v0a), (sl v1a), (sl v2a), (sl v3a), iv a_g.Round, iv a_g.Year]) 0 R (plb tk_29 pk6 R R R) so7 R (a1 1 (bdO t1 fun v2 hv2 t1 => (wsc R (cz0 fa_29 R fun w hw => c_spec_GuildOk w a_g v0a (ra r0 hw) v1a (ra r1 hw) v2a u2a (ra r2 hw) v3a (ra r3 hw) hv2) (fun _ => (zt so7)) R fun _ => (aq 2 R (po_not R) so7 R (aq 3 R (pom R) so7 R (waO_ (t := 14) t1 R (fun h1 t1 => ?_) fun h1 t1 => ?_)))))))
 exact af 4 3 R R R R R so7 R (af 5 3 R R R R R so7 R (af 6 3 R R R R R so7 R (af 7 3 R R R R R so7 R (af 8 3 R R R R R so7 R (af 9 3 R R R R R so7 R (af 10 3 R R R R R so7 R (aq 11 R (pit R R) so7 R (aq 12 R (pom R) so7 R (af 13 12 R R R R R so7 R (af 14 12 R R R R R so7 R (af 15 12 R R R R R so7 R (af 16 12 R R R R R so7 R (af 17 12 R R R R R so7 R (af 18 12 R R R R R so7 R (af 19 12 R R R R R so7 R (af 20 12 R R R R R so7 R (af 21 12 R R R R R so7 R (af 22 12 R R R R R so7 R (af 23 12 R R R R R so7 R (aq 24 R (pit R R) so7 R (ae (wjm _ () (mtE t1) (su5 R R R R R) (zc pz (zc pk4 (zc pk4 so4)))))))))))))))))))))))))
 refine an 4 3 R R R R (pom R) so7 R (an 5 3 R R R R (pof fo_29_2 R) so7 R (an (v := (sl v2a)) 6 3 R R R R (plx tk_26 pk6 R R) so7 R (an 7 3 R R R R (pln (rga r2) el_26 R) so7 R (an 8 3 R R R R (po_sub R R) so7 R (a1 9 (bdO t1 fun v3 hv3 t1 => (ws_call_on (j := 3) R R R R (cz0 fa_54 R fun w hw => c_spec_l01In w a_k 0 (wr (((a_g.Entries.length : Nat) : Int) - 1)) hv3) (fun _ => (zt so7)) R fun _ => (an 10 3 R R R R (po_not R) so7 R (aq 11 R (pif R R) so7 R (aq 12 R (pom R) so7 R (waO_ (t := 23) t1 R (fun h2 t1 => ?_) fun h2 t1 => ?_)))))))))))
 exact af 13 12 R R R R R so7 R (af 14 12 R R R R R so7 R (af 15 12 R R R R R so7 R (af 16 12 R R R R R so7 R (af 17 12 R R R R R so7 R (af 18 12 R R R R R so7 R (af 19 12 R R R R R so7 R (af 20 12 R R R R R so7 R (af 21 12 R R R R R so7 R (af 22 12 R R R R R so7 R (af 23 12 R R R R R so7 R (aq 24 R (pit R R) so7 R (ae (wjm _ () (mtE t1) (su5 R R R R R) (zc pz (zc pk4 (zc pk4 so4))))))))))))))))
 refine an 13 12 R R R R (pof fo_29_1 R) so7 R (an (v := (sl v1a)) 14 12 R R R R (plx tk_25 pk6 R R) so7 R (an 15 12 R R R R (pof fo_29_2 R) so7 R (an (v := (sl v2a)) 16 12 R R R R (plx tk_26 pk6 R R) so7 R (an 17 12 R R R R (pom R) so7 R (gdO t1 fun g1 t1 => (an 18 12 R R R R (po_ixr (rga r2) el_26 R R g1.1 g1.2) so7 R (an 19 12 R R R R (po_sfldr (rga r2) (ix_lt g1) fo_45_2 R) so7 R (wa_elem (rga r2) (ix_lt g1) ?_))))))))
 rintro ⟨_, _, he1⟩
 obtain ⟨w1, hc1, _⟩ := rd_GEntry.1 he1
 exact an (v := .agg #[iv (((gx a_g.Entries ((a_k).toNat)).Block).Size), (sl w1)]) 20 12 R R R R (po_ldns (rga r2) tk_43 R hc1 R R R) so7 R (a1 21 (bdO t1 fun v4 hv4 t1 => (ws_call_on (j := 12) R R R R (cz1 fa_11 R fun w hw => c_spec_AreaTable w ((gx a_g.Entries ((a_k).toNat)).Block) w1 (Rg.on (er_GEntry_0 hc1 (rga r2) (ix_lt g1)) hw) hv4) (fun _ => (zt (zc pk1 (zc pk1 (zc pk1 (zc pk1 (zc pk1 (zc pk1 (zc pk1 zn))))))))) R fun x3 => (a1 22 (bdO t1 fun v5 hv5 t1 => (ws_call_on (j := 12) R R R R (cz0 fa_83 R fun w hw => c_spec_EnoughFor w a_g.Stock v1a (ra r1 hw) v4 x3 (Rg.on (rgo pz) hw) hv5) (fun _ => (zt (zc pk1 (zc pk1 (zc pk1 (zc pk1 (zc pk1 (zc pk1 (zc pk1 zn))))))))) R fun _ => (an 23 12 R R R R (po_not R) (zc pk1 (zc pk1 (zc pk1 (zc pk1 (zc pk1 (zc pk1 (zc pk1 zn))))))) R (aq 24 R (pif R R) (zc pk1 (zc pk1 (zc pk1 (zc pk1 (zc pk1 (zc pk1 (zc pk1 zn))))))) R (ae (wjm _ () (mtE t1) (su5 R R R R R) (zc pk1 (zc pk5 (zc pk5 (zc pk1 (zc pk1 (zc pk1 (zc pk1 zn)))))))))))))))))
 intro j1 _ hp
 obtain rfl : j1 = y1 := hp.symm
 refine wqt (wcO t0 R (fun h3 t0 => ?_) fun h3 t0 => ?_)
 refine wcr (wlq (v := .agg #[(sl x1.1), (sl x1.2.1), (sl x1.2.2.1), (sl x1.2.2.2.2), iv v1.Round, iv v1.Year]) (plb tk_29 pz R R R) R (wls (sbx (cs' := [(sl x1.1), (sl x1.2.1), (sl x1.2.2.1), (sl x1.2.2.2.2), iv v1.Round, iv v1.Year]) tk_29 pk1 R R R R R R R) (asg R R (wnt (wct (wqr ?_))))))
 obtain rfl := oi t0
 exact wq_retc1 R tk_29 R R pz R fun w hw => ⟨(x1.1, x1.2.1, x1.2.2.1, x1.2.2.2.1, x1.2.2.2.2), R, hw.weak (zc pk3 (zc pk3 (zc pk3 (zc pk3 zn))))⟩
 refine wck (wqt (wcr (wlq (pof fo_29_2 R) R (wlq (v := (sl v2a)) (plx tk_26 pk2 R R) R (mv R R (gdO t0 fun g2 t0 => (wlq (po_ixr (rga r2) el_26 R R g2.1 g2.2) R (wlq (po_sfldr (rga r2) (ix_lt g2) fo_45_2 R) R (wl_elem (rga r2) (ix_lt g2) ?_)))))))))
 rintro ⟨_, _, he2⟩
 obtain ⟨w2, hc2, _⟩ := rd_GEntry.1 he2
 refine wlq (v := .agg #[iv (((gx a_g.Entries ((a_k).toNat)).Block).Size), (sl w2)]) (po_ldns (rga r2) tk_43 R hc2 R R R) R (bdO t0 fun v6 hv6 t0 => (wlc (cz1 fa_11 R fun w hw => c_spec_AreaTable w ((gx a_g.Entries ((a_k).toNat)).Block) w2 (Rg.on (er_GEntry_0 hc2 (rga r2) (ix_lt g2)) hw) hv6) R fun x4 => (asg R R (wnt (wcs (wcr (asg R R (wnt (lpO_inv t0 fun y1 l1 t0 => (wj (J := List Int) (X := Unit) (fun z => y1 = z) (fun _ _ => [(4, ptr b2 0), (6, ptr b3 0)]) (fun z _ => [box b3 [(sl x1.1), (sl x1.2.1), (sl x1.2.2.1), (sl x1.2.2.2.2), iv v1.Round, iv v1.Year], box b2 [(sl hn), (sl hn), (sl hn), (sl hn), iv 0, iv 0], ownF (sl x1.1) v1.Members, ownF (sl x1.2.1) z, own (sl x1.2.2.1) x1.2.2.2.1 v1.Entries, ownF (sl x1.2.2.2.2) v1.Books]) ?_ ?_))))))))))
 refine wcb (wcf (X := Unit) l1 (fun k1 s1 x1l => [(2, ptr b1 0), (4, ptr b2 0), (6, ptr b3 0), (7, (sl x4)), (8, iv ((k1 : Nat) : Int))]) (fun k1 s1 x1l => [ownF (sl x4) v6, box b3 [(sl x1.1), (sl x1.2.1), (sl x1.2.2.1), (sl x1.2.2.2.2), iv v1.Round, iv v1.Year], box b2 [(sl hn), (sl hn), (sl hn), (sl hn), iv 0, iv 0], box b1 [(sl v0a), (sl v1a), (sl v2a), (sl v3a), iv a_g.Round, iv a_g.Year], ownF (sl x1.1) v1.Members, ownF (sl x1.2.1) s1, own (sl x1.2.2.1) x1.2.2.2.1 v1.Entries, ownF (sl x1.2.2.2.2) v1.Books]) () (su5 R R R R R) so8 fun k1 s1 x1l hN1 l1 => ?_)
 by_cases hk1 : k1 < 6
 refine fos l1 hk1 fun _ t1 l1 => ?_
 unfold spec_SewBlock_L1 at t1
 have c1 : (decide (((k1 : Nat) : Int) < 6)) = true := ddt (by omega)
 refine wcs (wcr (mv R R (wlq (pls R R) R (wnt (wft R c1 (wck (wqt (wcs (wcb (wcd [ownF (sl x4) v6, box b3 [(sl x1.1), (sl x1.2.1), (sl x1.2.2.1), (sl x1.2.2.2.2), iv v1.Round, iv v1.Year], box b2 [(sl hn), (sl hn), (sl hn), (sl hn), iv 0, iv 0], box b1 [(sl v0a), (sl v1a), (sl v2a), (sl v3a), iv a_g.Round, iv a_g.Year], ownF (sl x1.1) v1.Members, ownF (sl x1.2.1) s1, own (sl x1.2.2.1) x1.2.2.2.1 v1.Entries, ownF (sl x1.2.2.2.2) v1.Books] 14 mixed (aq 0 R (pof fo_29_1 R) so8 R (aq (v := (sl x1.2.1)) 1 R (plx tk_25 pk1 R R) so8 R (aq 2 R (pom R) so8 R (aq 3 R (pof fo_29_1 R) so8 R (aq (v := (sl v1a)) 4 R (plx tk_25 pk3 R R) so8 R (aq 5 R (pom R) so8 R (gdO t1 fun g3 t1 => (aq 6 R (po_ixn (k := k1) (rga r1) el_25 R R g3) so8 R (aq (v := iv (gx a_g.Stock k1)) 7 R (po_ldf (rga r1) tk_3 R g3 R) so8 R (aq 8 R (pom R) so8 R (aq 9 R (pom R) so8 R (gdO t1 fun g4 t1 => (aq 10 R (po_ixn (k := k1) (rgo pz) el_25 R R g4) so8 R (aq (v := iv (gx v6 k1)) 11 R (po_ldf (rgo pz) tk_3 R g4 R) so8 R (aq 12 R (po_sub R R) so8 R (gdO t1 fun g5 t1 => (aq 13 R (po_ixn (k := k1) (rgo pk5) el_25 R R g5) so8 R (a1 14 (ws_skipop R (so_own (x' := (wr ((gx a_g.Stock k1) - (gx v6 k1)))) tk_3 pk5 R R R R R R g5 R) (sts_past (by kernel_rfl)) ?_)))))))))))))))))))))))))))))
 refine ae (wqb (wqt (wcg (mv R R (wlq (po_inc R R (by omega)) R ?_)))))
 exact asg R R (wln (wq_rnd hk1 (stpN l1 t1) () (su5 R R R R R) (zc pk1 (zc pk1 (zc pk1 (zc pk1 (zc pk1 so3)))))))
 have c1 : (decide (((k1 : Nat) : Int) < 6)) = false := ddf (by omega)
 have en1 := foe l1 hk1
 exact wcs (wcr (mv R R (wlq (pls R R) R (wnt (wff R c1 (wcx (wqe (wqe (wbx (wjm _ () (Sum.inl.inj en1) (su2 R R) (zc pk1 (zc pk1 (zc pk2 (zc pk2 (zc pk2 (zc pk2 zn))))))))))))))))
 intro e1 _ hp
 obtain rfl : e1 = y1 := hp.symm
 refine wqt (wcr (wlq (v := .agg #[(sl x1.1), (sl x1.2.1), (sl x1.2.2.1), (sl x1.2.2.2.2), iv v1.Round, iv v1.Year]) (plb tk_29 pz R R R) R (wls (sbx (cs' := [(sl x1.1), (sl x1.2.1), (sl x1.2.2.1), (sl x1.2.2.2.2), iv v1.Round, iv v1.Year]) tk_29 pk1 R R R R R R R) (asg R R (wnt (wct ?_))))))
 obtain rfl := oi t0
 exact wq_retc1 R tk_29 R R pz R fun w hw => ⟨(x1.1, x1.2.1, x1.2.2.1, x1.2.2.2.1, x1.2.2.2.2), R, hw.weak (zc pk2 (zc pk2 (zc pk2 (zc pk2 zn))))⟩

theorem c_spec_NewYear (w : World) (a_g : GGuild) (v0a : Hd) (r0 : rdF w (dm w []) (sl v0a) a_g.Members) (v1a : Hd) (r1 : rdF w (dm w []) (sl v1a) a_g.Stock) (v2a : Hd) (u2a : List Value) (r2 : RdL w (dm w []) (sl v2a) u2a a_g.Entries) (v3a : Hd) (r3 : rdF w (dm w []) (sl v3a) a_g.Books) {r : GGuild × Bool} (t0 : spec_NewYear a_g = some r) : Calls Tryz.prog 36 #[.agg #[(sl v0a), (sl v1a), (sl v2a), (sl v3a), .int .i64 a_g.Round, .int .i64 a_g.Year]] w fun e w' => ∃ x : Hd × Hd × Hd × (List Value) × Hd, e = .returned (.tuple #[.agg #[(sl x.1), (sl x.2.1), (sl x.2.2.1), (sl x.2.2.2.2), .int .i64 r.1.Round, .int .i64 r.1.Year], .bool r.2]) ∧ SH w [] [ownF (sl x.1) r.1.Members, ownF (sl x.2.1) r.1.Stock, own (sl x.2.2.1) x.2.2.2.1 r.1.Entries, ownF (sl x.2.2.2.2) r.1.Books] w' := by
 refine cwc (args := [_]) Tryz.func36 R Tryz.ntmps36 R ?_
 unfold spec_NewYear at t0
 refine wcr (wle (eo_box R R) R fun b1 => (wle (eal (cs := [(sl hn), (sl hn), (sl hn), (sl hn), iv 0, iv 0]) za_29) R fun b2 => (asg R R (wnt (wcr (wlq (v := .agg #[(sl v0a), (sl v1a), (sl v2a), (sl v3a), iv a_g.Round, iv a_g.Year]) (plb tk_29 pk1 R R R) R (bdO t0 fun v1 hv1 t0 => (wlc (co_c4 fa_28 R fun w hw => c_spec_l38Copy w a_g v0a (ra r0 hw) v1a (ra r1 hw) v2a u2a (ra r2 hw) v3a (ra r3 hw) hv1) R fun x1 => (wle (eal (cs := [(sl hn), (sl hn), (sl hn), (sl hn), iv 0, iv 0]) za_29) R fun b3 => (wls (sbx (cs' := [(sl x1.1), (sl x1.2.1), (sl x1.2.2.1), (sl x1.2.2.2.2), iv v1.Round, iv v1.Year]) tk_29 pz R R R R R R R) (wnt (wcr (wlq (pof fo_29_4 R) R (wls (sbx (cs' := [(sl x1.1), (sl x1.2.1), (sl x1.2.2.1), (sl x1.2.2.2.2), iv 0, iv v1.Year]) tk_3 pz R R R R R R R) (wnt (wcr (wlq (pof fo_29_5 R) R (wlq (v := iv v1.Year) (plx tk_3 pz R R) R (wlq (po_add R R) R (wlq (pof fo_29_5 R) R (wls (sbx (cs' := [(sl x1.1), (sl x1.2.1), (sl x1.2.2.1), (sl x1.2.2.2.2), iv 0, iv (wr (v1.Year + 1))]) tk_3 pz R R R R R R R) (wnt (wcs (wcs (bdO t0 fun y1 t1 t0 => (wj (J := Bool) (X := Unit) (fun z => y1 = z) (fun z _ => [(1, ptr b1 0), (2, ptr b2 0), (4, ptr b3 0), (26, .bool z)]) (fun _ _ => [box b3 [(sl x1.1), (sl x1.2.1), (sl x1.2.2.1), (sl x1.2.2.2.2), iv 0, iv (wr (v1.Year + 1))], box b2 [(sl hn), (sl hn), (sl hn), (sl hn), iv 0, iv 0], box b1 [(sl v0a), (sl v1a), (sl v2a), (sl v3a), iv a_g.Round, iv a_g.Year], ownF (sl x1.1) v1.Members, ownF (sl x1.2.1) v1.Stock, own (sl x1.2.2.1) x1.2.2.2.1 v1.Entries, ownF (sl x1.2.2.2.2) v1.Books]) ?_ ?_))))))))))))))))))))))))))
 refine wcd [box b3 [(sl x1.1), (sl x1.2.1), (sl x1.2.2.1), (sl x1.2.2.2.2), iv 0, iv (wr (v1.Year + 1))], ownF (sl x1.1) v1.Members, ownF (sl x1.2.1) v1.Stock, own (sl x1.2.2.1) x1.2.2.2.1 v1.Entries, ownF (sl x1.2.2.2.2) v1.Books, box b2 [(sl hn), (sl hn), (sl hn), (sl hn), iv 0, iv 0], box b1 [(sl v0a), (sl v1a), (sl v2a), (sl v3a), iv a_g.Round, iv a_g.Year]] 15 mixed (aq (v := .agg #[(sl v0a), (sl v1a), (sl v2a), (sl v3a), iv a_g.Round, iv a_g.Year]) 0 R (plb tk_29 pk6 R R R) so7 R (a1 1 (bdO t1 fun v2 hv2 t1 => (wsc R (cz0 fa_29 R fun w hw => c_spec_GuildOk w a_g v0a (ra r0 hw) v1a (ra r1 hw) v2a u2a (ra r2 hw) v3a (ra r3 hw) hv2) (fun _ => (zt so7)) R fun _ => (aq 2 R (po_not R) so7 R (aq 3 R (pom R) so7 R (waO_ (t := 15) t1 R (fun h1 t1 => ?_) fun h1 t1 => ?_)))))))
 exact af 4 3 R R R R R so7 R (af 5 3 R R R R R so7 R (af 6 3 R R R R R so7 R (af 7 3 R R R R R so7 R (af 8 3 R R R R R so7 R (aq 9 R (pit R R) so7 R (aq 10 R (pom R) so7 R (af 11 10 R R R R R so7 R (af 12 10 R R R R R so7 R (af 13 10 R R R R R so7 R (aq 14 R (pit R R) so7 R (ae (wjm _ () (mtE t1) (su4 R R R R) (zc pz (zc pk4 (zc pk4 so4)))))))))))))))
 refine an 4 3 R R R R (pof fo_29_4 R) so7 R (an (v := iv a_g.Round) 5 3 R R R R (plx tk_3 pk6 R R) so7 R (an (v := .agg #[(sl v0a), (sl v1a), (sl v2a), (sl v3a), iv a_g.Round, iv a_g.Year]) 6 3 R R R R (plb tk_29 pk6 R R R) so7 R (a1 7 (bdO t1 fun v3 hv3 t1 => (ws_call_on (j := 3) R R R R (cz0 fa_75 R fun w hw => c_spec_SwapRounds w a_g v0a (ra r0 hw) v1a (ra r1 hw) v2a u2a (ra r2 hw) v3a (ra r3 hw) hv3) (fun _ => (zt so7)) R fun _ => (an 8 3 R R R R (pls R R) so7 R (aq 9 R (pif R R) so7 R (aq 10 R (pom R) so7 R (waO_ (t := 22) t1 R (fun h2 t1 => ?_) fun h2 t1 => ?_)))))))))
 exact af 11 10 R R R R R so7 R (af 12 10 R R R R R so7 R (af 13 10 R R R R R so7 R (aq 14 R (pit R R) so7 R (ae (wjm _ () (mtE t1) (su4 R R R R) (zc pz (zc pk4 (zc pk4 so4))))))))
 exact an (v := .agg #[(sl x1.1), (sl x1.2.1), (sl x1.2.2.1), (sl x1.2.2.2.2), iv 0, iv (wr (v1.Year + 1))]) 11 10 R R R R (plb tk_29 pz R R R) so7 R (a1 12 (bdO t1 fun v4 hv4 t1 => (ws_call_on (j := 10) R R R R (cz0 fa_29 R fun w hw => c_spec_GuildOk w (GGuild.mk v1.Members v1.Stock v1.Entries v1.Books 0 (wr (v1.Year + 1))) x1.1 (Rg.on (rgo pk1) hw) x1.2.1 (Rg.on (rgo pk2) hw) x1.2.2.1 x1.2.2.2.1 (Rg.on (rgo pk3) hw) x1.2.2.2.2 (Rg.on (rgo pk4) hw) hv4) (fun _ => (zt so7)) R fun _ => (an 13 10 R R R R (po_not R) so7 R (aq 14 R (pif R R) so7 R (ae (wjm _ () (mtE t1) (su4 R R R R) (zc pz (zc pk4 (zc pk4 so4))))))))))
 intro j1 _ hp
 obtain rfl : j1 = y1 := hp.symm
 refine wqt (wcO t0 R (fun h3 t0 => ?_) fun h3 t0 => ?_)
 refine wcr (wlq (v := .agg #[(sl v0a), (sl v1a), (sl v2a), (sl v3a), iv a_g.Round, iv a_g.Year]) (plb tk_29 pk2 R R R) R (bdO t0 fun v5 hv5 t0 => (wlc (co_c4 fa_28 R fun w hw => c_spec_l38Copy w a_g v0a (ra r0 hw) v1a (ra r1 hw) v2a u2a (ra r2 hw) v3a (ra r3 hw) hv5) R fun x3 => (wls (sbx (cs' := [(sl x3.1), (sl x3.2.1), (sl x3.2.2.1), (sl x3.2.2.2.2), iv v5.Round, iv v5.Year]) tk_29 pk5 R R R R R R R) (asg R R (wnt (wct (wqr ?_))))))))
 obtain rfl := oi t0
 exact wq_retc1 R tk_29 R R pz R fun w hw => ⟨(x3.1, x3.2.1, x3.2.2.1, x3.2.2.2.1, x3.2.2.2.2), R, hw.weak (zc pk1 (zc pk1 (zc pk1 (zc pk1 zn))))⟩
 refine wck (wqt (wcr (wlq (v := .agg #[(sl x1.1), (sl x1.2.1), (sl x1.2.2.1), (sl x1.2.2.2.2), iv 0, iv (wr (v1.Year + 1))]) (plb tk_29 pz R R R) R (wls (sbx (cs' := [(sl x1.1), (sl x1.2.1), (sl x1.2.2.1), (sl x1.2.2.2.2), iv 0, iv (wr (v1.Year + 1))]) tk_29 pk1 R R R R R R R) (asg R R (wnt (wct ?_)))))))
 obtain rfl := oi t0
 exact wq_retc1 R tk_29 R R pz R fun w hw => ⟨(x1.1, x1.2.1, x1.2.2.1, x1.2.2.2.1, x1.2.2.2.2), R, hw.weak (zc pk3 (zc pk3 (zc pk3 (zc pk3 zn))))⟩

theorem c_spec_LackOf (w : World) (a_stock : List Int) (v0a : Hd) (r0 : rdF w (dm w []) (sl v0a) a_stock) (a_need : List Int) (v1a : Hd) (r1 : rdF w (dm w []) (sl v1a) a_need) {r : List Int} (t0 : spec_LackOf a_stock a_need = some r) : Calls Tryz.prog 37 #[(sl v0a), (sl v1a)] w fun e w' => ∃ x : Hd, e = .returned ((sl x)) ∧ SH w [] [ownF (sl x) r] w' := by
 refine cwc (args := [_, _]) Tryz.func37 R Tryz.ntmps37 R ?_
 unfold spec_LackOf at t0
 refine wcr (asg R R (wnt (wcr (wle (ebs R sb_25_0) R fun b1 => (asg R R (wnt (wcs (wcr (asg R R (wnt (lpO_inv t0 fun y1 l1 t0 => (wj (J := List Int) (X := Hd) (fun z => y1 = z) (fun _ x => [(5, (sl x))]) (fun z x => [ownF (sl x) z]) ?_ ?_))))))))))))
 refine wcb (wcf (X := Hd) l1 (fun k1 s1 x1l => [(0, (sl v0a)), (1, (sl v1a)), (5, (sl x1l)), (6, iv ((k1 : Nat) : Int))]) (fun k1 s1 x1l => [ownF (sl x1l) s1]) (⟨some ⟨b1, 0, none⟩, 0, 0⟩ : Hd) (su4 R R R R) (zc (pbo pz (n := 0) (xs := ([] : List Int)) R R (by unfold maxLen; omega)) zn) fun k1 s1 x1l hN1 l1 => ?_)
 by_cases hk1 : k1 < 6
 refine fos l1 hk1 fun _ t1 l1 => ?_
 unfold spec_LackOf_L1 at t1
 have c1 : (decide (((k1 : Nat) : Int) < 6)) = true := ddt (by omega)
 refine wcs (wcs (bdO t1 fun y2 t2 t1 => (wj (J := Bool × Bool) (X := Unit) (fun z => y2 = z) (fun z _ => [(0, (sl v0a)), (1, (sl v1a)), (5, (sl x1l)), (6, iv ((k1 : Nat) : Int)), (11, (sl v0a)), (12, .bool z.1), (17, .bool z.2)]) (fun _ _ => [ownF (sl x1l) s1]) ?_ ?_)))
 refine wcg (mv R R (wlq (pls R R) R (mv R R (wl_know (t := 10) R c1 (wgn (j := 2) R R R (mv R R (bdO t2 fun v1 hv1 t2 => (wgn (j := 2) R R R (wlc (cz0 fa_72 R fun w hw => c_spec_StockOk w a_stock v0a (ra r0 hw) hv1) R (fun _ => (wlq (pit R R) R (mv R R (wlo (t := 14) t2 R (fun h1 t2 => ?_) fun h1 t2 => ?_)))))))))))))
 exact wgn (j := 6) R R R (mv R R (bdO t2 fun v2 hv2 t2 => (wgn (j := 6) R R R (wlc (cz0 fa_72 R fun w hw => c_spec_StockOk w a_need v1a (ra r1 hw) hv2) R (fun _ => (wlq (pit R R) R (wln (wjm _ () (mtE t2) (su7 R R R R R R R) so1))))))))
 exact wgf (j := 6) R R R R R (wgf (j := 6) R R R R R (wlq (pif R R) R (wln (wjm _ () (mtE t2) (su7 R R R R R R R) so1))))
 intro j1 _ hp
 obtain rfl : j1 = y2 := hp.symm
 refine wqt (wcO t1 R (fun h2 t1 => ?_) fun h2 t1 => ?_)
 refine wck (wqt (wcs (wcb (wcd [] 14 mixed (aq 0 R (pom R) zn R (aq 1 R (pom R) zn R (aq 2 R (pom R) zn R (gdO t1 fun g1 t1 => (aq 3 R (po_ixn (k := k1) (rga r1) el_25 R R g1) zn R (aq (v := iv (gx a_need k1)) 4 R (po_ldf (rga r1) tk_3 R g1 R) zn R (aq 5 R (pom R) zn R (aq 6 R (pom R) zn R (gdO t1 fun g2 t1 => (aq 7 R (po_ixn (k := k1) (rga r0) el_25 R R g2) zn R (aq (v := iv (gx a_stock k1)) 8 R (po_ldf (rga r0) tk_3 R g2 R) zn R (aq 9 R (po_sub R R) zn R (aq 10 R (po_max R R) zn R (a1 11 (wse R (ebs R (sb_25_1 (if (wr ((gx a_need k1) - (gx a_stock k1))) > 0 then (wr ((gx a_need k1) - (gx a_stock k1))) else 0))) (fun _ => (zt zn)) R fun b2 => (a1 12 (gdO t1 fun g3 t1 => (wse R (eo_append (xs := s1) (ys := ([(if (wr ((gx a_need k1) - (gx a_stock k1))) > 0 then (wr ((gx a_need k1) - (gx a_stock k1))) else 0)] : List Int)) ak_25 pk1 R R (slin_rd fun _ g => Rg.on (rgo (pbo pz (n := 1) (xs := ([(if (wr ((gx a_need k1) - (gx a_stock k1))) > 0 then (wr ((gx a_need k1) - (gx a_stock k1))) else 0)] : List Int)) R R (by unfold maxLen; omega))) g) g3) (fun _ => (zt zn)) R fun x3 => ?_))))))))))))))))))))))
 refine aq 13 R (po_assign R) zn R (ae (wqb (wqt (wcg (mv R R (wlq (po_inc R R (by omega)) R ?_))))))
 exact asg R R (wln (wq_rnd hk1 (stpN l1 t1) x3 (su4 R R R R) so1))
 exact wcx (wqe (wqe (wbx (wjm _ x1l (Sum.inl.inj (stpB l1 t1)) (su1 R) so1))))
 have c1 : (decide (((k1 : Nat) : Int) < 6)) = false := ddf (by omega)
 have en1 := foe l1 hk1
 exact wcs (wcr (mv R R (wlq (pls R R) R (mv R R (wl_know (t := 10) R c1 (wgf (j := 2) R R R R R (wgf (j := 2) R R R R R (wlq (pif R R) R (mv R R (wgf (j := 6) R R R R R (wgf (j := 6) R R R R R (wlq (pif R R) R (wnt (wff R R (wcx (wqe (wqe (wbx (wjm _ x1l (Sum.inl.inj en1) (su1 R) so1)))))))))))))))))))
 intro e1 x1 hp
 obtain rfl : e1 = y1 := hp.symm
 refine wqt (wcr (mv R R (asg R R (wnt (wct ?_)))))
 obtain rfl := oi t0
 exact wq1 R R fun w hw => ⟨x1, R, hw.weak so1⟩

theorem c_spec_l39Bool (w : World) (a_ok : Bool) {r : Int} (t0 : spec_l39Bool a_ok = some r) : Calls Tryz.prog 38 #[.bool a_ok] w fun e w' => e = .returned (.int .i64 r) ∧ SH w [] [] w' := by
 refine cwc (args := [_]) Tryz.func38 R Tryz.ntmps38 R ?_
 unfold spec_l39Bool at t0
 refine wcr (asg R R (wnt (wcs (wcr (mv R R (wnt (wcO t0 R (fun h1 t0 => ?_) fun h1 t0 => ?_)))))))
 refine wcr (asg R R (wnt (wct (wqr ?_))))
 obtain rfl := oi t0
 exact wq1 R R fun w hw => ⟨R, hw.weak zn⟩
 refine wck (wqt (wcr (asg R R (wnt (wct ?_)))))
 obtain rfl := oi t0
 exact wq1 R R fun w hw => ⟨R, hw.weak zn⟩

theorem c_spec_DoAct (w : World) (a_g : GGuild) (v0a : Hd) (r0 : rdF w (dm w []) (sl v0a) a_g.Members) (v1a : Hd) (r1 : rdF w (dm w []) (sl v1a) a_g.Stock) (v2a : Hd) (u2a : List Value) (r2 : RdL w (dm w []) (sl v2a) u2a a_g.Entries) (v3a : Hd) (r3 : rdF w (dm w []) (sl v3a) a_g.Books) (a_a : GAct) {r : GGuild × Int} (t0 : spec_DoAct a_g a_a = some r) : Calls Tryz.prog 8 #[.agg #[(sl v0a), (sl v1a), (sl v2a), (sl v3a), .int .i64 a_g.Round, .int .i64 a_g.Year], .agg #[.int .i64 a_a.Kind, .int .i64 a_a.A, .int .i64 a_a.B]] w fun e w' => ∃ x : Hd × Hd × Hd × (List Value) × Hd, e = .returned (.tuple #[.agg #[(sl x.1), (sl x.2.1), (sl x.2.2.1), (sl x.2.2.2.2), .int .i64 r.1.Round, .int .i64 r.1.Year], .int .i64 r.2]) ∧ SH w [] [ownF (sl x.1) r.1.Members, ownF (sl x.2.1) r.1.Stock, own (sl x.2.2.1) x.2.2.2.1 r.1.Entries, ownF (sl x.2.2.2.2) r.1.Books] w' := by
 refine cwc (args := [_, _]) Tryz.func8 R Tryz.ntmps8 R ?_
 unfold spec_DoAct at t0
 refine wcr (wle (eo_box R R) R fun b1 => (wle (eo_box R R) R fun b2 => (wle (eal (cs := [(sl hn), (sl hn), (sl hn), (sl hn), iv 0, iv 0]) za_29) R fun b3 => (asg R R (wnt (wcr (wlq (v := .agg #[(sl v0a), (sl v1a), (sl v2a), (sl v3a), iv a_g.Round, iv a_g.Year]) (plb tk_29 pk2 R R R) R (bdO t0 fun v1 hv1 t0 => (wlc (co_c4 fa_28 R fun w hw => c_spec_l38Copy w a_g v0a (ra r0 hw) v1a (ra r1 hw) v2a u2a (ra r2 hw) v3a (ra r3 hw) hv1) R fun x1 => (wle (eal (cs := [(sl hn), (sl hn), (sl hn), (sl hn), iv 0, iv 0]) za_29) R fun b4 => (wls (sbx (cs' := [(sl x1.1), (sl x1.2.1), (sl x1.2.2.1), (sl x1.2.2.2.2), iv v1.Round, iv v1.Year]) tk_29 pz R R R R R R R) (wnt (wcs (wcs (bdO t0 fun y1 t1 t0 => (wj (J := Bool) (X := Unit) (fun z => y1 = z) (fun z _ => [(2, ptr b1 0), (3, ptr b2 0), (4, ptr b3 0), (6, ptr b4 0), (21, .bool z)]) (fun _ _ => [box b4 [(sl x1.1), (sl x1.2.1), (sl x1.2.2.1), (sl x1.2.2.2.2), iv v1.Round, iv v1.Year], box b3 [(sl hn), (sl hn), (sl hn), (sl hn), iv 0, iv 0], box b2 [iv a_a.Kind, iv a_a.A, iv a_a.B], box b1 [(sl v0a), (sl v1a), (sl v2a), (sl v3a), iv a_g.Round, iv a_g.Year], ownF (sl x1.1) v1.Members, ownF (sl x1.2.1) v1.Stock, own (sl x1.2.2.1) x1.2.2.2.1 v1.Entries, ownF (sl x1.2.2.2.2) v1.Books]) ?_ ?_))))))))))))))))
 refine wcg (wlq (v := .agg #[(sl v0a), (sl v1a), (sl v2a), (sl v3a), iv a_g.Round, iv a_g.Year]) (plb tk_29 pk7 R R R) R (bdO t1 fun v2 hv2 t1 => (wlc (cz0 fa_29 R fun w hw => c_spec_GuildOk w a_g v0a (ra r0 hw) v1a (ra r1 hw) v2a u2a (ra r2 hw) v3a (ra r3 hw) hv2) R fun _ => (wlq (po_not R) R (mv R R (wlo (t := 17) t1 R (fun h1 t1 => ?_) fun h1 t1 => ?_))))))
 exact wgf (j := 3) R R R R R (wgf (j := 3) R R R R R (wgf (j := 3) R R R R R (wlq (pit R R) R (wln (wjm _ () (mtE t1) (su5 R R R R R) (zc pz (zc pk4 (zc pk4 (zc pk4 so4)))))))))
 exact wgn (j := 3) R R R (wlq (v := .agg #[iv a_a.Kind, iv a_a.A, iv a_a.B]) (plb tk_37 pk6 R R R) R (bdO t1 fun v3 hv3 t1 => (wgn (j := 3) R R R (wlc (cz0 fa_30 R fun w hw => c_spec_ActOk w a_a hv3) R (fun _ => (wgn (j := 3) R R R (wlq (po_not R) R (wlq (pif R R) R (wln (wjm _ () (mtE t1) (su5 R R R R R) (zc pz (zc pk4 (zc pk4 (zc pk4 so4))))))))))))))
 intro j1 _ hp
 obtain rfl : j1 = y1 := hp.symm
 refine wqt (wcO t0 R (fun h2 t0 => ?_) fun h2 t0 => ?_)
 refine wcr (wlq (v := .agg #[(sl x1.1), (sl x1.2.1), (sl x1.2.2.1), (sl x1.2.2.2.2), iv v1.Round, iv v1.Year]) (plb tk_29 pz R R R) R (wls (sbx (cs' := [(sl x1.1), (sl x1.2.1), (sl x1.2.2.1), (sl x1.2.2.2.2), iv v1.Round, iv v1.Year]) tk_29 pk1 R R R R R R R) (asg R R (wnt (wct (wqr ?_))))))
 obtain rfl := oi t0
 exact wq_retc1 R tk_29 R R pz R fun w hw => ⟨(x1.1, x1.2.1, x1.2.2.1, x1.2.2.2.1, x1.2.2.2.2), R, hw.weak (zc pk4 (zc pk4 (zc pk4 (zc pk4 zn))))⟩
 refine wck (wqt (wcr (asg R R (wnt (wcs (wcr (wlq (pof fo_37_0 R) R (wlq (v := iv a_a.Kind) (plx tk_3 pk2 R R) R (wnt (wcb (wcr (wlq (pol R R) R (asg R R (wnt (sqO t0 fun y1 t1 t0 => (wj (J := Bool × GGuild) (X := Hd × Hd × Hd × (List Value) × Hd) (fun z => y1 = .inl z) (fun z _ => [(4, ptr b3 0), (6, ptr b4 0), (7, .bool z.1)]) (fun z x => [box b4 [(sl x.1), (sl x.2.1), (sl x.2.2.1), (sl x.2.2.2.2), iv ((z.2).Round), iv ((z.2).Year)], box b3 [(sl hn), (sl hn), (sl hn), (sl hn), iv 0, iv 0], ownF (sl x.1) ((z.2).Members), ownF (sl x.2.1) ((z.2).Stock), own (sl x.2.2.1) x.2.2.2.1 ((z.2).Entries), ownF (sl x.2.2.2.2) ((z.2).Books)]) ?_ ?_))))))))))))))))
 refine wcO t1 R (fun h3 t1 => ?_) fun h3 t1 => ?_
 exact wcg (wlq (v := .agg #[(sl v0a), (sl v1a), (sl v2a), (sl v3a), iv a_g.Round, iv a_g.Year]) (plb tk_29 pk3 R R R) R (wlq (pof fo_37_1 R) R (wlq (v := iv a_a.A) (plx tk_3 pk2 R R) R (bdO t1 fun v4 hv4 t1 => (wlc (co_c4 fa_31 R fun w hw => c_spec_Admit w a_g v0a (ra r0 hw) v1a (ra r1 hw) v2a u2a (ra r2 hw) v3a (ra r3 hw) a_a.A hv4) R fun x4 => (mv R R (wlq (pex R R) R (wlq (pex R R) R (wls (sbx (cs' := [(sl x4.1), (sl x4.2.1), (sl x4.2.2.1), (sl x4.2.2.2.2), iv v4.1.Round, iv v4.1.Year]) tk_29 pk4 R R R R R R R) (asg R R (wln (wjm _ (x4.1, x4.2.1, x4.2.2.1, x4.2.2.2.1, x4.2.2.2.2) (mtE t1) (su3 R R R) (zc pz (zc pk4 so4))))))))))))))
 refine wcr (wlq (pol R R) R (asg R R (wnt (wcO t1 R (fun h4 t1 => ?_) fun h4 t1 => ?_))))
 refine wcr (asg R R (wnt (wcs (wcr (wlq (pof fo_29_2 R) R (wlq (v := (sl v2a)) (plx tk_26 pk3 R R) R (wlq (pln (rga r2) el_26 R) R (wlq (po_gtr R R) R (wnt (bdO t1 fun y2 t2 t1 => (wj (J := Int) (X := Unit) (fun z => y2 = z) (fun z _ => [(2, ptr b1 0), (3, ptr b2 0), (4, ptr b3 0), (6, ptr b4 0), (8, iv z)]) (fun _ _ => [box b4 [(sl x1.1), (sl x1.2.1), (sl x1.2.2.1), (sl x1.2.2.2.2), iv v1.Round, iv v1.Year], box b3 [(sl hn), (sl hn), (sl hn), (sl hn), iv 0, iv 0], box b2 [iv a_a.Kind, iv a_a.A, iv a_a.B], box b1 [(sl v0a), (sl v1a), (sl v2a), (sl v3a), iv a_g.Round, iv a_g.Year], ownF (sl x1.1) v1.Members, ownF (sl x1.2.1) v1.Stock, own (sl x1.2.2.1) x1.2.2.2.1 v1.Entries, ownF (sl x1.2.2.2.2) v1.Books]) ?_ ?_)))))))))))
 refine wcO t2 R (fun h5 t2 => ?_) fun h5 t2 => ?_
 refine wcg (wlq (pof fo_29_2 R) R (wlq (v := (sl v2a)) (plx tk_26 pk3 R R) R (wlq (pof fo_29_2 R) R (wlq (v := (sl v2a)) (plx tk_26 pk3 R R) R (wlq (pln (rga r2) el_26 R) R (wlq (po_sub R R) R (gdO t2 fun g1 t2 => (wlq (po_ixr (rga r2) el_26 R R g1.1 g1.2) R (wlq (po_sfldr (rga r2) (ix_lt g1) fo_45_1 R) R (wl_elem (rga r2) (ix_lt g1) ?_))))))))))
 rintro ⟨_, _, he1⟩
 obtain ⟨w1, hc1, _⟩ := rd_GEntry.1 he1
 exact wlq (v := iv ((gx a_g.Entries (((wr (((a_g.Entries.length : Nat) : Int) - 1))).toNat)).Day)) (po_ldn (rga r2) tk_3 R hc1 R) R (wlq (po_add R R) R (asg R R (wln (wjm _ () (mtE t2) (su5 R R R R R) so8))))
 exact wck (wjm _ () (mtE t2) (su5 R R R R R) so8)
 intro j3 _ hp
 obtain rfl : j3 = y2 := hp.symm
 exact wqt (wcd [box b3 [(sl hn), (sl hn), (sl hn), (sl hn), iv 0, iv 0], box b2 [iv a_a.Kind, iv a_a.A, iv a_a.B], box b1 [(sl v0a), (sl v1a), (sl v2a), (sl v3a), iv a_g.Round, iv a_g.Year], ownF (sl x1.1) v1.Members, ownF (sl x1.2.1) v1.Stock, own (sl x1.2.2.1) x1.2.2.2.1 v1.Entries, ownF (sl x1.2.2.2.2) v1.Books] 13 mixed (aq (v := .agg #[(sl v0a), (sl v1a), (sl v2a), (sl v3a), iv a_g.Round, iv a_g.Year]) 0 R (plb tk_29 pk2 R R R) (zc pk1 (zc pk1 (zc pk1 (zc pk1 (zc pk1 (zc pk1 (zc pk1 zn))))))) R (aq 1 R (pof fo_37_1 R) (zc pk1 (zc pk1 (zc pk1 (zc pk1 (zc pk1 (zc pk1 (zc pk1 zn))))))) R (aq (v := iv a_a.A) 2 R (plx tk_3 pk1 R R) (zc pk1 (zc pk1 (zc pk1 (zc pk1 (zc pk1 (zc pk1 (zc pk1 zn))))))) R (aq 3 R (pom R) (zc pk1 (zc pk1 (zc pk1 (zc pk1 (zc pk1 (zc pk1 (zc pk1 zn))))))) R (aq 4 R (pof fo_37_2 R) (zc pk1 (zc pk1 (zc pk1 (zc pk1 (zc pk1 (zc pk1 (zc pk1 zn))))))) R (aq (v := iv a_a.B) 5 R (plx tk_3 pk1 R R) (zc pk1 (zc pk1 (zc pk1 (zc pk1 (zc pk1 (zc pk1 (zc pk1 zn))))))) R (a1 6 (bdO t1 fun v5 hv5 t1 => (wsc R (cz1 fa_33 R fun w hw => c_spec_SampleBlock w a_a.B hv5) (fun _ => (zt (zc pk2 (zc pk2 (zc pk2 (zc pk2 (zc pk2 (zc pk2 (zc pk2 zn))))))))) R fun x6 => (a1 7 (bdO t1 fun v6 hv6 t1 => (wsc R (co_c4 fa_32 R fun w hw => c_spec_Submit w a_g v0a (ra r0 hw) v1a (ra r1 hw) v2a u2a (ra r2 hw) v3a (ra r3 hw) a_a.A j3 v5 x6 (Rg.on (rgo pz) hw) hv6) (fun _ => (zt (zc pk6 (zc pk6 (zc pk6 (zc pk6 (zc pk6 (zc pk6 (zc pk6 zn))))))))) R fun x7 => (aq 8 R (pom R) (zc pk6 (zc pk6 (zc pk6 (zc pk6 (zc pk6 (zc pk6 (zc pk6 zn))))))) R (aq 9 R (pex R R) (zc pk6 (zc pk6 (zc pk6 (zc pk6 (zc pk6 (zc pk6 (zc pk6 zn))))))) R (aq 10 R (pex R R) (zc pk6 (zc pk6 (zc pk6 (zc pk6 (zc pk6 (zc pk6 (zc pk6 zn))))))) R (a1 11 (ws_skipop R (sbx (cs' := [(sl x7.1), (sl x7.2.1), (sl x7.2.2.1), (sl x7.2.2.2.2), iv v6.1.Round, iv v6.1.Year]) tk_29 pk5 R R R R R R R) (zt (zc pk6 (zc pk6 (zc pk6 (zc pk6 (zc pk6 (zc pk6 (zc pk6 zn)))))))) (aq 12 R (po_assign R) (zc pk6 (zc pk6 (zc pk6 (zc pk6 (zc pk6 (zc pk6 (zc pk6 zn))))))) R (ae (wjm _ (x7.1, x7.2.1, x7.2.2.1, x7.2.2.2.1, x7.2.2.2.2) (mtE t1) (su3 R R R) (zc pz (zc pk5 so4)))))))))))))))))))))))
 refine wcr (wlq (pol R R) R (asg R R (wnt (wcO t1 R (fun h6 t1 => ?_) fun h6 t1 => ?_))))
 exact wcg (wlq (v := .agg #[(sl v0a), (sl v1a), (sl v2a), (sl v3a), iv a_g.Round, iv a_g.Year]) (plb tk_29 pk3 R R R) R (wlq (pof fo_37_1 R) R (wlq (v := iv a_a.A) (plx tk_3 pk2 R R) R (bdO t1 fun v7 hv7 t1 => (wlc (co_c4 fa_34 R fun w hw => c_spec_SewBlock w a_g v0a (ra r0 hw) v1a (ra r1 hw) v2a u2a (ra r2 hw) v3a (ra r3 hw) a_a.A hv7) R fun x8 => (mv R R (wlq (pex R R) R (wlq (pex R R) R (wls (sbx (cs' := [(sl x8.1), (sl x8.2.1), (sl x8.2.2.1), (sl x8.2.2.2.2), iv v7.1.Round, iv v7.1.Year]) tk_29 pk4 R R R R R R R) (asg R R (wln (wjm _ (x8.1, x8.2.1, x8.2.2.1, x8.2.2.2.1, x8.2.2.2.2) (mtE t1) (su3 R R R) (zc pz (zc pk4 so4))))))))))))))
 refine wcr (wlq (pol R R) R (asg R R (wnt (wcO t1 R (fun h7 t1 => ?_) fun h7 t1 => ?_))))
 exact wcg (wlq (v := .agg #[(sl v0a), (sl v1a), (sl v2a), (sl v3a), iv a_g.Round, iv a_g.Year]) (plb tk_29 pk3 R R R) R (bdO t1 fun v8 hv8 t1 => (wlc (co_c4 fa_35 R fun w hw => c_spec_SwapRound w a_g v0a (ra r0 hw) v1a (ra r1 hw) v2a u2a (ra r2 hw) v3a (ra r3 hw) hv8) R fun x9 => (mv R R (wlq (pex R R) R (wlq (pex R R) R (wls (sbx (cs' := [(sl x9.1), (sl x9.2.1), (sl x9.2.2.1), (sl x9.2.2.2.2), iv v8.1.Round, iv v8.1.Year]) tk_29 pk4 R R R R R R R) (asg R R (wln (wjm _ (x9.1, x9.2.1, x9.2.2.1, x9.2.2.2.1, x9.2.2.2.2) (mtE t1) (su3 R R R) (zc pz (zc pk4 so4))))))))))))
 refine wcr (wlq (pol R R) R (asg R R (wnt (wcO t1 R (fun h8 t1 => ?_) fun h8 t1 => ?_))))
 exact wcg (wlq (v := .agg #[(sl v0a), (sl v1a), (sl v2a), (sl v3a), iv a_g.Round, iv a_g.Year]) (plb tk_29 pk3 R R R) R (bdO t1 fun v9 hv9 t1 => (wlc (co_c4 fa_36 R fun w hw => c_spec_NewYear w a_g v0a (ra r0 hw) v1a (ra r1 hw) v2a u2a (ra r2 hw) v3a (ra r3 hw) hv9) R fun x10 => (mv R R (wlq (pex R R) R (wlq (pex R R) R (wls (sbx (cs' := [(sl x10.1), (sl x10.2.1), (sl x10.2.2.1), (sl x10.2.2.2.2), iv v9.1.Round, iv v9.1.Year]) tk_29 pk4 R R R R R R R) (asg R R (wln (wjm _ (x10.1, x10.2.1, x10.2.2.1, x10.2.2.2.1, x10.2.2.2.2) (mtE t1) (su3 R R R) (zc pz (zc pk4 so4))))))))))))
 refine wcr (wlq (pol R R) R (asg R R (wnt (wcO t1 R (fun h9 t1 => ?_) fun h9 t1 => ?_))))
 refine wcr (asg R R (wnt (wcs (wcr (wlq (pof fo_37_1 R) R (wlq (v := iv a_a.A) (plx tk_3 pk2 R R) R (wlq (pof fo_29_2 R) R (wlq (v := (sl v2a)) (plx tk_26 pk3 R R) R (wlq (pln (rga r2) el_26 R) R (wlq (pls R R) R (wnt (bdO t1 fun y2 t2 t1 => (wj (J := Int) (X := Unit) (fun z => y2 = z) (fun z _ => [(4, ptr b3 0), (6, ptr b4 0), (9, iv z)]) (fun _ _ => [box b4 [(sl x1.1), (sl x1.2.1), (sl x1.2.2.1), (sl x1.2.2.2.2), iv v1.Round, iv v1.Year], box b3 [(sl hn), (sl hn), (sl hn), (sl hn), iv 0, iv 0], ownF (sl x1.1) v1.Members, ownF (sl x1.2.1) v1.Stock, own (sl x1.2.2.1) x1.2.2.2.1 v1.Entries, ownF (sl x1.2.2.2.2) v1.Books]) ?_ ?_)))))))))))))
 refine wcO t2 R (fun h10 t2 => ?_) fun h10 t2 => ?_
 refine wcs (wcd [box b4 [(sl x1.1), (sl x1.2.1), (sl x1.2.2.1), (sl x1.2.2.2.2), iv v1.Round, iv v1.Year], box b3 [(sl hn), (sl hn), (sl hn), (sl hn), iv 0, iv 0], box b2 [iv a_a.Kind, iv a_a.A, iv a_a.B], box b1 [(sl v0a), (sl v1a), (sl v2a), (sl v3a), iv a_g.Round, iv a_g.Year], ownF (sl x1.1) v1.Members, ownF (sl x1.2.1) v1.Stock, own (sl x1.2.2.1) x1.2.2.2.1 v1.Entries, ownF (sl x1.2.2.2.2) v1.Books] 12 mixed (aq 0 R (pof fo_29_1 R) so8 R (aq (v := (sl v1a)) 1 R (plx tk_25 pk3 R R) so8 R (aq 2 R (pof fo_29_2 R) so8 R (aq (v := (sl v2a)) 3 R (plx tk_26 pk3 R R) so8 R (aq 4 R (pof fo_37_1 R) so8 R (aq (v := iv a_a.A) 5 R (plx tk_3 pk2 R R) so8 R (gdO t2 fun g2 t2 => (aq 6 R (po_ixr (rga r2) el_26 R R g2.1 g2.2) so8 R (aq 7 R (po_sfldr (rga r2) (ix_lt g2) fo_45_2 R) so8 R (wa_elem (rga r2) (ix_lt g2) ?_)))))))))))
 rintro ⟨_, _, he2⟩
 obtain ⟨w2, hc2, _⟩ := rd_GEntry.1 he2
 refine aq (v := .agg #[iv (((gx a_g.Entries ((a_a.A).toNat)).Block).Size), (sl w2)]) 8 R (po_ldns (rga r2) tk_43 R hc2 R R R) so8 R (a1 9 (bdO t2 fun v10 hv10 t2 => (wsc R (cz1 fa_11 R fun w hw => c_spec_AreaTable w ((gx a_g.Entries ((a_a.A).toNat)).Block) w2 (Rg.on (er_GEntry_0 hc2 (rga r2) (ix_lt g2)) hw) hv10) (fun _ => (zt (zc pk1 (zc pk1 (zc pk1 (zc pk1 (zc pk1 (zc pk1 (zc pk1 (zc pk1 zn)))))))))) R fun x12 => (a1 10 (bdO t2 fun v11 hv11 t2 => (wsc R (cz1 fa_37 R fun w hw => c_spec_LackOf w a_g.Stock v1a (ra r1 hw) v10 x12 (Rg.on (rgo pz) hw) hv11) (fun _ => (zt (zc pk2 (zc pk2 (zc pk2 (zc pk2 (zc pk2 (zc pk2 (zc pk2 (zc pk2 zn)))))))))) R fun x13 => (aq 11 R (po_assign R) (zc pk2 (zc pk2 (zc pk2 (zc pk2 (zc pk2 (zc pk2 (zc pk2 (zc pk2 zn)))))))) R (ae (wqt (wcr (asg R R (wnt (gdO t2 fun g3 t2 => (lpO_inv t2 fun y3 l3 t2 => (wj (J := Int) (X := Unit) (fun z => y3 = z) (fun z _ => [(4, ptr b3 0), (6, ptr b4 0), (9, iv z)]) (fun _ _ => [box b4 [(sl x1.1), (sl x1.2.1), (sl x1.2.2.1), (sl x1.2.2.2.2), iv v1.Round, iv v1.Year], box b3 [(sl hn), (sl hn), (sl hn), (sl hn), iv 0, iv 0], ownF (sl x1.1) v1.Members, ownF (sl x1.2.1) v1.Stock, own (sl x1.2.2.1) x1.2.2.2.1 v1.Entries, ownF (sl x1.2.2.2.2) v1.Books]) ?_ ?_)))))))))))))))
 refine wcb (wcf (X := Unit) l3 (fun k1 s1 x1l => [(4, ptr b3 0), (6, ptr b4 0), (9, iv s1), (10, (sl x13)), (11, iv ((k1 : Nat) : Int))]) (fun k1 s1 x1l => [ownF (sl x13) v11, box b4 [(sl x1.1), (sl x1.2.1), (sl x1.2.2.1), (sl x1.2.2.2.2), iv v1.Round, iv v1.Year], box b3 [(sl hn), (sl hn), (sl hn), (sl hn), iv 0, iv 0], ownF (sl x1.1) v1.Members, ownF (sl x1.2.1) v1.Stock, own (sl x1.2.2.1) x1.2.2.2.1 v1.Entries, ownF (sl x1.2.2.2.2) v1.Books]) () (su5 R R R R R) (zc pz (zc pk1 (zc pk1 (zc pk3 (zc pk3 (zc pk3 (zc pk3 zn))))))) fun k1 s1 x1l hN1 l3 => ?_)
 by_cases hk1 : k1 < v11.length
 refine fos l3 hk1 fun _ t3 l3 => ?_
 unfold spec_DoAct_L1 at t3
 have c1 : (decide (((k1 : Nat) : Int) < ((v11.length : Nat) : Int))) = true := ddt (by omega)
 refine wcs (wcr (mv R R (mv R R (wlq (pln (rgo pz) el_25 R) R (wlq (pls R R) R (wnt (wft R c1 (wck (wqt (wcs (wcb (wcg (mv R R (mv R R (mv R R (wlq (po_ixn (k := k1) (rgo pz) el_25 R R hk1) R (wlq (v := iv (gx v11 k1)) (po_ldf (rgo pz) tk_3 R hk1 R) R (wlq (po_add R R) R (asg R R (wln (wqb (wqt (wcg (mv R R (wlq (po_inc R R (by omega)) R ?_)))))))))))))))))))))))))
 exact asg R R (wln (wq_rnd hk1 (stpN l3 t3) () (su5 R R R R R) so7))
 have c1 : (decide (((k1 : Nat) : Int) < ((v11.length : Nat) : Int))) = false := ddf (by omega)
 have en1 := foe l3 hk1
 exact wcs (wcr (mv R R (mv R R (wlq (pln (rgo pz) el_25 R) R (wlq (pls R R) R (wnt (wff R c1 (wcx (wqe (wqe (wbx (wjm _ () (Sum.inl.inj en1) (su3 R R R) (zc pk1 (zc pk1 (zc pk1 (zc pk1 (zc pk1 (zc pk1 zn))))))))))))))))))
 intro e1 _ hp
 obtain rfl : e1 = y3 := hp.symm
 exact wjm _ () (mtE t2) (su3 R R R) so6
 exact wck (wjm _ () (mtE t2) (su3 R R R) (zc pz (zc pz (zc pk2 (zc pk2 (zc pk2 (zc pk2 zn)))))))
 intro j4 _ hp
 obtain rfl : j4 = y2 := hp.symm
 refine wqt (wcr (wlq (v := .agg #[(sl x1.1), (sl x1.2.1), (sl x1.2.2.1), (sl x1.2.2.2.2), iv v1.Round, iv v1.Year]) (plb tk_29 pz R R R) R (mv R R (wls (sbx (cs' := [(sl x1.1), (sl x1.2.1), (sl x1.2.2.1), (sl x1.2.2.2.2), iv v1.Round, iv v1.Year]) tk_29 pk1 R R R R R R R) (asg R R (wnt (wct (wqr (wbr (wqr ?_))))))))))
 replace t0 := sqR t0 t1
 obtain rfl := oi t0
 exact wq_retc1 R tk_29 R R pz R fun w hw => ⟨(x1.1, x1.2.1, x1.2.2.1, x1.2.2.2.1, x1.2.2.2.2), R, hw.weak (zc pk2 (zc pk2 (zc pk2 (zc pk2 zn))))⟩
 exact wck (wjm _ (x1.1, x1.2.1, x1.2.2.1, x1.2.2.2.1, x1.2.2.2.2) (mtE t1) (su3 R R R) (zc pz (zc pz (zc pk2 (zc pk2 (zc pk2 (zc pk2 zn)))))))
 intro j2 x3 hp
 replace t0 := sqE (j := j2) t0 hp
 refine wqb (wqt (wcs (wcd [box b4 [(sl x3.1), (sl x3.2.1), (sl x3.2.2.1), (sl x3.2.2.2.2), iv ((j2.2).Round), iv ((j2.2).Year)], ownF (sl x3.1) ((j2.2).Members), ownF (sl x3.2.1) ((j2.2).Stock), own (sl x3.2.2.1) x3.2.2.2.1 ((j2.2).Entries), ownF (sl x3.2.2.2.2) ((j2.2).Books)] 5 mixed (aq (v := .agg #[(sl x3.1), (sl x3.2.1), (sl x3.2.2.1), (sl x3.2.2.2.2), iv ((j2.2).Round), iv ((j2.2).Year)]) 0 R (plb tk_29 pz R R R) (zc pz (zc pk1 (zc pk1 (zc pk1 (zc pk1 zn))))) R (aq 1 R (pom R) (zc pz (zc pk1 (zc pk1 (zc pk1 (zc pk1 zn))))) R (a1 2 (bdO t0 fun v12 hv12 t0 => (wsc R (cz0 fa_38 R fun w hw => c_spec_l39Bool w j2.1 hv12) (fun _ => (zt (zc pz (zc pk1 (zc pk1 (zc pk1 (zc pk1 zn))))))) R fun _ => (a1 3 (ws_skipop R (sbx (cs' := [(sl x3.1), (sl x3.2.1), (sl x3.2.2.1), (sl x3.2.2.2.2), iv ((j2.2).Round), iv ((j2.2).Year)]) tk_29 pk1 R R R R R R R) (zt (zc pk1 (zc pk1 (zc pk1 (zc pk1 (zc pk1 zn)))))) (aq 4 R (po_assign R) (zc pk1 (zc pk1 (zc pk1 (zc pk1 (zc pk1 zn))))) R (ae (wqt (wct ?_))))))))))))))
 obtain rfl := oi t0
 exact wq_retc1 R tk_29 R R pz R fun w hw => ⟨(x3.1, x3.2.1, x3.2.2.1, x3.2.2.2.1, x3.2.2.2.2), R, hw.weak (zc pk2 (zc pk2 (zc pk2 (zc pk2 zn))))⟩

theorem c_laws_sameInts (w : World) (a_a : List Int) (v0a : Hd) (r0 : rdF w (dm w []) (sl v0a) a_a) (a_b : List Int) (v1a : Hd) (r1 : rdF w (dm w []) (sl v1a) a_b) {r : Bool} (t0 : laws_sameInts a_a a_b = some r) : Calls Tryz.prog 10 #[(sl v0a), (sl v1a)] w fun e w' => e = .returned (.bool r) ∧ SH w [] [] w' := by
 refine cwc (args := [_, _]) Tryz.func10 R Tryz.ntmps10 R ?_
 unfold laws_sameInts at t0
 refine wcr (asg R R (wnt (wcs (wcr (mv R R (wlq (pln (rga r0) el_25 R) R (mv R R (wlq (pln (rga r1) el_25 R) R (wlq (po_neq R R) R (wnt (wcO t0 R (fun h1 t0 => ?_) fun h1 t0 => ?_)))))))))))
 refine wcr (asg R R (wnt (wct (wqr ?_))))
 obtain rfl := oi t0
 exact wq1 R R fun w hw => ⟨R, hw.weak zn⟩
 refine wck (wqt (wcs (wcr (asg R R (wnt (gdO t0 fun g1 t0 => (sqO t0 fun y1 l1 t0 => (wj (J := Unit) (X := Unit) (fun z => y1 = .inl z) (fun _ _ => []) (fun _ _ => []) ?_ ?_))))))))
 refine wcb (wcf (X := Unit) l1 (fun k1 s1 x1l => [(0, (sl v0a)), (1, (sl v1a)), (5, iv ((k1 : Nat) : Int))]) (fun k1 s1 x1l => []) () (su3 R R R) zn fun k1 s1 x1l hN1 l1 => ?_)
 by_cases hk1 : k1 < a_a.length
 refine fos l1 hk1 fun _ t1 l1 => ?_
 unfold laws_sameInts_L1 at t1
 have c1 : (decide (((k1 : Nat) : Int) < ((a_a.length : Nat) : Int))) = true := ddt (by omega)
 refine wcs (wcr (mv R R (mv R R (wlq (pln (rga r0) el_25 R) R (wlq (pls R R) R (wnt (wft R c1 (wck (wqt (wcs (wcb (wcs (wcd [] 9 mixed (aq 0 R (pom R) zn R (aq 1 R (pom R) zn R (aq 2 R (po_ixn (k := k1) (rga r0) el_25 R R hk1) zn R (aq (v := iv (gx a_a k1)) 3 R (po_ldf (rga r0) tk_3 R hk1 R) zn R (aq 4 R (pom R) zn R (aq 5 R (pom R) zn R (gdO t1 fun g2 t1 => (aq 6 R (po_ixn (k := k1) (rga r1) el_25 R R g2) zn R (aq (v := iv (gx a_b k1)) 7 R (po_ldf (rga r1) tk_3 R g2 R) zn R (aq 8 R (po_neq R R) zn R (ae (wqt (wcO t1 R (fun h2 t1 => ?_) fun h2 t1 => ?_))))))))))))))))))))))))))
 refine wcr (asg R R (wnt (wct (wbr (wqr (wqr (wbr (wqr (wqr ?_)))))))))
 replace t0 := lpR t0 l1 t1
 obtain rfl := oi t0
 exact wq1 R R fun w hw => ⟨R, hw.weak zn⟩
 refine wck (wqb (wqt (wcg (mv R R (wlq (po_inc R R (by omega)) R ?_)))))
 exact asg R R (wln (wq_rnd hk1 (stpN l1 t1) () (su3 R R R) zn))
 have c1 : (decide (((k1 : Nat) : Int) < ((a_a.length : Nat) : Int))) = false := ddf (by omega)
 have en1 := foe l1 hk1
 exact wcs (wcr (mv R R (mv R R (wlq (pln (rga r0) el_25 R) R (wlq (pls R R) R (wnt (wff R c1 (wcx (wqe (wqe (wbx (wjm _ () en1 yn zn))))))))))))
 intro e1 _ hp
 replace t0 := sqE (j := e1) t0 hp
 refine wqt (wcr (asg R R (wnt (wct ?_))))
 obtain rfl := oi t0
 exact wq1 R R fun w hw => ⟨R, hw.weak zn⟩

theorem c_impl_BalanceOf (w : World) (a_list : List GBooking) (v0a : Hd) (r0 : rdF w (dm w []) (sl v0a) a_list) (a_account : Int) {r : Int} (t0 : impl_BalanceOf a_list a_account = some r) : Calls Tryz.prog 13 #[(sl v0a), .int .i64 a_account] w fun e w' => e = .returned (.int .i64 r) ∧ SH w [] [] w' := by
 refine cwc (args := [_, _]) Tryz.func13 R Tryz.ntmps13 R ?_
 unfold impl_BalanceOf at t0
 refine wcr (asg R R (wnt (wcs (wcr (mv R R (bdO t0 fun v1 hv1 t0 => (wlc (cz0 fa_41 R fun w hw => c_impl_LedgerOk w a_list v0a (ra r0 hw) hv1) R fun _ => (wlq (po_not R) R (wnt (wcO t0 R (fun h1 t0 => ?_) fun h1 t0 => ?_))))))))))
 refine wcr (asg R R (wnt (wct (wqr ?_))))
 obtain rfl := oi t0
 exact wq1 R R fun w hw => ⟨R, hw.weak zn⟩
 refine wck (wqt (wcr (asg R R (wnt (wcs (wcr (mv R R (wlq (pln (rga r0) el_27 R) R (mv R R (wnt (gdO t0 fun g1 t0 => (lpO_inv t0 fun y1 l1 t0 => (wj (J := Int) (X := Unit) (fun z => y1 = z) (fun z _ => [(5, iv z)]) (fun _ _ => []) ?_ ?_)))))))))))))
 refine wcb (wcf (X := Unit) l1 (fun k1 s1 x1l => [(1, iv a_account), (5, iv s1), (11, (sl v0a)), (12, iv ((a_list.length : Nat) : Int)), (13, iv ((k1 : Nat) : Int))]) (fun k1 s1 x1l => []) () (su5 R R R R R) zn fun k1 s1 x1l hN1 l1 => ?_)
 by_cases hk1 : k1 < a_list.length
 refine fos l1 hk1 fun _ t1 l1 => ?_
 unfold impl_BalanceOf_L1 at t1
 have c1 : (decide (((k1 : Nat) : Int) < ((a_list.length : Nat) : Int))) = true := ddt (by omega)
 refine wcr (wlq (pls R R) R (wnt (wcs (wft R c1 (wck (wqt (wcs (wcb (wcr (wlq (po_ixn (k := k1) (rga r0) el_27 R R hk1) R (wlq (v := .agg #[iv ((gx a_list k1).Day), iv ((gx a_list k1).From), iv ((gx a_list k1).To), iv ((gx a_list k1).Sum)]) (po_ldfs (rga r0) tk_54 R hk1 R R R) R (wle (eal (cs := [iv 0, iv 0, iv 0, iv 0]) za_54) R fun b1 => (wls (sbx (cs' := [iv ((gx a_list k1).Day), iv ((gx a_list k1).From), iv ((gx a_list k1).To), iv ((gx a_list k1).Sum)]) tk_54 pz R R R R R R R) (wnt (wcs (wcr (wlq (pof fo_54_2 R) R (wlq (v := iv ((gx a_list k1).To)) (plx tk_3 pz R R) R (mv R R (wlq (pol R R) R (wnt (wcj (X := Unit) (fun _ => True) (fun _ => [(1, iv a_account), (5, iv (bif ((gx a_list k1).To == a_account) then (wr (s1 + (gx a_list k1).Sum)) else s1)), (7, ptr b1 0), (11, (sl v0a)), (12, iv ((a_list.length : Nat) : Int)), (13, iv ((k1 : Nat) : Int))]) (fun _ => [box b1 [iv ((gx a_list k1).Day), iv ((gx a_list k1).From), iv ((gx a_list k1).To), iv ((gx a_list k1).Sum)]]) ?_ ?_))))))))))))))))))))))
 refine wc_cond R (fun h2 => ?_) fun h2 => ?_
 exact wcg (mv R R (wlq (pof fo_54_3 R) R (wlq (v := iv ((gx a_list k1).Sum)) (plx tk_3 pz R R) R (wlq (po_add R R) R (asg R R (wln (wqm () trivial (yc R (sub_i R (by simp only [h2, cond_true]) (su4 R R R R))) so1)))))))
 exact wck (wqm () trivial (yc R (sub_i R (by simp only [h2, cond_false]) (su4 R R R R))) so1)
 intro _ _
 refine wqt (wcr (wlq (pof fo_54_1 R) R (wlq (v := iv ((gx a_list k1).From)) (plx tk_3 pz R R) R (mv R R (wlq (pol R R) R (wnt (wcj (X := Unit) (fun _ => True) (fun _ => [(1, iv a_account), (5, iv (bif ((gx a_list k1).From == a_account) then (wr ((bif ((gx a_list k1).To == a_account) then (wr (s1 + (gx a_list k1).Sum)) else s1) - (gx a_list k1).Sum)) else (bif ((gx a_list k1).To == a_account) then (wr (s1 + (gx a_list k1).Sum)) else s1))), (11, (sl v0a)), (12, iv ((a_list.length : Nat) : Int)), (13, iv ((k1 : Nat) : Int))]) (fun _ => []) ?_ ?_)))))))
 refine wc_cond R (fun h3 => ?_) fun h3 => ?_
 exact wcg (mv R R (wlq (pof fo_54_3 R) R (wlq (v := iv ((gx a_list k1).Sum)) (plx tk_3 pz R R) R (wlq (po_sub R R) R (asg R R (wln (wqm () trivial (yc R (sub_i R (by simp only [h3, cond_true]) (su3 R R R))) zn)))))))
 exact wck (wqm () trivial (yc R (sub_i R (by simp only [h3, cond_false]) (su3 R R R))) zn)
 intro _ _
 refine wqb (wqt (wcg (wlq (po_inc R R (by omega)) R ?_)))
 exact mv R R (wln (wq_rnd hk1 (stpN l1 t1) () (su5 R R R R R) zn))
 have c1 : (decide (((k1 : Nat) : Int) < ((a_list.length : Nat) : Int))) = false := ddf (by omega)
 have en1 := foe l1 hk1
 exact wcr (wlq (pls R R) R (wnt (wcs (wff R c1 (wcx (wqe (wqe (wbx (wjm _ () (Sum.inl.inj en1) (su1 R) zn)))))))))
 intro e1 _ hp
 obtain rfl : e1 = y1 := hp.symm
 refine wqt (wcr (mv R R (asg R R (wnt (wct ?_)))))
 obtain rfl := oi t0
 exact wq1 R R fun w hw => ⟨R, hw.weak zn⟩

end Go.Proofs.YtgbcpjffnkiabaeGreatDoor
