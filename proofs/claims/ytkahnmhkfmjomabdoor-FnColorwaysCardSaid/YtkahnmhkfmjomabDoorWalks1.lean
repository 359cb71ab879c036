/-
 Each Go function computes its Lean function (part 1).
-/
import Derived.Test.YtkahnmhkfmjomabDoorLibs
namespace Go.Proofs.YtkahnmhkfmjomabDoor
open Go Go.RowKit Go.Proofs
set_option maxRecDepth 100000

theorem c_laws_big (w : World) (a_code : List UInt8) (v0a : Hd) (r0 : rdF w (dm w []) (sl v0a) a_code) {r : Bool} (t0 : laws_big a_code = some r) : Calls Tryd.prog 4 #[(sl v0a)] w fun e w' => e = .returned (.bool r) ∧ SH w [] [] w' := by
 refine cwc (args := [_]) Tryd.func4 R Tryd.ntmps4 R ?_
 unfold laws_big at t0
 refine wcr (asg R R (wnt (wcr (mv R R (wlq (pln (rga r0) el_22 R) R (wlq (po_gtr R R) R (asg R R (wnt (wct ?_)))))))))
 obtain rfl := oi t0
 exact wq1 R R fun w hw => ⟨R, hw.weak zn⟩

theorem c_spec_l01New (w : World) (a_code : List UInt8) (v0a : Hd) (r0 : rdF w (dm w []) (sl v0a) a_code) {r : Int × Int} (t0 : spec_l01New a_code = some r) : Calls Tryd.prog 18 #[(sl v0a)] w fun e w' => ∃ x : Nat, e = .returned (ptr x 0) ∧ SH w [] [box x [(sl v0a), .int .i64 r.1, .int .i64 r.2]] w' := by
 refine cwc (args := [_]) Tryd.func18 R Tryd.ntmps18 R ?_
 unfold spec_l01New at t0
 refine wcr (asg R R (wnt (wcr (mv R R (wlq (pln (rga r0) el_22 R) R (wlq (po_add R R) R (asg R R (wnt (wcs (wcr (asg R R (wnt (gdO t0 fun g1 t0 => (lpO_inv t0 fun y1 l1 t0 => (wj (J := Int) (X := Unit) (fun z => y1 = z) (fun z _ => [(0, (sl v0a)), (3, iv z)]) (fun _ _ => []) ?_ ?_)))))))))))))))
 refine wcb (wcf (X := Unit) l1 (fun k1 s1 x1l => [(0, (sl v0a)), (3, iv s1), (4, iv ((k1 : Nat) : Int))]) (fun k1 s1 x1l => []) () (su3 R R R) zn fun k1 s1 x1l hN1 l1 => ?_)
 by_cases hk1 : k1 < a_code.length
 refine fos l1 hk1 fun _ t1 l1 => ?_
 unfold spec_l01New_L1 at t1
 have c1 : (decide (((k1 : Nat) : Int) < ((a_code.length : Nat) : Int))) = true := ddt (by omega)
 refine wcs (wcr (mv R R (mv R R (wlq (pln (rga r0) el_22 R) R (wlq (pls R R) R (mv R R (wl_know (t := 12) R c1 (wgn (j := 4) R R R (mv R R (wgn (j := 4) R R R (wlq (pls R R) R (wlq (pit R R) R (wnt (wcO t1 R (fun h1 t1 => ?_) fun h1 t1 => ?_))))))))))))))
 refine wck (wqt (wcs (wcb (wcg (mv R R (wlq (po_mul R R) R (mv R R (mv R R (wlq (po_ixn (k := k1) (rga r0) el_22 R R hk1) R (wlq (v := .int .u8 ((gx a_code k1).toNat : Int)) (po_ldf (rga r0) tk_5 R hk1 R) R (wlq (po_u8int isU8_5 isInt_3 R) R (wlq (po_add R R) R (wlq (po_add R R) R (wlq (po_and R R) R (asg R R (wln (wqb (wqt (wcg (mv R R (wlq (po_inc R R (by omega)) R ?_)))))))))))))))))))))
 exact asg R R (wln (wq_rnd hk1 (stpN l1 t1) () (su3 R R R) zn))
 exact wcx (wqe (wqe (wbx (wjm _ () (Sum.inl.inj (stpB l1 t1)) (su2 R R) zn))))
 have c1 : (decide (((k1 : Nat) : Int) < ((a_code.length : Nat) : Int))) = false := ddf (by omega)
 have en1 := foe l1 hk1
 exact wcs (wcr (mv R R (mv R R (wlq (pln (rga r0) el_22 R) R (wlq (pls R R) R (mv R R (wl_know (t := 12) R c1 (wgf (j := 4) R R R R R (wgf (j := 4) R R R R R (wlq (pif R R) R (wnt (wff R R (wcx (wqe (wqe (wbx (wjm _ () (Sum.inl.inj en1) (su2 R R) zn)))))))))))))))))
 intro e1 _ hp
 obtain rfl : e1 = y1 := hp.symm
 refine wqt (wcr (mv R R (mv R R (wlq (po_build R (bd_56_0_2 v0a e1)) R (wle (eo_box R R) R fun b1 => (asg R R (wnt (wct ?_))))))))
 obtain rfl := oi t0
 exact wq1 R R fun w hw => ⟨b1, R, hw.weak so1⟩

theorem c_spec_l01Byte (w : World) (fp : List Nat) (b0p : Nat) (a_c0 : List UInt8) (v0a : Hd) (r0 : rdF w (dm w fp) (sl v0a) a_c0) (a_c1 : Int) (a_c2 : Int) (o : Ow w [box b0p [(sl v0a), .int .i64 a_c1, .int .i64 a_c2]] fp) {r : Int × Int × Int} (t0 : spec_l01Byte a_c0 a_c1 a_c2 = some r) : Calls Tryd.prog 49 #[ptr b0p 0] w fun e w' => ∃ _x : Unit, e = .returned (.int .i64 r.1) ∧ SH w fp [box b0p [(sl v0a), .int .i64 r.2.1, .int .i64 r.2.2]] w' := by
 refine calls_of_wc_own (args := [_]) o Tryd.func49 R Tryd.ntmps49 R ?_
 unfold spec_l01Byte at t0
 refine wcr (asg R R (wnt (wcr (mv R R (mv R R (wlq (po_nilCheck R) R (wlq (pof fo_56_2 R) R (wlq (v := iv a_c2) (plx tk_3 pz R R) R (wlq (po_mul R R) R (wlq (po_add R R) R (wlq (po_nilCheck R) R (wlq (pof fo_56_2 R) R (wls (sbx (cs' := [(sl v0a), iv a_c1, iv (wr ((wr (a_c2 * 6364136223846793005)) + 1442695040888963407))]) tk_3 pz R R R R R R R) (wnt (wcs (wcd [box b0p [(sl v0a), iv a_c1, iv (wr ((wr (a_c2 * 6364136223846793005)) + 1442695040888963407))]] 13 mixed (aq 0 R (pom R) so1 R (aq 1 R (po_nilCheck R) so1 R (aq 2 R (pof fo_56_2 R) so1 R (aq (v := iv (wr ((wr (a_c2 * 6364136223846793005)) + 1442695040888963407))) 3 R (plx tk_3 pz R R) so1 R (aq 4 R (po_shr R R (by decide)) so1 R ?_)))))))))))))))))))))
 refine aq 5 R (pom R) so1 R (aq 6 R (po_nilCheck R) so1 R (aq 7 R (pof fo_56_2 R) so1 R (aq (v := iv (wr ((wr (a_c2 * 6364136223846793005)) + 1442695040888963407))) 8 R (plx tk_3 pz R R) so1 R (aq 9 R (po_shr R R (by decide)) so1 R ?_))))
 refine aq 10 R (po_xor R R) so1 R (aq 11 R (po_and R R) so1 R (aq 12 R (po_assign R) so1 R (ae (wqt (wcs (wcs (wcd [box b0p [(sl v0a), iv a_c1, iv (wr ((wr (a_c2 * 6364136223846793005)) + 1442695040888963407))]] 10 mixed (aq 0 R (pom R) so1 R (aq 1 R (po_nilCheck R) so1 R (aq 2 R (pof fo_56_1 R) so1 R (aq (v := iv a_c1) 3 R (plx tk_3 pz R R) so1 R (aq 4 R (pom R) so1 R (aq 5 R (po_nilCheck R) so1 R (aq 6 R (pof fo_56_0 R) so1 R (aq (v := (sl v0a)) 7 R (plx tk_22 pz R R) so1 R (aq 8 R (pln (rga r0) el_22 R) so1 R (aq 9 R (pls R R) so1 R (ae (wqt (bdO t0 fun y1 t1 t0 => (wj (J := Int × Int) (X := Unit) (fun z => y1 = z) (fun z _ => [(3, iv z.1)]) (fun z _ => [box b0p [(sl v0a), iv z.2, iv (wr ((wr (a_c2 * 6364136223846793005)) + 1442695040888963407))]]) ?_ ?_)))))))))))))))))))))
 refine wcO t1 R (fun h1 t1 => ?_) fun h1 t1 => ?_
 exact wcs (wcd [box b0p [(sl v0a), iv a_c1, iv (wr ((wr (a_c2 * 6364136223846793005)) + 1442695040888963407))]] 15 mixed (aq 0 R (pom R) so1 R (aq 1 R (pom R) so1 R (aq 2 R (po_nilCheck R) so1 R (aq 3 R (pof fo_56_0 R) so1 R (aq (v := (sl v0a)) 4 R (plx tk_22 pz R R) so1 R (aq 5 R (pom R) so1 R (aq 6 R (po_nilCheck R) so1 R (aq 7 R (pof fo_56_1 R) so1 R (aq (v := iv a_c1) 8 R (plx tk_3 pz R R) so1 R (gdO t1 fun g1 t1 => (aq 9 R (po_ixr (rga r0) el_22 R R g1.1 g1.2) so1 R (aq (v := .int .u8 ((gx a_c0 ((a_c1).toNat)).toNat : Int)) 10 R (po_ldf (rga r0) tk_5 R (ix_lt g1) R) so1 R (aq 11 R (po_u8int isU8_5 isInt_3 R) so1 R (aq 12 R (po_add R R) so1 R (aq 13 R (po_and R R) so1 R (aq 14 R (po_assign R) so1 R (ae (wqt (wcg (mv R R (mv R R (wlq (po_nilCheck R) R (wlq (pof fo_56_1 R) R (wlq (v := iv a_c1) (plx tk_3 pz R R) R (wlq (po_add R R) R (wlq (po_nilCheck R) R (wlq (pof fo_56_1 R) R (wls (sbx (cs' := [(sl v0a), iv (wr (a_c1 + 1)), iv (wr ((wr (a_c2 * 6364136223846793005)) + 1442695040888963407))]) tk_3 pz R R R R R R R) (wln (wjm _ () (mtE t1) (su1 R) so1)))))))))))))))))))))))))))))))
 exact wck (wjm _ () (mtE t1) (su1 R) so1)
 intro j1 _ hp
 obtain rfl : j1 = y1 := hp.symm
 refine wqt (wcr (mv R R (asg R R (wnt (wct ?_)))))
 obtain rfl := oi t0
 exact wq1 R R fun w hw => ⟨(), R, hw.weak so1⟩

theorem c_spec_l01Below (w : World) (fp : List Nat) (b0p : Nat) (a_c0 : List UInt8) (v0a : Hd) (r0 : rdF w (dm w fp) (sl v0a) a_c0) (a_c1 : Int) (a_c2 : Int) (a_n : Int) (o : Ow w [box b0p [(sl v0a), .int .i64 a_c1, .int .i64 a_c2]] fp) {r : Int × Int × Int} (t0 : spec_l01Below a_c0 a_c1 a_c2 a_n = some r) : Calls Tryd.prog 28 #[ptr b0p 0, .int .i64 a_n] w fun e w' => ∃ _x : Unit, e = .returned (.int .i64 r.1) ∧ SH w fp [box b0p [(sl v0a), .int .i64 r.2.1, .int .i64 r.2.2]] w' := by
 refine calls_of_wc_own (args := [_, _]) o Tryd.func28 R Tryd.ntmps28 R ?_
 unfold spec_l01Below at t0
 refine wcr (asg R R (wnt (wcs (wcr (mv R R (wlq (po_leq R R) R (wnt (wcO t0 R (fun h1 t0 => ?_) fun h1 t0 => ?_))))))))
 refine wcr (asg R R (wnt (wct (wqr ?_))))
 obtain rfl := oi t0
 exact wq1 R R fun w hw => ⟨(), R, hw.weak so1⟩
 refine wck (wqt (wcs (wcr (mv R R (wlq (po_leq R R) R (wnt (wcO t0 R (fun h2 t0 => ?_) fun h2 t0 => ?_)))))))
 refine wcr (mv R R (bdO t0 fun v1 hv1 t0 => (wlc (co_o1 [box b0p [(sl v0a), iv a_c1, iv a_c2]] fa_49 (zc pz some_refl) R fun w fp hw => c_spec_l01Byte w fp b0p a_c0 v0a ((rdo_arg r0) w fp hw) a_c1 a_c2 hw.ow hv1) R fun _ => (mv R R (gdO t0 fun g1 t0 => (wlq (po_rem R R g1) R (asg R R (wnt (wct (wqr ?_))))))))))
 obtain rfl := oi t0
 exact wq1 R R fun w hw => ⟨(), R, hw.weak so1⟩
 refine wck (wqt (wcr (mv R R (bdO t0 fun v2 hv2 t0 => (wlc (co_o1 [box b0p [(sl v0a), iv a_c1, iv a_c2]] fa_49 (zc pz some_refl) R fun w fp hw => c_spec_l01Byte w fp b0p a_c0 v0a ((rdo_arg r0) w fp hw) a_c1 a_c2 hw.ow hv2) R fun _ => (asg R R (wnt (wcr (mv R R (bdO t0 fun v3 hv3 t0 => (wlc (co_o1 [box b0p [(sl v0a), iv v2.2.1, iv v2.2.2]] fa_49 (zc pz some_refl) R fun w fp hw => c_spec_l01Byte w fp b0p a_c0 v0a ((rdo_arg r0) w fp hw) v2.2.1 v2.2.2 hw.ow hv3) R fun _ => (asg R R (wnt (wcr (mv R R (bdO t0 fun v4 hv4 t0 => (wlc (co_o1 [box b0p [(sl v0a), iv v3.2.1, iv v3.2.2]] fa_49 (zc pz some_refl) R fun w fp hw => c_spec_l01Byte w fp b0p a_c0 v0a ((rdo_arg r0) w fp hw) v3.2.1 v3.2.2 hw.ow hv4) R fun _ => (asg R R (wnt (wcr (mv R R (bdO t0 fun v5 hv5 t0 => (wlc (co_o1 [box b0p [(sl v0a), iv v4.2.1, iv v4.2.2]] fa_49 (zc pz some_refl) R fun w fp hw => c_spec_l01Byte w fp b0p a_c0 v0a ((rdo_arg r0) w fp hw) v4.2.1 v4.2.2 hw.ow hv5) R fun _ => (asg R R (wnt (wcr (mv R R (wlq (po_mul R R) R (mv R R (wlq (po_mul R R) R (wlq (po_add R R) R (mv R R (wlq (po_mul R R) R (wlq (po_add R R) R (mv R R (wlq (po_add R R) R (mv R R (gdO t0 fun g2 t0 => (wlq (po_rem R R g2) R ?_)))))))))))))))))))))))))))))))))))))))
 refine asg R R (wnt (wct ?_))
 obtain rfl := oi t0
 exact wq1 R R fun w hw => ⟨(), R, hw.weak so1⟩

theorem c_spec_l01In (w : World) (a_x : Int) (a_least : Int) (a_most : Int) {r : Bool} (t0 : spec_l01In a_x a_least a_most = some r) : Calls Tryd.prog 33 #[.int .i64 a_x, .int .i64 a_least, .int .i64 a_most] w fun e w' => e = .returned (.bool r) ∧ SH w [] [] w' := by
 refine cwc (args := [_, _, _]) Tryd.func33 R Tryd.ntmps33 R ?_
 unfold spec_l01In at t0
 refine wcr (asg R R (wnt (wcs (wcj (X := Unit) (fun _ => True) (fun _ => [(6, .bool ((decide (a_x ≥ a_least)) && (decide (a_x ≤ a_most))))]) (fun _ => []) ?_ ?_))))
 refine wcg (mv R R (mv R R (wlq (po_geq R R) R (mv R R (wl_fork (t := 10) R (fun h1 => ?_) fun h1 => ?_)))))
 exact wgn (j := 3) R R R (mv R R (wgn (j := 3) R R R (mv R R (wgn (j := 3) R R R (wlq (po_leq R R) R (wlq (pit R R) R (asg R R (wln (wqm () trivial (sub_b R (by rw [h1]; rfl) yn) zn)))))))))
 exact wgf (j := 3) R R R R R (wgf (j := 3) R R R R R (wgf (j := 3) R R R R R (wlq (pif R R) R (asg R R (wln (wqm () trivial (sub_b R (by rw [h1]; rfl) yn) zn))))))
 intro _ _
 refine wqt (wct ?_)
 obtain rfl := oi t0
 exact wq1 R R fun w hw => ⟨R, hw.weak zn⟩

theorem c_spec_WholeCell (w : World) (a_a : Int) {r : GCell} (t0 : spec_WholeCell a_a = some r) : Calls Tryd.prog 59 #[.int .i64 a_a] w fun e w' => e = .returned (.agg #[.int .i64 r.Split, .int .i64 r.A, .int .i64 r.B]) ∧ SH w [] [] w' := by
 refine cwc (args := [_]) Tryd.func59 R Tryd.ntmps59 R ?_
 unfold spec_WholeCell at t0
 refine wcr (wle (eal (cs := [iv 0, iv 0, iv 0]) za_41) R fun b1 => (wnt (wcs (wcr (mv R R (bdO t0 fun v1 hv1 t0 => (wlc (cz0 fa_33 R fun w hw => c_spec_l01In w a_a 0 5 hv1) R fun _ => (wlq (po_not R) R (wnt (wcO t0 R (fun h1 t0 => ?_) fun h1 t0 => ?_))))))))))
 refine wcr (wlq (po_build R bd_41) R (wls (sbx (cs' := [iv 0, iv 0, iv 0]) tk_41 pz R R R R R R R) (wnt (wct (wqr ?_)))))
 obtain rfl := oi t0
 exact wqc R tk_41 R pz R fun w hw => ⟨R, hw.weak zn⟩
 refine wck (wqt (wcr (mv R R (mv R R (wlq (po_build R (bd_41_1_2 a_a a_a)) R (wls (sbx (cs' := [iv 0, iv a_a, iv a_a]) tk_41 pz R R R R R R R) (wnt (wct ?_))))))))
 obtain rfl := oi t0
 exact wqc R tk_41 R pz R fun w hw => ⟨R, hw.weak zn⟩

theorem c_spec_StarBlock (w : World)  {r : GBlock} (t0 : spec_StarBlock = some r) : Calls Tryd.prog 37 #[] w fun e w' => ∃ x : Hd, e = .returned (.agg #[.int .i64 r.Size, (sl x)]) ∧ SH w [] [ownF (sl x) r.Cells] w' := by
 refine cwc (args := []) Tryd.func37 R Tryd.ntmps37 R ?_
 unfold spec_StarBlock at t0
 refine wcr (wle (eal (cs := [iv 0, (sl hn)]) za_26) R fun b1 => (wnt (wcr (bdO t0 fun v1 hv1 t0 => (wlc (cz0 fa_59 R fun w hw => c_spec_WholeCell w 1 hv1) R fun _ => (wle (eal (cs := [iv 0, iv 0, iv 0]) za_41) R fun b2 => (wls (sbx (cs' := [iv v1.Split, iv v1.A, iv v1.B]) tk_41 pz R R R R R R R) (wnt (wcr (wlq (po_build R (bd_41_0_1_2 1 0 1)) R (wlq (v := .agg #[iv v1.Split, iv v1.A, iv v1.B]) (plb tk_41 pz R R R) R (wlq (po_build R (bd_41_0_1_2 2 1 0)) R (wlq (v := .agg #[iv v1.Split, iv v1.A, iv v1.B]) (plb tk_41 pz R R R) R (wlq (v := .agg #[iv v1.Split, iv v1.A, iv v1.B]) (plb tk_41 pz R R R) R (wlq (v := .agg #[iv v1.Split, iv v1.A, iv v1.B]) (plb tk_41 pz R R R) R (wlq (po_build R (bd_41_0_1_2 2 0 1)) R (wlq (v := .agg #[iv v1.Split, iv v1.A, iv v1.B]) (plb tk_41 pz R R R) R (wlq (po_build R (bd_41_0_1_2 1 1 0)) R (wle (ebs (qs := [(0, .agg #[iv 1, iv 0, iv 1]), (1, .agg #[iv v1.Split, iv v1.A, iv v1.B]), (2, .agg #[iv 2, iv 1, iv 0]), (3, .agg #[iv v1.Split, iv v1.A, iv v1.B]), (4, .agg #[iv v1.Split, iv v1.A, iv v1.B]), (5, .agg #[iv v1.Split, iv v1.A, iv v1.B]), (6, .agg #[iv 2, iv 0, iv 1]), (7, .agg #[iv v1.Split, iv v1.A, iv v1.B]), (8, .agg #[iv 1, iv 1, iv 0])]) R (sb_24_9 1 0 1 v1.Split v1.A v1.B 2 1 0 v1.Split v1.A v1.B v1.Split v1.A v1.B v1.Split v1.A v1.B 2 0 1 v1.Split v1.A v1.B 1 1 0)) R fun b3 => (wlq (po_build R (bd_26_0_1 3 (⟨some ⟨b3, 0, none⟩, 9, 9⟩ : Hd))) R (wls (sbx (cs' := [iv 3, (sl (⟨some ⟨b3, 0, none⟩, 9, 9⟩ : Hd))]) tk_26 pk2 R R R R R R R) (wnt (wct ?_)))))))))))))))))))))))
 obtain rfl := oi t0
 exact wqc R tk_26 R pz R fun w hw => ⟨(⟨some ⟨b3, 0, none⟩, 9, 9⟩ : Hd), R, hw.weak (zc (pbo pk1 (n := 9) (xs := ([(GCell.mk 1 0 1), v1, (GCell.mk 2 1 0), v1, v1, v1, (GCell.mk 2 0 1), v1, (GCell.mk 1 1 0)] : List GCell)) R R (by unfold maxLen; omega)) zn)⟩

theorem c_spec_PlainBlock (w : World) (a_size : Int) (a_a : Int) {r : GBlock × Bool} (t0 : spec_PlainBlock a_size a_a = some r) : Calls Tryd.prog 38 #[.int .i64 a_size, .int .i64 a_a] w fun e w' => ∃ x : Hd, e = .returned (.tuple #[.agg #[.int .i64 r.1.Size, (sl x)], .bool r.2]) ∧ SH w [] [ownF (sl x) r.1.Cells] w' := by
 refine cwc (args := [_, _]) Tryd.func38 R Tryd.ntmps38 R ?_
 unfold spec_PlainBlock at t0
 refine wcr (wle (eal (cs := [iv 0, (sl hn)]) za_26) R fun b1 => (asg R R (wnt (wcs (wcs (bdO t0 fun y1 t1 t0 => (wj (J := Bool) (X := Unit) (fun z => y1 = z) (fun z _ => [(0, iv a_size), (1, iv a_a), (4, ptr b1 0), (15, .bool z)]) (fun _ _ => [box b1 [iv 0, (sl hn)]]) ?_ ?_)))))))
 refine wcg (mv R R (bdO t1 fun v1 hv1 t1 => (wlc (cz0 fa_33 R fun w hw => c_spec_l01In w a_size 1 4 hv1) R fun _ => (wlq (po_not R) R (mv R R (wlo (t := 11) t1 R (fun h1 t1 => ?_) fun h1 t1 => ?_))))))
 exact wgf (j := 3) R R R R R (wgf (j := 3) R R R R R (wgf (j := 3) R R R R R (wlq (pit R R) R (wln (wjm _ () (mtE t1) (su4 R R R R) so1)))))
 exact wgn (j := 3) R R R (mv R R (bdO t1 fun v2 hv2 t1 => (wgn (j := 3) R R R (wlc (cz0 fa_33 R fun w hw => c_spec_l01In w a_a 0 5 hv2) R (fun _ => (wgn (j := 3) R R R (wlq (po_not R) R (wlq (pif R R) R (wln (wjm _ () (mtE t1) (su4 R R R R) so1))))))))))
 intro j1 _ hp
 obtain rfl : j1 = y1 := hp.symm
 refine wqt (wcO t0 R (fun h2 t0 => ?_) fun h2 t0 => ?_)
 refine wcr (wlq (po_build R bd_26) R (wls (sbx (cs' := [iv 0, (sl hn)]) tk_26 pz R R R R R R R) (asg R R (wnt (wct (wqr ?_))))))
 obtain rfl := oi t0
 exact wq_retc1 R tk_26 R R pz R fun w hw => ⟨hn, R, hw.weak (zc pick_nil zn)⟩
 refine wck (wqt (wcr (mv R R (wlq (po_build R (bd_26_0 a_size)) R (wle (eal (cs := [iv 0, (sl hn)]) za_26) R fun b2 => (wls (sbx (cs' := [iv a_size, (sl hn)]) tk_26 pz R R R R R R R) (wnt (wcs (wcr (asg R R (wnt (gdO t0 fun g1 t0 => (lpO_inv t0 fun y1 l1 t0 => (wj (J := List GCell) (X := Hd) (fun z => y1 = z) (fun _ _ => [(4, ptr b1 0), (6, ptr b2 0)]) (fun z x => [box b2 [iv a_size, (sl x)], box b1 [iv 0, (sl hn)], ownF (sl x) z]) ?_ ?_))))))))))))))
 refine wcb (wcf (X := Hd) l1 (fun k1 s1 x1l => [(0, iv a_size), (1, iv a_a), (4, ptr b1 0), (6, ptr b2 0), (7, iv ((k1 : Nat) : Int))]) (fun k1 s1 x1l => [box b2 [iv a_size, (sl x1l)], box b1 [iv 0, (sl hn)], ownF (sl x1l) s1]) hn (su5 R R R R R) (zc pz (zc pz (zc pick_nil zn))) fun k1 s1 x1l hN1 l1 => ?_)
 by_cases hk1 : k1 < ((wr (a_size * a_size))).toNat
 refine fos l1 hk1 fun _ t1 l1 => ?_
 unfold spec_PlainBlock_L1 at t1
 have c1 : (decide (((k1 : Nat) : Int) < (wr (a_size * a_size)))) = true := ddt (by omega)
 refine wcs (wcr (mv R R (mv R R (mv R R (wlq (po_mul R R) R (wlq (pls R R) R (wnt (wft R c1 (wck (wqt (wcs (wcb (wcd [box b2 [iv a_size, (sl x1l)], box b1 [iv 0, (sl hn)]] 7 mixed (aq 0 R (pof fo_26_1 R) so2 R (aq (v := (sl x1l)) 1 R (plx tk_24 pz R R) so2 R (aq 2 R (pom R) so2 R (a1 3 (bdO t1 fun v3 hv3 t1 => (wsc R (cz0 fa_59 R fun w hw => c_spec_WholeCell w a_a hv3) (fun _ => (zt so2)) R fun _ => (a1 4 (wse R (ebs R (sb_24_1 v3.Split v3.A v3.B)) (fun _ => (zt (zc pk1 (zc pk1 zn)))) R fun b3 => (a1 5 (gdO t1 fun g2 t1 => (wse R (eo_append (xs := s1) (ys := ([v3] : List GCell)) ak_24 pk3 R R (slin_rd fun _ g => Rg.on (rgo (pbo pz (n := 1) (xs := ([v3] : List GCell)) R R (by unfold maxLen; omega))) g) g2) (fun _ => (zt (zc pk2 (zc pk2 zn)))) R fun x3 => ?_))))))))))))))))))))))))
 refine aq 6 R (pof fo_26_1 R) (zc pk2 (zc pk2 zn)) R (a1 7 (ws_skipop R (sbx (cs' := [iv a_size, (sl x3)]) tk_24 pk2 R R R R R R R) (sts_past (by kernel_rfl)) ?_))
 refine ae (wqb (wqt (wcg (mv R R (wlq (po_inc R R (by omega)) R ?_)))))
 exact asg R R (wln (wq_rnd hk1 (stpN l1 t1) x3 (su5 R R R R R) (zc pz (zc pk2 so1))))
 have c1 : (decide (((k1 : Nat) : Int) < (wr (a_size * a_size)))) = false := ddf (by omega)
 have en1 := foe l1 hk1
 exact wcs (wcr (mv R R (mv R R (mv R R (wlq (po_mul R R) R (wlq (pls R R) R (wnt (wff R c1 (wcx (wqe (wqe (wbx (wjm _ x1l (Sum.inl.inj en1) (su2 R R) so3)))))))))))))
 intro e1 x2 hp
 obtain rfl : e1 = y1 := hp.symm
 refine wqt (wcr (wlq (v := .agg #[iv a_size, (sl x2)]) (plb tk_26 pz R R R) R (wls (sbx (cs' := [iv a_size, (sl x2)]) tk_26 pk1 R R R R R R R) (asg R R (wnt (wct ?_))))))
 obtain rfl := oi t0
 exact wq_retc1 R tk_26 R R pz R fun w hw => ⟨x2, R, hw.weak (zc pk2 zn)⟩

theorem c_spec_CellOk (w : World) (a_c : GCell) {r : Bool} (t0 : spec_CellOk a_c = some r) : Calls Tryd.prog 34 #[.agg #[.int .i64 a_c.Split, .int .i64 a_c.A, .int .i64 a_c.B]] w fun e w' => e = .returned (.bool r) ∧ SH w [] [] w' := by
 refine cwc (args := [_]) Tryd.func34 R Tryd.ntmps34 R ?_
 unfold spec_CellOk at t0
 refine wcr (wle (eo_box R R) R fun b1 => (asg R R (wnt (wcs (wcs (bdO t0 fun y1 t1 t0 => (wj (J := Bool) (X := Unit) (fun z => y1 = z) (fun z _ => [(1, ptr b1 0), (18, .bool z)]) (fun _ _ => [box b1 [iv a_c.Split, iv a_c.A, iv a_c.B]]) ?_ ?_)))))))
 refine wcg (wlq (pof fo_41_0 R) R (wlq (v := iv a_c.Split) (plx tk_3 pz R R) R (bdO t1 fun v1 hv1 t1 => (wlc (cz0 fa_33 R fun w hw => c_spec_l01In w a_c.Split 0 2 hv1) R fun _ => (wlq (po_not R) R (mv R R (wlo (t := 7) t1 R (fun h1 t1 => ?_) fun h1 t1 => ?_)))))))
 exact wgf (j := 4) R R R R R (wgf (j := 4) R R R R R (wgf (j := 4) R R R R R (wgf (j := 4) R R R R R (wlq (pit R R) R (mv R R (wgf (j := 10) R R R R R (wgf (j := 10) R R R R R (wgf (j := 10) R R R R R (wgf (j := 10) R R R R R (wlq (pit R R) R (wln (wjm _ () (mtE t1) (su2 R R) so1))))))))))))
 refine wgn (j := 4) R R R (wlq (pof fo_41_1 R) R (wgn (j := 4) R R R (wlq (v := iv a_c.A) (plx tk_3 pz R R) R (bdO t1 fun v2 hv2 t1 => (wgn (j := 4) R R R (wlc (cz0 fa_33 R fun w hw => c_spec_l01In w a_c.A 0 5 hv2) R (fun _ => (wgn (j := 4) R R R (wlq (po_not R) R (wlq (pif R R) R (mv R R (wlo (t := 13) t1 R (fun h2 t1 => ?_) fun h2 t1 => ?_))))))))))))
 exact wgf (j := 10) R R R R R (wgf (j := 10) R R R R R (wgf (j := 10) R R R R R (wgf (j := 10) R R R R R (wlq (pit R R) R (wln (wjm _ () (mtE t1) (su2 R R) so1))))))
 exact wgn (j := 10) R R R (wlq (pof fo_41_2 R) R (wgn (j := 10) R R R (wlq (v := iv a_c.B) (plx tk_3 pz R R) R (bdO t1 fun v3 hv3 t1 => (wgn (j := 10) R R R (wlc (cz0 fa_33 R fun w hw => c_spec_l01In w a_c.B 0 5 hv3) R (fun _ => (wgn (j := 10) R R R (wlq (po_not R) R (wlq (pif R R) R (wln (wjm _ () (mtE t1) (su2 R R) so1))))))))))))
 intro j1 _ hp
 obtain rfl : j1 = y1 := hp.symm
 refine wqt (wcO t0 R (fun h3 t0 => ?_) fun h3 t0 => ?_)
 refine wcr (asg R R (wnt (wct (wqr ?_))))
 obtain rfl := oi t0
 exact wq1 R R fun w hw => ⟨R, hw.weak zn⟩
 refine wck (wqt (wcr (wlq (pof fo_41_0 R) R (wlq (v := iv a_c.Split) (plx tk_3 pz R R) R (wlq (pol R R) R (wlq (pof fo_41_1 R) R (wlq (v := iv a_c.A) (plx tk_3 pz R R) R (wlq (pof fo_41_2 R) R (wlq (v := iv a_c.B) (plx tk_3 pz R R) R (wlq (pol R R) R (wlq (po_eql_bool ub_4 R R) R (asg R R (wnt (wct ?_))))))))))))))
 obtain rfl := oi t0
 exact wq1 R R fun w hw => ⟨R, hw.weak zn⟩

theorem c_spec_SplitCell (w : World) (a_split : Int) (a_a : Int) (a_b : Int) {r : GCell} (t0 : spec_SplitCell a_split a_a a_b = some r) : Calls Tryd.prog 50 #[.int .i64 a_split, .int .i64 a_a, .int .i64 a_b] w fun e w' => e = .returned (.agg #[.int .i64 r.Split, .int .i64 r.A, .int .i64 r.B]) ∧ SH w [] [] w' := by
 refine cwc (args := [_, _, _]) Tryd.func50 R Tryd.ntmps50 R ?_
 unfold spec_SplitCell at t0
 refine wcr (wle (eal (cs := [iv 0, iv 0, iv 0]) za_41) R fun b1 => (wnt (wcs (wcr (mv R R (mv R R (wlq (pol R R) R (wnt (wcO t0 R (fun h1 t0 => ?_) fun h1 t0 => ?_)))))))))
 refine wcr (mv R R (bdO t0 fun v1 hv1 t0 => (wlc (cz0 fa_59 R fun w hw => c_spec_WholeCell w a_a hv1) R fun _ => (wls (sbx (cs' := [iv v1.Split, iv v1.A, iv v1.B]) tk_41 pz R R R R R R R) (wnt (wct (wqr ?_)))))))
 obtain rfl := oi t0
 exact wqc R tk_41 R pz R fun w hw => ⟨R, hw.weak zn⟩
 refine wck (wqt (wcr (mv R R (mv R R (mv R R (wlq (po_build R (bd_41_0_1_2 a_split a_a a_b)) R (wle (eal (cs := [iv 0, iv 0, iv 0]) za_41) R fun b2 => (wls (sbx (cs' := [iv a_split, iv a_a, iv a_b]) tk_41 pz R R R R R R R) (wnt (wcs (wcr (wlq (v := .agg #[iv a_split, iv a_a, iv a_b]) (plb tk_41 pz R R R) R (bdO t0 fun v2 hv2 t0 => (wlc (cz0 fa_34 R fun w hw => c_spec_CellOk w (GCell.mk a_split a_a a_b) hv2) R fun _ => (wlq (po_not R) R (wnt (wcO t0 R (fun h2 t0 => ?_) fun h2 t0 => ?_)))))))))))))))))
 refine wcr (wlq (po_build R bd_41) R (wls (sbx (cs' := [iv 0, iv 0, iv 0]) tk_41 pk1 R R R R R R R) (wnt (wct (wqr ?_)))))
 obtain rfl := oi t0
 exact wqc R tk_41 R pz R fun w hw => ⟨R, hw.weak zn⟩
 refine wck (wqt (wcr (wlq (v := .agg #[iv a_split, iv a_a, iv a_b]) (plb tk_41 pz R R R) R (wls (sbx (cs' := [iv a_split, iv a_a, iv a_b]) tk_41 pk1 R R R R R R R) (wnt (wct ?_))))))
 obtain rfl := oi t0
 exact wqc R tk_41 R pz R fun w hw => ⟨R, hw.weak zn⟩

theorem c_spec_l02Cell (w : World) (fp : List Nat) (b0p : Nat) (a_c0 : List UInt8) (v0a : Hd) (r0 : rdF w (dm w fp) (sl v0a) a_c0) (a_c1 : Int) (a_c2 : Int) (o : Ow w [box b0p [(sl v0a), .int .i64 a_c1, .int .i64 a_c2]] fp) {r : GCell × Int × Int} (t0 : spec_l02Cell a_c0 a_c1 a_c2 = some r) : Calls Tryd.prog 29 #[ptr b0p 0] w fun e w' => ∃ _x : Unit, e = .returned (.agg #[.int .i64 r.1.Split, .int .i64 r.1.A, .int .i64 r.1.B]) ∧ SH w fp [box b0p [(sl v0a), .int .i64 r.2.1, .int .i64 r.2.2]] w' := by
 refine calls_of_wc_own (args := [_]) o Tryd.func29 R Tryd.ntmps29 R ?_
 unfold spec_l02Cell at t0
 refine wcr (wle (eal (cs := [iv 0, iv 0, iv 0]) za_41) R fun b1 => (wnt (wcr (mv R R (bdO t0 fun v1 hv1 t0 => (wlc (co_o1 [box b0p [(sl v0a), iv a_c1, iv a_c2]] fa_28 (zc pk1 some_refl) R fun w fp hw => c_spec_l01Below w fp b0p a_c0 v0a ((rdo_arg r0) w fp hw) a_c1 a_c2 3 hw.ow hv1) R fun _ => (mv R R (bdO t0 fun v2 hv2 t0 => (wlc (co_o1 [box b0p [(sl v0a), iv v1.2.1, iv v1.2.2]] fa_28 (zc pz some_refl) R fun w fp hw => c_spec_l01Below w fp b0p a_c0 v0a ((rdo_arg r0) w fp hw) v1.2.1 v1.2.2 3 hw.ow hv2) R fun _ => (mv R R (bdO t0 fun v3 hv3 t0 => (wlc (co_o1 [box b0p [(sl v0a), iv v2.2.1, iv v2.2.2]] fa_28 (zc pz some_refl) R fun w fp hw => c_spec_l01Below w fp b0p a_c0 v0a ((rdo_arg r0) w fp hw) v2.2.1 v2.2.2 3 hw.ow hv3) R fun _ => (bdO t0 fun v4 hv4 t0 => (wlc (cz0 fa_50 R fun w hw => c_spec_SplitCell w v1.1 v2.1 v3.1 hv4) R fun _ => (wls (sbx (cs' := [iv v4.Split, iv v4.A, iv v4.B]) tk_41 pk1 R R R R R R R) (wnt (wct ?_)))))))))))))))))
 obtain rfl := oi t0
 exact wqc R tk_41 R pz R fun w hw => ⟨(), R, hw.weak (zc pk1 zn)⟩

theorem c_spec_l03Block (w : World) (fp : List Nat) (b0p : Nat) (a_c0 : List UInt8) (v0a : Hd) (r0 : rdF w (dm w fp) (sl v0a) a_c0) (a_c1 : Int) (a_c2 : Int) (o : Ow w [box b0p [(sl v0a), .int .i64 a_c1, .int .i64 a_c2]] fp) {r : GBlock × Int × Int} (t0 : spec_l03Block a_c0 a_c1 a_c2 = some r) : Calls Tryd.prog 17 #[ptr b0p 0] w fun e w' => ∃ x : Hd, e = .returned (.agg #[.int .i64 r.1.Size, (sl x)]) ∧ SH w fp [ownF (sl x) r.1.Cells, box b0p [(sl v0a), .int .i64 r.2.1, .int .i64 r.2.2]] w' := by
 refine calls_of_wc_own (args := [_]) o Tryd.func17 R Tryd.ntmps17 R ?_
 unfold spec_l03Block at t0
 refine wcr (wle (eal (cs := [iv 0, (sl hn)]) za_26) R fun b1 => (wnt (wcs (wcr (mv R R (bdO t0 fun v1 hv1 t0 => (wlc (co_o1 [box b0p [(sl v0a), iv a_c1, iv a_c2]] fa_28 (zc pk1 some_refl) R fun w fp hw => c_spec_l01Below w fp b0p a_c0 v0a ((rdo_arg r0) w fp hw) a_c1 a_c2 6 hw.ow hv1) R fun _ => (wnt (wcb (wcr (wlq (pol R R) R (asg R R (wnt (wcO t0 R (fun h1 t0 => ?_) fun h1 t0 => ?_))))))))))))))
 refine wcr (bdO t0 fun v2 hv2 t0 => (wlc (cz1 fa_37 R fun w hw => c_spec_StarBlock w hv2) R fun x1 => (wls (sbx (cs' := [iv v2.Size, (sl x1)]) tk_26 pk2 R R R R R R R) (wnt (wct (wbr (wqr ?_)))))))
 obtain rfl := oi t0
 exact wqc R tk_26 R pz R fun w hw => ⟨x1, R, hw.weak (zc pk1 (zc pk1 zn))⟩
 refine wcr (wlq (pol R R) R (asg R R (wnt (wcO t0 R (fun h2 t0 => ?_) fun h2 t0 => ?_))))
 refine wcr (mv R R (bdO t0 fun v3 hv3 t0 => (wlc (co_o1 [box b0p [(sl v0a), iv v1.2.1, iv v1.2.2]] fa_28 (zc pz some_refl) R fun w fp hw => c_spec_l01Below w fp b0p a_c0 v0a ((rdo_arg r0) w fp hw) v1.2.1 v1.2.2 4 hw.ow hv3) R fun _ => (wlq (po_add R R) R (mv R R (bdO t0 fun v4 hv4 t0 => (wlc (co_o1 [box b0p [(sl v0a), iv v3.2.1, iv v3.2.2]] fa_28 (zc pz some_refl) R fun w fp hw => c_spec_l01Below w fp b0p a_c0 v0a ((rdo_arg r0) w fp hw) v3.2.1 v3.2.2 3 hw.ow hv4) R fun _ => (bdO t0 fun v5 hv5 t0 => (wlc (cz1 fa_38 R fun w hw => c_spec_PlainBlock w (wr (1 + v3.1)) v4.1 hv5) R fun x2 => (mv R R (wlq (pex R R) R (wlq (pex R R) R (wle (eal (cs := [iv 0, (sl hn)]) za_26) R fun b2 => (wls (sbx (cs' := [iv v5.1.Size, (sl x2)]) tk_26 pz R R R R R R R) (asg R R (wnt (wcr (wlq (v := .agg #[iv v5.1.Size, (sl x2)]) (plb tk_26 pz R R R) R (wls (sbx (cs' := [iv v5.1.Size, (sl x2)]) tk_26 pk3 R R R R R R R) (wnt (wct (wbr (wqr ?_)))))))))))))))))))))))
 obtain rfl := oi t0
 exact wqc R tk_26 R pz R fun w hw => ⟨x2, R, hw.weak (zc pk2 (zc pk2 zn))⟩
 refine wck (wqb (wqt (wcr (mv R R (bdO t0 fun v6 hv6 t0 => (wlc (co_o1 [box b0p [(sl v0a), iv v1.2.1, iv v1.2.2]] fa_28 (zc pz some_refl) R fun w fp hw => c_spec_l01Below w fp b0p a_c0 v0a ((rdo_arg r0) w fp hw) v1.2.1 v1.2.2 4 hw.ow hv6) R fun _ => (wlq (po_add R R) R (asg R R (wnt (wcr (mv R R (wlq (po_build R (bd_26_0 (wr (1 + v6.1)))) R (wle (eal (cs := [iv 0, (sl hn)]) za_26) R fun b3 => (wls (sbx (cs' := [iv (wr (1 + v6.1)), (sl hn)]) tk_26 pz R R R R R R R) (wnt (wcs (wcr (asg R R (wnt (gdO t0 fun g1 t0 => (lpO_inv t0 fun y1 l1 t0 => (wj (J := (List GCell) × Int × Int) (X := Hd) (fun z => y1 = z) (fun _ _ => [(2, ptr b1 0), (6, ptr b3 0)]) (fun z x => [box b3 [iv (wr (1 + v6.1)), (sl x)], box b0p [(sl v0a), iv z.2.1, iv z.2.2], box b1 [iv 0, (sl hn)], ownF (sl x) z.1]) ?_ ?_))))))))))))))))))))))
 refine wcb (wcf (X := Hd) l1 (fun k1 s1 x1l => [(0, ptr b0p 0), (2, ptr b1 0), (5, iv (wr (1 + v6.1))), (6, ptr b3 0), (7, iv ((k1 : Nat) : Int))]) (fun k1 s1 x1l => [box b3 [iv (wr (1 + v6.1)), (sl x1l)], box b0p [(sl v0a), iv s1.2.1, iv s1.2.2], box b1 [iv 0, (sl hn)], ownF (sl x1l) s1.1]) hn (su5 R R R R R) (zc pz (zc pz (zc pz (zc pick_nil zn)))) fun k1 s1 x1l hN1 l1 => ?_)
 by_cases hk1 : k1 < ((wr ((wr (1 + v6.1)) * (wr (1 + v6.1))))).toNat
 refine fos l1 hk1 fun _ t1 l1 => ?_
 unfold spec_l03Block_L1 at t1
 have c1 : (decide (((k1 : Nat) : Int) < (wr ((wr (1 + v6.1)) * (wr (1 + v6.1)))))) = true := ddt (by omega)
 refine wcs (wcr (mv R R (mv R R (mv R R (wlq (po_mul R R) R (wlq (pls R R) R (wnt (wft R c1 (wck (wqt (wcs (wcb (wcr (mv R R (bdO t1 fun v7 hv7 t1 => (wlc (co_o1 [box b0p [(sl v0a), iv s1.2.1, iv s1.2.2]] fa_29 (zc pk1 some_refl) R fun w fp hw => c_spec_l02Cell w fp b0p a_c0 v0a ((rdo_arg r0) w fp hw) s1.2.1 s1.2.2 hw.ow hv7) R fun _ => (wle (eal (cs := [iv 0, iv 0, iv 0]) za_41) R fun b4 => (wls (sbx (cs' := [iv v7.1.Split, iv v7.1.A, iv v7.1.B]) tk_41 pz R R R R R R R) (wnt (wcg (wlq (pof fo_26_1 R) R (wlq (v := (sl x1l)) (plx tk_24 pk2 R R) R (wlq (v := .agg #[iv v7.1.Split, iv v7.1.A, iv v7.1.B]) (plb tk_41 pz R R R) R (wle (ebs R (sb_24_1 v7.1.Split v7.1.A v7.1.B)) R fun b5 => (gdO t1 fun g2 t1 => (wle (eo_append (xs := s1.1) (ys := ([v7.1] : List GCell)) ak_24 pk5 R R (slin_rd fun _ g => Rg.on (rgo (pbo pz (n := 1) (xs := ([v7.1] : List GCell)) R R (by unfold maxLen; omega))) g) g2) R fun x4 => ?_))))))))))))))))))))))))))
 refine wlq (pof fo_26_1 R) R (wls (sbx (cs' := [iv (wr (1 + v6.1)), (sl x4)]) tk_24 pk4 R R R R R R R) (wln (wqb (wqt (wcg (mv R R (wlq (po_inc R R (by omega)) R ?_)))))))
 exact asg R R (wln (wq_rnd hk1 (stpN l1 t1) x4 (su5 R R R R R) (zc pz (zc pk3 (zc pk3 so1)))))
 have c1 : (decide (((k1 : Nat) : Int) < (wr ((wr (1 + v6.1)) * (wr (1 + v6.1)))))) = false := ddf (by omega)
 have en1 := foe l1 hk1
 exact wcs (wcr (mv R R (mv R R (mv R R (wlq (po_mul R R) R (wlq (pls R R) R (wnt (wff R c1 (wcx (wqe (wqe (wbx (wjm _ x1l (Sum.inl.inj en1) (su2 R R) so4)))))))))))))
 intro e1 x3 hp
 obtain rfl : e1 = y1 := hp.symm
 refine wqt (wcr (wlq (v := .agg #[iv (wr (1 + v6.1)), (sl x3)]) (plb tk_26 pz R R R) R (wls (sbx (cs' := [iv (wr (1 + v6.1)), (sl x3)]) tk_26 pk2 R R R R R R R) (wnt (wct ?_)))))
 obtain rfl := oi t0
 exact wqc R tk_26 R pz R fun w hw => ⟨x3, R, hw.weak (zc pk3 (zc pk2 zn))⟩

theorem c_spec_DrawBlock (w : World) (a_code : List UInt8) (v0a : Hd) (r0 : rdF w (dm w []) (sl v0a) a_code) {r : GBlock} (t0 : spec_DrawBlock a_code = some r) : Calls Tryd.prog 5 #[(sl v0a)] w fun e w' => ∃ x : Hd, e = .returned (.agg #[.int .i64 r.Size, (sl x)]) ∧ SH w [] [ownF (sl x) r.Cells] w' := by
 refine cwc (args := [_]) Tryd.func5 R Tryd.ntmps5 R ?_
 unfold spec_DrawBlock at t0
 refine wcr (wle (eal (cs := [iv 0, (sl hn)]) za_26) R fun b1 => (wnt (wcr (mv R R (bdO t0 fun v1 hv1 t0 => (wlc (cz1 fa_18 R fun w hw => c_spec_l01New w a_code v0a (ra r0 hw) hv1) R fun x1 => (bdO t0 fun v2 hv2 t0 => (wlc (co_o2 [box x1 [(sl v0a), iv v1.1, iv v1.2]] fa_17 (zc pz some_refl) R fun w fp hw => c_spec_l03Block w fp x1 a_code v0a ((rdo_arg r0) w fp hw) v1.1 v1.2 hw.ow hv2) R fun x2 => (wls (sbx (cs' := [iv v2.1.Size, (sl x2)]) tk_26 pk2 R R R R R R R) (wnt (wct ?_)))))))))))
 obtain rfl := oi t0
 exact wqc R tk_26 R pz R fun w hw => ⟨x2, R, hw.weak (zc pk1 zn)⟩

theorem c_impl_within (w : World) (a_n : Int) (a_a : Int) (a_b : Int) {r : Bool} (t0 : impl_within a_n a_a a_b = some r) : Calls Tryd.prog 22 #[.int .i64 a_n, .int .i64 a_a, .int .i64 a_b] w fun e w' => e = .returned (.bool r) ∧ SH w [] [] w' := by
 refine cwc (args := [_, _, _]) Tryd.func22 R Tryd.ntmps22 R ?_
 unfold impl_within at t0
 refine wcr (asg R R (wnt (wcs (wcj (X := Unit) (fun _ => True) (fun _ => [(6, .bool ((decide (a_n ≥ a_a)) && (decide (a_n ≤ a_b))))]) (fun _ => []) ?_ ?_))))
 refine wcg (mv R R (mv R R (wlq (po_geq R R) R (mv R R (wl_fork (t := 10) R (fun h1 => ?_) fun h1 => ?_)))))
 exact wgn (j := 3) R R R (mv R R (wgn (j := 3) R R R (mv R R (wgn (j := 3) R R R (wlq (po_leq R R) R (wlq (pit R R) R (asg R R (wln (wqm () trivial (sub_b R (by rw [h1]; rfl) yn) zn)))))))))
 exact wgf (j := 3) R R R R R (wgf (j := 3) R R R R R (wgf (j := 3) R R R R R (wlq (pif R R) R (asg R R (wln (wqm () trivial (sub_b R (by rw [h1]; rfl) yn) zn))))))
 intro _ _
 refine wqt (wct ?_)
 obtain rfl := oi t0
 exact wq1 R R fun w hw => ⟨R, hw.weak zn⟩

theorem c_impl_isColor (w : World) (a_a : Int) {r : Bool} (t0 : impl_isColor a_a = some r) : Calls Tryd.prog 60 #[.int .i64 a_a] w fun e w' => e = .returned (.bool r) ∧ SH w [] [] w' := by
 refine cwc (args := [_]) Tryd.func60 R Tryd.ntmps60 R ?_
 unfold impl_isColor at t0
 refine wcr (asg R R (wnt (wcr (mv R R (bdO t0 fun v1 hv1 t0 => (wlc (cz0 fa_22 R fun w hw => c_impl_within w a_a 0 5 hv1) R fun _ => (asg R R (wnt (wct ?_)))))))))
 obtain rfl := oi t0
 exact wq1 R R fun w hw => ⟨R, hw.weak zn⟩

theorem c_impl_CellOk (w : World) (a_c : GCell) {r : Bool} (t0 : impl_CellOk a_c = some r) : Calls Tryd.prog 39 #[.agg #[.int .i64 a_c.Split, .int .i64 a_c.A, .int .i64 a_c.B]] w fun e w' => e = .returned (.bool r) ∧ SH w [] [] w' := by
 refine cwc (args := [_]) Tryd.func39 R Tryd.ntmps39 R ?_
 unfold impl_CellOk at t0
 refine wcr (wle (eo_box R R) R fun b1 => (asg R R (wnt (wcs (bdO t0 fun y1 t1 t0 => (wj (J := Bool) (X := Unit) (fun z => y1 = z) (fun z _ => [(2, .bool z)]) (fun _ _ => []) ?_ ?_))))))
 refine wcg (wlq (pof fo_41_0 R) R (wlq (v := iv a_c.Split) (plx tk_3 pz R R) R (bdO t1 fun v1 hv1 t1 => (wlc (cz0 fa_22 R fun w hw => c_impl_within w a_c.Split 0 2 hv1) R fun _ => (mv R R (wlo (t := 6) t1 R (fun h1 t1 => ?_) fun h1 t1 => ?_))))))
 refine wgn (j := 3) R R R (wlq (pof fo_41_1 R) R (wgn (j := 3) R R R (wlq (v := iv a_c.A) (plx tk_3 pz R R) R (bdO t1 fun v2 hv2 t1 => (wgn (j := 3) R R R (wlc (cz0 fa_60 R fun w hw => c_impl_isColor w a_c.A hv2) R (fun _ => (wlq (pit R R) R (mv R R (wlo (t := 11) t1 R (fun h2 t1 => ?_) fun h2 t1 => ?_))))))))))
 refine wgn (j := 8) R R R (wlq (pof fo_41_2 R) R (wgn (j := 8) R R R (wlq (v := iv a_c.B) (plx tk_3 pz R R) R (bdO t1 fun v3 hv3 t1 => (wgn (j := 8) R R R (wlc (cz0 fa_60 R fun w hw => c_impl_isColor w a_c.B hv3) R (fun _ => (wlq (pit R R) R (mv R R (wlo (t := 16) t1 R (fun h3 t1 => ?_) fun h3 t1 => ?_))))))))))
 exact wgn (j := 13) R R R (wlq (pof fo_41_0 R) R (wgn (j := 13) R R R (wlq (v := iv a_c.Split) (plx tk_3 pz R R) R (wgn (j := 13) R R R (wlq (pol R R) R (wgn (j := 13) R R R (wlq (pof fo_41_1 R) R (wgn (j := 13) R R R (wlq (v := iv a_c.A) (plx tk_3 pz R R) R (wgn (j := 13) R R R (wlq (pof fo_41_2 R) R (wgn (j := 13) R R R (wlq (v := iv a_c.B) (plx tk_3 pz R R) R (wgn (j := 13) R R R (wlq (pol R R) R (wgn (j := 13) R R R (wlq (po_eql_bool ub_4 R R) R (wlq (pit R R) R (asg R R (wln (wjm _ () (mtE t1) (su1 R) zn)))))))))))))))))))))
 exact wgf (j := 13) R R R R R (wgf (j := 13) R R R R R (wgf (j := 13) R R R R R (wgf (j := 13) R R R R R (wgf (j := 13) R R R R R (wgf (j := 13) R R R R R (wgf (j := 13) R R R R R (wgf (j := 13) R R R R R (wgf (j := 13) R R R R R (wlq (pif R R) R (asg R R (wln (wjm _ () (mtE t1) (su1 R) zn))))))))))))
 exact wgf (j := 8) R R R R R (wgf (j := 8) R R R R R (wgf (j := 8) R R R R R (wlq (pif R R) R (mv R R (wgf (j := 13) R R R R R (wgf (j := 13) R R R R R (wgf (j := 13) R R R R R (wgf (j := 13) R R R R R (wgf (j := 13) R R R R R (wgf (j := 13) R R R R R (wgf (j := 13) R R R R R (wgf (j := 13) R R R R R (wgf (j := 13) R R R R R (wlq (pif R R) R (asg R R (wln (wjm _ () (mtE t1) (su1 R) zn)))))))))))))))))
 exact wgf (j := 3) R R R R R (wgf (j := 3) R R R R R (wgf (j := 3) R R R R R (wlq (pif R R) R (mv R R (wgf (j := 8) R R R R R (wgf (j := 8) R R R R R (wgf (j := 8) R R R R R (wlq (pif R R) R (mv R R (wgf (j := 13) R R R R R (wgf (j := 13) R R R R R (wgf (j := 13) R R R R R (wgf (j := 13) R R R R R (wgf (j := 13) R R R R R (wgf (j := 13) R R R R R (wgf (j := 13) R R R R R (wgf (j := 13) R R R R R (wgf (j := 13) R R R R R (wlq (pif R R) R (asg R R (wln (wjm _ () (mtE t1) (su1 R) zn))))))))))))))))))))))
 intro j1 _ hp
 obtain rfl : j1 = y1 := hp.symm
 refine wqt (wct ?_)
 obtain rfl := oi t0
 exact wq1 R R fun w hw => ⟨R, hw.weak zn⟩

theorem c_impl_BlockOk (w : World) (a_b : GBlock) (v0a : Hd) (r0 : rdF w (dm w []) (sl v0a) a_b.Cells) {r : Bool} (t0 : impl_BlockOk a_b = some r) : Calls Tryd.prog 19 #[.agg #[.int .i64 a_b.Size, (sl v0a)]] w fun e w' => e = .returned (.bool r) ∧ SH w [] [] w' := by
 refine cwc (args := [_]) Tryd.func19 R Tryd.ntmps19 R ?_
 unfold impl_BlockOk at t0
 refine wcr (wle (eo_box R R) R fun b1 => (asg R R (wnt (wcs (wcs (bdO t0 fun y1 t1 t0 => (wj (J := Bool) (X := Unit) (fun z => y1 = z) (fun z _ => [(1, ptr b1 0), (19, .bool z)]) (fun _ _ => [box b1 [iv a_b.Size, (sl v0a)]]) ?_ ?_)))))))
 refine wcg (wlq (pof fo_26_0 R) R (wlq (v := iv a_b.Size) (plx tk_3 pz R R) R (bdO t1 fun v1 hv1 t1 => (wlc (cz0 fa_22 R fun w hw => c_impl_within w a_b.Size 1 4 hv1) R fun _ => (wlq (po_not R) R (mv R R (wlo (t := 9) t1 R (fun h1 t1 => ?_) fun h1 t1 => ?_)))))))
 exact wgf (j := 4) R R R R R (wgf (j := 4) R R R R R (wgf (j := 4) R R R R R (wgf (j := 4) R R R R R (wgf (j := 4) R R R R R (wgf (j := 4) R R R R R (wgf (j := 4) R R R R R (wgf (j := 4) R R R R R (wgf (j := 4) R R R R R (wlq (pit R R) R (wln (wjm _ () (mtE t1) (su2 R R) so1)))))))))))
 exact wgn (j := 4) R R R (wlq (pof fo_26_1 R) R (wgn (j := 4) R R R (wlq (v := (sl v0a)) (plx tk_24 pz R R) R (wgn (j := 4) R R R (wlq (pln (rga r0) el_24 R) R (wgn (j := 4) R R R (wlq (pof fo_26_0 R) R (wgn (j := 4) R R R (wlq (v := iv a_b.Size) (plx tk_3 pz R R) R (wgn (j := 4) R R R (wlq (pof fo_26_0 R) R (wgn (j := 4) R R R (wlq (v := iv a_b.Size) (plx tk_3 pz R R) R (wgn (j := 4) R R R (wlq (po_mul R R) R (wgn (j := 4) R R R (wlq (po_neq R R) R (wlq (pif R R) R (wln (wjm _ () (mtE t1) (su2 R R) so1))))))))))))))))))))
 intro j1 _ hp
 obtain rfl : j1 = y1 := hp.symm
 refine wqt (wcO t0 R (fun h2 t0 => ?_) fun h2 t0 => ?_)
 refine wcr (asg R R (wnt (wct (wqr ?_))))
 obtain rfl := oi t0
 exact wq1 R R fun w hw => ⟨R, hw.weak zn⟩
 refine wck (wqt (wcs (wcr (wlq (pof fo_26_1 R) R (wlq (v := (sl v0a)) (plx tk_24 pz R R) R (wlq (pln (rga r0) el_24 R) R (mv R R (wnt (gdO t0 fun g1 t0 => (sqO t0 fun y1 l1 t0 => (wj (J := Unit) (X := Unit) (fun z => y1 = .inl z) (fun _ _ => []) (fun _ _ => []) ?_ ?_)))))))))))
 refine wcb (wcf (X := Unit) l1 (fun k1 s1 x1l => [(21, (sl v0a)), (22, iv ((a_b.Cells.length : Nat) : Int)), (23, iv ((k1 : Nat) : Int))]) (fun k1 s1 x1l => []) () (su3 R R R) zn fun k1 s1 x1l hN1 l1 => ?_)
 by_cases hk1 : k1 < a_b.Cells.length
 refine fos l1 hk1 fun _ t1 l1 => ?_
 unfold impl_BlockOk_L1 at t1
 have c1 : (decide (((k1 : Nat) : Int) < ((a_b.Cells.length : Nat) : Int))) = true := ddt (by omega)
 refine wcr (wlq (pls R R) R (wnt (wcs (wft R c1 (wck (wqt (wcs (wcb (wcr (wlq (po_ixn (k := k1) (rga r0) el_24 R R hk1) R (wlq (v := .agg #[iv ((gx a_b.Cells k1).Split), iv ((gx a_b.Cells k1).A), iv ((gx a_b.Cells k1).B)]) (po_ldfs (rga r0) tk_41 R hk1 R R R) R (wle (eal (cs := [iv 0, iv 0, iv 0]) za_41) R fun b2 => (wls (sbx (cs' := [iv ((gx a_b.Cells k1).Split), iv ((gx a_b.Cells k1).A), iv ((gx a_b.Cells k1).B)]) tk_41 pz R R R R R R R) (wnt (wcr (wlq (v := .agg #[iv ((gx a_b.Cells k1).Split), iv ((gx a_b.Cells k1).A), iv ((gx a_b.Cells k1).B)]) (plb tk_41 pz R R R) R (bdO t1 fun v2 hv2 t1 => (wlc (cz0 fa_39 R fun w hw => c_impl_CellOk w (gx a_b.Cells k1) hv2) R fun _ => (wlq (po_not R) R (wnt (wcO t1 R (fun h3 t1 => ?_) fun h3 t1 => ?_)))))))))))))))))))))
 refine wcr (asg R R (wnt (wct (wbr (wqr (wqr (wbr (wqr (wqr ?_)))))))))
 replace t0 := lpR t0 l1 t1
 obtain rfl := oi t0
 exact wq1 R R fun w hw => ⟨R, hw.weak zn⟩
 refine wck (wqb (wqt (wcg (wlq (po_inc R R (by omega)) R ?_))))
 exact mv R R (wln (wq_rnd hk1 (stpN l1 t1) () (su3 R R R) zn))
 have c1 : (decide (((k1 : Nat) : Int) < ((a_b.Cells.length : Nat) : Int))) = false := ddf (by omega)
 have en1 := foe l1 hk1
 exact wcr (wlq (pls R R) R (wnt (wcs (wff R c1 (wcx (wqe (wqe (wbx (wjm _ () en1 yn zn)))))))))
 intro e1 _ hp
 replace t0 := sqE (j := e1) t0 hp
 refine wqt (wcr (asg R R (wnt (wct ?_))))
 obtain rfl := oi t0
 exact wq1 R R fun w hw => ⟨R, hw.weak zn⟩

theorem c_impl_CellArea (w : World) (a_c : GCell) (a_a : Int) {r : Int} (t0 : impl_CellArea a_c a_a = some r) : Calls Tryd.prog 61 #[.agg #[.int .i64 a_c.Split, .int .i64 a_c.A, .int .i64 a_c.B], .int .i64 a_a] w fun e w' => e = .returned (.int .i64 r) ∧ SH w [] [] w' := by
 refine cwc (args := [_, _]) Tryd.func61 R Tryd.ntmps61 R ?_
 unfold impl_CellArea at t0
 refine wcr (wle (eo_box R R) R fun b1 => (asg R R (wnt (wcr (asg R R (wnt (wcs (wcs (bdO t0 fun y1 t1 t0 => (wj (J := Bool) (X := Unit) (fun z => y1 = z) (fun z _ => [(1, iv a_a), (2, ptr b1 0), (5, iv 0), (13, .bool z)]) (fun _ _ => [box b1 [iv a_c.Split, iv a_c.A, iv a_c.B]]) ?_ ?_))))))))))
 refine wcg (wlq (v := .agg #[iv a_c.Split, iv a_c.A, iv a_c.B]) (plb tk_41 pz R R R) R (bdO t1 fun v1 hv1 t1 => (wlc (cz0 fa_39 R fun w hw => c_impl_CellOk w a_c hv1) R fun _ => (mv R R (wlo (t := 8) t1 R (fun h1 t1 => ?_) fun h1 t1 => ?_)))))
 exact wgn (j := 2) R R R (wlq (pof fo_41_1 R) R (wgn (j := 2) R R R (wlq (v := iv a_c.A) (plx tk_3 pz R R) R (wgn (j := 2) R R R (mv R R (wgn (j := 2) R R R (wlq (pol R R) R (wlq (pit R R) R (wln (wjm _ () (mtE t1) (su4 R R R R) so1))))))))))
 exact wgf (j := 2) R R R R R (wgf (j := 2) R R R R R (wgf (j := 2) R R R R R (wgf (j := 2) R R R R R (wlq (pif R R) R (wln (wjm _ () (mtE t1) (su4 R R R R) so1))))))
 intro j1 _ hp
 obtain rfl : j1 = y1 := hp.symm
 refine wqt (wcj (X := Unit) (fun _ => True) (fun _ => [(1, iv a_a), (2, ptr b1 0), (5, iv (bif j1 then (wr (0 + 2)) else 0))]) (fun _ => [box b1 [iv a_c.Split, iv a_c.A, iv a_c.B]]) ?_ ?_)
 refine wc_cond R (fun h2 => ?_) fun h2 => ?_
 exact wcg (mv R R (wlq (po_add R R) R (asg R R (wln (wqm () trivial (yc R (yc R (sub_i R (by simp only [h2, cond_true]) yn))) so1)))))
 exact wck (wqm () trivial (yc R (yc R (sub_i R (by simp only [h2, cond_false]) yn))) so1)
 intro _ _
 refine wqt (wcs (wcs (bdO t0 fun y1 t1 t0 => (wj (J := Bool) (X := Unit) (fun z => y1 = z) (fun z _ => [(5, iv (bif j1 then (wr (0 + 2)) else 0)), (23, .bool z)]) (fun _ _ => []) ?_ ?_))))
 refine wcg (wlq (v := .agg #[iv a_c.Split, iv a_c.A, iv a_c.B]) (plb tk_41 pz R R R) R (bdO t1 fun v2 hv2 t1 => (wlc (cz0 fa_39 R fun w hw => c_impl_CellOk w a_c hv2) R fun _ => (mv R R (wlo (t := 18) t1 R (fun h3 t1 => ?_) fun h3 t1 => ?_)))))
 exact wgn (j := 2) R R R (wlq (pof fo_41_2 R) R (wgn (j := 2) R R R (wlq (v := iv a_c.B) (plx tk_3 pz R R) R (wgn (j := 2) R R R (mv R R (wgn (j := 2) R R R (wlq (pol R R) R (wlq (pit R R) R (wln (wjm _ () (mtE t1) (su2 R R) zn))))))))))
 exact wgf (j := 2) R R R R R (wgf (j := 2) R R R R R (wgf (j := 2) R R R R R (wgf (j := 2) R R R R R (wlq (pif R R) R (wln (wjm _ () (mtE t1) (su2 R R) zn))))))
 intro j3 _ hp
 obtain rfl : j3 = y1 := hp.symm
 refine wqt (wcj (X := Unit) (fun _ => True) (fun _ => [(5, iv (bif j3 then (wr ((bif j1 then (wr (0 + 2)) else 0) + 2)) else (bif j1 then (wr (0 + 2)) else 0)))]) (fun _ => []) ?_ ?_)
 refine wc_cond R (fun h4 => ?_) fun h4 => ?_
 exact wcg (mv R R (wlq (po_add R R) R (asg R R (wln (wqm () trivial (sub_i R (by simp only [h4, cond_true]) yn) zn)))))
 exact wck (wqm () trivial (sub_i R (by simp only [h4, cond_false]) yn) zn)
 intro _ _
 refine wqt (wcr (mv R R (asg R R (wnt (wct ?_)))))
 obtain rfl := oi t0
 exact wq1 R R fun w hw => ⟨R, hw.weak zn⟩

theorem c_impl_AreaOf (w : World) (a_b : GBlock) (v0a : Hd) (r0 : rdF w (dm w []) (sl v0a) a_b.Cells) (a_a : Int) {r : Int} (t0 : impl_AreaOf a_b a_a = some r) : Calls Tryd.prog 40 #[.agg #[.int .i64 a_b.Size, (sl v0a)], .int .i64 a_a] w fun e w' => e = .returned (.int .i64 r) ∧ SH w [] [] w' := by
 refine cwc (args := [_, _]) Tryd.func40 R Tryd.ntmps40 R ?_
 unfold impl_AreaOf at t0
 refine wcr (wle (eo_box R R) R fun b1 => (asg R R (wnt (wcs (wcr (wlq (v := .agg #[iv a_b.Size, (sl v0a)]) (plb tk_26 pz R R R) R (bdO t0 fun v1 hv1 t0 => (wlc (cz0 fa_19 R fun w hw => c_impl_BlockOk w a_b v0a (ra r0 hw) hv1) R fun _ => (wlq (po_not R) R (wnt (wcO t0 R (fun h1 t0 => ?_) fun h1 t0 => ?_)))))))))))
 refine wcr (asg R R (wnt (wct (wqr ?_))))
 obtain rfl := oi t0
 exact wq1 R R fun w hw => ⟨R, hw.weak zn⟩
 refine wck (wqt (wcr (asg R R (wnt (wcs (wcr (wlq (pof fo_26_1 R) R (wlq (v := (sl v0a)) (plx tk_24 pz R R) R (wlq (pln (rga r0) el_24 R) R (mv R R (wnt (gdO t0 fun g1 t0 => (lpO_inv t0 fun y1 l1 t0 => (wj (J := Int) (X := Unit) (fun z => y1 = z) (fun z _ => [(5, iv z)]) (fun _ _ => []) ?_ ?_))))))))))))))
 refine wcb (wcf (X := Unit) l1 (fun k1 s1 x1l => [(1, iv a_a), (5, iv s1), (12, (sl v0a)), (13, iv ((a_b.Cells.length : Nat) : Int)), (14, iv ((k1 : Nat) : Int))]) (fun k1 s1 x1l => []) () (su5 R R R R R) zn fun k1 s1 x1l hN1 l1 => ?_)
 by_cases hk1 : k1 < a_b.Cells.length
 refine fos l1 hk1 fun _ t1 l1 => ?_
 unfold impl_AreaOf_L1 at t1
 have c1 : (decide (((k1 : Nat) : Int) < ((a_b.Cells.length : Nat) : Int))) = true := ddt (by omega)
 refine wcr (wlq (pls R R) R (wnt (wcs (wft R c1 (wck (wqt (wcs (wcb (wcr (wlq (po_ixn (k := k1) (rga r0) el_24 R R hk1) R (wlq (v := .agg #[iv ((gx a_b.Cells k1).Split), iv ((gx a_b.Cells k1).A), iv ((gx a_b.Cells k1).B)]) (po_ldfs (rga r0) tk_41 R hk1 R R R) R (wle (eal (cs := [iv 0, iv 0, iv 0]) za_41) R fun b2 => (wls (sbx (cs' := [iv ((gx a_b.Cells k1).Split), iv ((gx a_b.Cells k1).A), iv ((gx a_b.Cells k1).B)]) tk_41 pz R R R R R R R) (wnt (wcg (mv R R (wlq (v := .agg #[iv ((gx a_b.Cells k1).Split), iv ((gx a_b.Cells k1).A), iv ((gx a_b.Cells k1).B)]) (plb tk_41 pz R R R) R (mv R R (bdO t1 fun v2 hv2 t1 => (wlc (cz0 fa_61 R fun w hw => c_impl_CellArea w (gx a_b.Cells k1) a_a hv2) R fun _ => (wlq (po_add R R) R (asg R R (wln (wqb (wqt (wcg (wlq (po_inc R R (by omega)) R ?_)))))))))))))))))))))))))))
 exact mv R R (wln (wq_rnd hk1 (stpN l1 t1) () (su5 R R R R R) zn))
 have c1 : (decide (((k1 : Nat) : Int) < ((a_b.Cells.length : Nat) : Int))) = false := ddf (by omega)
 have en1 := foe l1 hk1
 exact wcr (wlq (pls R R) R (wnt (wcs (wff R c1 (wcx (wqe (wqe (wbx (wjm _ () (Sum.inl.inj en1) (su1 R) zn)))))))))
 intro e1 _ hp
 obtain rfl : e1 = y1 := hp.symm
 refine wqt (wcr (mv R R (asg R R (wnt (wct ?_)))))
 obtain rfl := oi t0
 exact wq1 R R fun w hw => ⟨R, hw.weak zn⟩

theorem c_impl_ColorsOf (w : World) (a_b : GBlock) (v0a : Hd) (r0 : rdF w (dm w []) (sl v0a) a_b.Cells) {r : List Int} (t0 : impl_ColorsOf a_b = some r) : Calls Tryd.prog 21 #[.agg #[.int .i64 a_b.Size, (sl v0a)]] w fun e w' => ∃ x : Hd, e = .returned ((sl x)) ∧ SH w [] [ownF (sl x) r] w' := by
 refine cwc (args := [_]) Tryd.func21 R Tryd.ntmps21 R ?_
 unfold impl_ColorsOf at t0
 refine wcr (wle (eo_box R R) R fun b1 => (asg R R (wnt (wcs (wcr (wlq (v := .agg #[iv a_b.Size, (sl v0a)]) (plb tk_26 pz R R R) R (bdO t0 fun v1 hv1 t0 => (wlc (cz0 fa_19 R fun w hw => c_impl_BlockOk w a_b v0a (ra r0 hw) hv1) R fun _ => (wlq (po_not R) R (wnt (wcO t0 R (fun h1 t0 => ?_) fun h1 t0 => ?_)))))))))))
 refine wcr (asg R R (wnt (wct (wqr ?_))))
 obtain rfl := oi t0
 exact wq1 R R fun w hw => ⟨hn, R, hw.weak (zc pick_nil zn)⟩
 refine wck (wqt (wcr (wle (ebs R sb_29_0) R fun b2 => (asg R R (wnt (wcs (wcr (mv R R (wnt (lpO_inv t0 fun y1 l1 t0 => (wj (J := List Int) (X := Hd) (fun z => y1 = z) (fun _ x => [(3, (sl x))]) (fun z x => [ownF (sl x) z]) ?_ ?_)))))))))))
 refine wcb (wcf (X := Hd) l1 (fun k1 s1 x1l => [(1, ptr b1 0), (3, (sl x1l)), (9, iv ((k1 : Nat) : Int))]) (fun k1 s1 x1l => [box b1 [iv a_b.Size, (sl v0a)], ownF (sl x1l) s1]) (⟨some ⟨b2, 0, none⟩, 0, 0⟩ : Hd) (su3 R R R) (zc pk1 (zc (pbo pz (n := 0) (xs := ([] : List Int)) R R (by unfold maxLen; omega)) zn)) fun k1 s1 x1l hN1 l1 => ?_)
 by_cases hk1 : k1 < 6
 refine fos l1 hk1 fun _ t1 l1 => ?_
 unfold impl_ColorsOf_L1 at t1
 have c1 : (decide (((k1 : Nat) : Int) < 6)) = true := ddt (by omega)
 refine wcr (wlq (pls R R) R (wnt (wcs (wft R c1 (wck (wqt (wcs (wcb (wcr (mv R R (asg R R (wnt (wcr (wlq (v := .agg #[iv a_b.Size, (sl v0a)]) (plb tk_26 pz R R R) R (mv R R (bdO t1 fun v2 hv2 t1 => (wlc (cz0 fa_40 R fun w hw => c_impl_AreaOf w a_b v0a (ra r0 hw) ((k1 : Nat) : Int) hv2) R fun _ => (wlq (po_gtr R R) R (wnt (bdO t1 fun y2 t2 t1 => (wj (J := List Int) (X := Hd) (fun z => y2 = z) (fun _ x => [(1, ptr b1 0), (3, (sl x)), (9, iv ((k1 : Nat) : Int))]) (fun z x => [box b1 [iv a_b.Size, (sl v0a)], ownF (sl x) z]) ?_ ?_)))))))))))))))))))))
 refine wcO t2 R (fun h2 t2 => ?_) fun h2 t2 => ?_
 refine wcg (mv R R (mv R R (wle (ebs R (sb_29_1 ((k1 : Nat) : Int))) R fun b3 => (gdO t2 fun g1 t2 => (wle (eo_append (xs := s1) (ys := ([((k1 : Nat) : Int)] : List Int)) ak_29 pk2 R R (slin_rd fun _ g => Rg.on (rgo (pbo pz (n := 1) (xs := ([((k1 : Nat) : Int)] : List Int)) R R (by unfold maxLen; omega))) g) g1) R fun x3 => ?_)))))
 exact asg R R (wln (wjm _ x3 (mtE t2) (su3 R R R) (zc pk2 so1)))
 exact wck (wjm _ x1l (mtE t2) (su3 R R R) so2)
 intro j1 x2 hp
 obtain rfl : j1 = y2 := hp.symm
 refine wqb (wqt (wcg (wlq (po_inc R R (by omega)) R ?_)))
 exact mv R R (wln (wq_rnd hk1 (stpN l1 t1) x2 (su3 R R R) so2))
 have c1 : (decide (((k1 : Nat) : Int) < 6)) = false := ddf (by omega)
 have en1 := foe l1 hk1
 exact wcr (wlq (pls R R) R (wnt (wcs (wff R c1 (wcx (wqe (wqe (wbx (wjm _ x1l (Sum.inl.inj en1) (su1 R) (zc pk1 zn))))))))))
 intro e1 x1 hp
 obtain rfl : e1 = y1 := hp.symm
 refine wqt (wcr (mv R R (asg R R (wnt (wct ?_)))))
 obtain rfl := oi t0
 exact wq1 R R fun w hw => ⟨x1, R, hw.weak so1⟩

theorem c_impl_choices (w : World) (a_n : Int) {r : Int} (t0 : impl_choices a_n = some r) : Calls Tryd.prog 20 #[.int .i64 a_n] w fun e w' => e = .returned (.int .i64 r) ∧ SH w [] [] w' := by
 refine cwc (args := [_]) Tryd.func20 R Tryd.ntmps20 R ?_
 unfold impl_choices at t0
 refine wcr (asg R R (wnt (wcr (asg R R (wnt (wcs (wcr (mv R R (mv R R (wnt (gdO t0 fun g1 t0 => (lpO_inv t0 fun y1 l1 t0 => (wj (J := Int) (X := Unit) (fun z => y1 = z) (fun z _ => [(3, iv z)]) (fun _ _ => []) ?_ ?_)))))))))))))
 refine wcb (wcf (X := Unit) l1 (fun k1 s1 x1l => [(3, iv s1), (5, iv a_n), (6, iv ((k1 : Nat) : Int))]) (fun k1 s1 x1l => []) () (su3 R R R) zn fun k1 s1 x1l hN1 l1 => ?_)
 by_cases hk1 : k1 < (a_n).toNat
 refine fos l1 hk1 fun _ t1 l1 => ?_
 unfold impl_choices_L1 at t1
 have c1 : (decide (((k1 : Nat) : Int) < a_n)) = true := ddt (by omega)
 refine wcr (wlq (pls R R) R (wnt (wcs (wft R c1 (wck (wqt (wcs (wcb (wcr (mv R R (asg R R (wnt (wcg (mv R R (mv R R (wlq (po_sub R R) R (wlq (po_mul R R) R (asg R R (wln (wqb (wqt (wcg (wlq (po_inc R R (by omega)) R ?_)))))))))))))))))))))))
 exact mv R R (wln (wq_rnd hk1 (stpN l1 t1) () (su3 R R R) zn))
 have c1 : (decide (((k1 : Nat) : Int) < a_n)) = false := ddf (by omega)
 have en1 := foe l1 hk1
 exact wcr (wlq (pls R R) R (wnt (wcs (wff R c1 (wcx (wqe (wqe (wbx (wjm _ () (Sum.inl.inj en1) (su1 R) zn)))))))))
 intro e1 _ hp
 obtain rfl : e1 = y1 := hp.symm
 refine wqt (wcr (mv R R (asg R R (wnt (wct ?_)))))
 obtain rfl := oi t0
 exact wq1 R R fun w hw => ⟨R, hw.weak zn⟩

theorem c_impl_ColorwayCount (w : World) (a_b : GBlock) (v0a : Hd) (r0 : rdF w (dm w []) (sl v0a) a_b.Cells) {r : Int} (t0 : impl_ColorwayCount a_b = some r) : Calls Tryd.prog 6 #[.agg #[.int .i64 a_b.Size, (sl v0a)]] w fun e w' => e = .returned (.int .i64 r) ∧ SH w [] [] w' := by
 refine cwc (args := [_]) Tryd.func6 R Tryd.ntmps6 R ?_
 unfold impl_ColorwayCount at t0
 refine wcr (wle (eo_box R R) R fun b1 => (asg R R (wnt (wcs (wcr (wlq (v := .agg #[iv a_b.Size, (sl v0a)]) (plb tk_26 pz R R R) R (bdO t0 fun v1 hv1 t0 => (wlc (cz0 fa_19 R fun w hw => c_impl_BlockOk w a_b v0a (ra r0 hw) hv1) R fun _ => (wlq (po_not R) R (wnt (wcO t0 R (fun h1 t0 => ?_) fun h1 t0 => ?_)))))))))))
 refine wcr (asg R R (wnt (wct (wqr ?_))))
 obtain rfl := oi t0
 exact wq1 R R fun w hw => ⟨R, hw.weak zn⟩
 refine wck (wqt (wcr (wlq (v := .agg #[iv a_b.Size, (sl v0a)]) (plb tk_26 pz R R R) R (bdO t0 fun v2 hv2 t0 => (wlc (cz1 fa_21 R fun w hw => c_impl_ColorsOf w a_b v0a (ra r0 hw) hv2) R fun x1 => (wlq (pln (rgo pz) el_29 R) R (bdO t0 fun v3 hv3 t0 => (wlc (cz0 fa_20 R fun w hw => c_impl_choices w ((v2.length : Nat) : Int) hv3) R fun _ => (asg R R (wnt (wct ?_)))))))))))
 obtain rfl := oi t0
 exact wq1 R R fun w hw => ⟨R, hw.weak zn⟩

theorem c_spec_BlockOk (w : World) (a_b : GBlock) (v0a : Hd) (r0 : rdF w (dm w []) (sl v0a) a_b.Cells) {r : Bool} (t0 : spec_BlockOk a_b = some r) : Calls Tryd.prog 15 #[.agg #[.int .i64 a_b.Size, (sl v0a)]] w fun e w' => e = .returned (.bool r) ∧ SH w [] [] w' := by
 refine cwc (args := [_]) Tryd.func15 R Tryd.ntmps15 R ?_
 unfold spec_BlockOk at t0
 refine wcr (wle (eo_box R R) R fun b1 => (asg R R (wnt (wcs (wcs (bdO t0 fun y1 t1 t0 => (wj (J := Bool) (X := Unit) (fun z => y1 = z) (fun z _ => [(1, ptr b1 0), (18, .bool z)]) (fun _ _ => [box b1 [iv a_b.Size, (sl v0a)]]) ?_ ?_)))))))
 refine wcg (wlq (pof fo_26_0 R) R (wlq (v := iv a_b.Size) (plx tk_3 pz R R) R (bdO t1 fun v1 hv1 t1 => (wlc (cz0 fa_33 R fun w hw => c_spec_l01In w a_b.Size 1 4 hv1) R fun _ => (wlq (po_not R) R (mv R R (wlo (t := 8) t1 R (fun h1 t1 => ?_) fun h1 t1 => ?_)))))))
 exact wgf (j := 4) R R R R R (wgf (j := 4) R R R R R (wgf (j := 4) R R R R R (wgf (j := 4) R R R R R (wgf (j := 4) R R R R R (wgf (j := 4) R R R R R (wgf (j := 4) R R R R R (wgf (j := 4) R R R R R (wgf (j := 4) R R R R R (wlq (pit R R) R (wln (wjm _ () (mtE t1) (su2 R R) so1)))))))))))
 exact wgn (j := 4) R R R (wlq (pof fo_26_1 R) R (wgn (j := 4) R R R (wlq (v := (sl v0a)) (plx tk_24 pz R R) R (wgn (j := 4) R R R (wlq (pln (rga r0) el_24 R) R (wgn (j := 4) R R R (wlq (pof fo_26_0 R) R (wgn (j := 4) R R R (wlq (v := iv a_b.Size) (plx tk_3 pz R R) R (wgn (j := 4) R R R (wlq (pof fo_26_0 R) R (wgn (j := 4) R R R (wlq (v := iv a_b.Size) (plx tk_3 pz R R) R (wgn (j := 4) R R R (wlq (po_mul R R) R (wgn (j := 4) R R R (wlq (po_neq R R) R (wlq (pif R R) R (wln (wjm _ () (mtE t1) (su2 R R) so1))))))))))))))))))))
 intro j1 _ hp
 obtain rfl : j1 = y1 := hp.symm
 refine wqt (wcO t0 R (fun h2 t0 => ?_) fun h2 t0 => ?_)
 refine wcr (asg R R (wnt (wct (wqr ?_))))
 obtain rfl := oi t0
 exact wq1 R R fun w hw => ⟨R, hw.weak zn⟩
 refine wck (wqt (wcs (wcr (asg R R (wnt (gdO t0 fun g1 t0 => (sqO t0 fun y1 l1 t0 => (wj (J := Unit) (X := Unit) (fun z => y1 = .inl z) (fun _ _ => []) (fun _ _ => []) ?_ ?_))))))))
 refine wcb (wcf (X := Unit) l1 (fun k1 s1 x1l => [(1, ptr b1 0), (3, iv ((k1 : Nat) : Int))]) (fun k1 s1 x1l => [box b1 [iv a_b.Size, (sl v0a)]]) () (su2 R R) so1 fun k1 s1 x1l hN1 l1 => ?_)
 by_cases hk1 : k1 < a_b.Cells.length
 refine fos l1 hk1 fun _ t1 l1 => ?_
 unfold spec_BlockOk_L1 at t1
 have c1 : (decide (((k1 : Nat) : Int) < ((a_b.Cells.length : Nat) : Int))) = true := ddt (by omega)
 refine wcs (wcr (mv R R (wlq (pof fo_26_1 R) R (wlq (v := (sl v0a)) (plx tk_24 pz R R) R (wlq (pln (rga r0) el_24 R) R (wlq (pls R R) R (wnt (wft R c1 (wck (wqt (wcs (wcb (wcr (wlq (pof fo_26_1 R) R (wlq (v := (sl v0a)) (plx tk_24 pz R R) R (mv R R (wlq (po_ixn (k := k1) (rga r0) el_24 R R hk1) R (wlq (v := .agg #[iv ((gx a_b.Cells k1).Split), iv ((gx a_b.Cells k1).A), iv ((gx a_b.Cells k1).B)]) (po_ldfs (rga r0) tk_41 R hk1 R R R) R (bdO t1 fun v2 hv2 t1 => (wlc (cz0 fa_34 R fun w hw => c_spec_CellOk w (gx a_b.Cells k1) hv2) R fun _ => (wlq (po_not R) R (wnt (wcO t1 R (fun h3 t1 => ?_) fun h3 t1 => ?_)))))))))))))))))))))))
 refine wcr (asg R R (wnt (wct (wbr (wqr (wqr (wbr (wqr (wqr ?_)))))))))
 replace t0 := lpR t0 l1 t1
 obtain rfl := oi t0
 exact wq1 R R fun w hw => ⟨R, hw.weak zn⟩
 refine wck (wqb (wqt (wcg (mv R R (wlq (po_inc R R (by omega)) R ?_)))))
 exact asg R R (wln (wq_rnd hk1 (stpN l1 t1) () (su2 R R) so1))
 have c1 : (decide (((k1 : Nat) : Int) < ((a_b.Cells.length : Nat) : Int))) = false := ddf (by omega)
 have en1 := foe l1 hk1
 exact wcs (wcr (mv R R (wlq (pof fo_26_1 R) R (wlq (v := (sl v0a)) (plx tk_24 pz R R) R (wlq (pln (rga r0) el_24 R) R (wlq (pls R R) R (wnt (wff R c1 (wcx (wqe (wqe (wbx (wjm _ () en1 yn zn)))))))))))))
 intro e1 _ hp
 replace t0 := sqE (j := e1) t0 hp
 refine wqt (wcr (asg R R (wnt (wct ?_))))
 obtain rfl := oi t0
 exact wq1 R R fun w hw => ⟨R, hw.weak zn⟩

theorem c_spec_ColorsOf (w : World) (a_b : GBlock) (v0a : Hd) (r0 : rdF w (dm w []) (sl v0a) a_b.Cells) {r : List Int} (t0 : spec_ColorsOf a_b = some r) : Calls Tryd.prog 7 #[.agg #[.int .i64 a_b.Size, (sl v0a)]] w fun e w' => ∃ x : Hd, e = .returned ((sl x)) ∧ SH w [] [ownF (sl x) r] w' := by
 refine cwc (args := [_]) Tryd.func7 R Tryd.ntmps7 R ?_
 unfold spec_ColorsOf at t0
 refine wcr (wle (eo_box R R) R fun b1 => (asg R R (wnt (wcr (wle (ebs R sb_29_0) R fun b2 => (asg R R (wnt (wcs (wcr (wlq (v := .agg #[iv a_b.Size, (sl v0a)]) (plb tk_26 pk1 R R R) R (bdO t0 fun v1 hv1 t0 => (wlc (cz0 fa_15 R fun w hw => c_spec_BlockOk w a_b v0a (ra r0 hw) hv1) R fun _ => (wlq (po_not R) R (wnt (wcO t0 R (fun h1 t0 => ?_) fun h1 t0 => ?_)))))))))))))))
 refine wcr (mv R R (asg R R (wnt (wct (wqr ?_)))))
 obtain rfl := oi t0
 exact wq1 R R fun w hw => ⟨(⟨some ⟨b2, 0, none⟩, 0, 0⟩ : Hd), R, hw.weak (zc (pbo pz (n := 0) (xs := ([] : List Int)) R R (by unfold maxLen; omega)) zn)⟩
 refine wck (wqt (wcs (wcr (asg R R (wnt (lpO_inv t0 fun y1 l1 t0 => (wj (J := List Int) (X := Hd) (fun z => y1 = z) (fun _ x => [(3, (sl x))]) (fun z x => [ownF (sl x) z]) ?_ ?_)))))))
 refine wcb (wcf (X := Hd) l1 (fun k1 s1 x1l => [(1, ptr b1 0), (3, (sl x1l)), (4, iv ((k1 : Nat) : Int))]) (fun k1 s1 x1l => [box b1 [iv a_b.Size, (sl v0a)], ownF (sl x1l) s1]) (⟨some ⟨b2, 0, none⟩, 0, 0⟩ : Hd) (su3 R R R) (zc pk1 (zc (pbo pz (n := 0) (xs := ([] : List Int)) R R (by unfold maxLen; omega)) zn)) fun k1 s1 x1l hN1 l1 => ?_)
 by_cases hk1 : k1 < 6
 refine fos l1 hk1 fun _ t1 l1 => ?_
 unfold spec_ColorsOf_L1 at t1
 have c1 : (decide (((k1 : Nat) : Int) < 6)) = true := ddt (by omega)
 refine wcs (wcr (mv R R (wlq (pls R R) R (wnt (wft R c1 (wck (wqt (wcs (wcb (wcr (asg R R (wnt (wcs (wcr (asg R R (wnt (gdO t1 fun g1 t1 => (lpO_inv t1 fun y2 l2 t1 => (wj (J := Bool) (X := Unit) (fun z => y2 = z) (fun z _ => [(1, ptr b1 0), (3, (sl x1l)), (4, iv ((k1 : Nat) : Int)), (5, .bool z)]) (fun _ _ => [box b1 [iv a_b.Size, (sl v0a)], ownF (sl x1l) s1]) ?_ ?_)))))))))))))))))))
 refine wcb (wcf (X := Unit) l2 (fun k2 s2 x2l => [(1, ptr b1 0), (3, (sl x1l)), (4, iv ((k1 : Nat) : Int)), (5, .bool s2), (6, iv ((k2 : Nat) : Int))]) (fun k2 s2 x2l => [box b1 [iv a_b.Size, (sl v0a)], ownF (sl x1l) s1]) () (su5 R R R R R) so2 fun k2 s2 x2l hN2 l2 => ?_)
 by_cases hk2 : k2 < a_b.Cells.length
 refine fos l2 hk2 fun _ t2 l2 => ?_
 unfold spec_ColorsOf_L2 at t2
 have c2 : (decide (((k2 : Nat) : Int) < ((a_b.Cells.length : Nat) : Int))) = true := ddt (by omega)
 refine wcs (wcr (mv R R (wlq (pof fo_26_1 R) R (wlq (v := (sl v0a)) (plx tk_24 pz R R) R (wlq (pln (rga r0) el_24 R) R (wlq (pls R R) R (wnt (wft R c2 (wck (wqt (wcs (wcb (wcj (X := Unit) (fun _ => True) (fun _ => [(1, ptr b1 0), (3, (sl x1l)), (4, iv ((k1 : Nat) : Int)), (5, .bool (s2 || (((gx a_b.Cells k2).A == ((k1 : Nat) : Int)) || ((gx a_b.Cells k2).B == ((k1 : Nat) : Int))))), (6, iv ((k2 : Nat) : Int))]) (fun _ => [box b1 [iv a_b.Size, (sl v0a)], ownF (sl x1l) s1]) ?_ ?_)))))))))))))
 refine wcg (mv R R (mv R R (wl_fork (t := 24) R (fun h2 => ?_) fun h2 => ?_)))
 exact wgf (j := 1) R R R R R (wgf (j := 1) R R R R R (wgf (j := 1) R R R R R (wgf (j := 1) R R R R R (wgf (j := 1) R R R R R (wgf (j := 1) R R R R R (wgf (j := 1) R R R R R (wgf (j := 1) R R R R R (wlq (pit R R) R (mv R R (wgf (j := 11) R R R R R (wgf (j := 11) R R R R R (wgf (j := 11) R R R R R (wgf (j := 11) R R R R R (wgf (j := 11) R R R R R (wgf (j := 11) R R R R R (wgf (j := 11) R R R R R (wgf (j := 11) R R R R R (wlq (pit R R) R (asg R R (wln (wqm () trivial (yc R (yc R (yc R (sub_b R (by rw [h2]; rfl) (su1 R))))) so2)))))))))))))))))))))
 refine wgn (j := 1) R R R (wlq (pof fo_26_1 R) R (wgn (j := 1) R R R (wlq (v := (sl v0a)) (plx tk_24 pz R R) R (wgn (j := 1) R R R (mv R R (wgn (j := 1) R R R (wlq (po_ixn (k := k2) (rga r0) el_24 R R hk2) R (wgn (j := 1) R R R (wlq (po_sfldr (rga r0) hk2 fo_41_1 R) R (wgn (j := 1) R R R (wlq (v := iv ((gx a_b.Cells k2).A)) (po_ldf (rga r0) tk_3 R hk2 R) R (wgn (j := 1) R R R (mv R R (wgn (j := 1) R R R (wlq (pol R R) R (wlq (pif R R) R (mv R R (wl_fork (t := 34) R (fun h3 => ?_) fun h3 => ?_))))))))))))))))))
 exact wgf (j := 11) R R R R R (wgf (j := 11) R R R R R (wgf (j := 11) R R R R R (wgf (j := 11) R R R R R (wgf (j := 11) R R R R R (wgf (j := 11) R R R R R (wgf (j := 11) R R R R R (wgf (j := 11) R R R R R (wlq (pit R R) R (asg R R (wln (wqm () trivial (yc R (yc R (yc R (sub_b R (by rw [h2, h3]; rfl) (su1 R))))) so2)))))))))))
 exact wgn (j := 11) R R R (wlq (pof fo_26_1 R) R (wgn (j := 11) R R R (wlq (v := (sl v0a)) (plx tk_24 pz R R) R (wgn (j := 11) R R R (mv R R (wgn (j := 11) R R R (wlq (po_ixn (k := k2) (rga r0) el_24 R R hk2) R (wgn (j := 11) R R R (wlq (po_sfldr (rga r0) hk2 fo_41_2 R) R (wgn (j := 11) R R R (wlq (v := iv ((gx a_b.Cells k2).B)) (po_ldf (rga r0) tk_3 R hk2 R) R (wgn (j := 11) R R R (mv R R (wgn (j := 11) R R R (wlq (pol R R) R (wlq (pif R R) R (asg R R (wln (wqm () trivial (yc R (yc R (yc R (sub_b R (by rw [h2, h3]; rfl) (su1 R))))) so2)))))))))))))))))))
 intro _ _
 refine wqb (wqt (wcg (mv R R (wlq (po_inc R R (by omega)) R ?_))))
 exact asg R R (wln (wq_rnd hk2 (stpN l2 t2) () (su5 R R R R R) so2))
 have c2 : (decide (((k2 : Nat) : Int) < ((a_b.Cells.length : Nat) : Int))) = false := ddf (by omega)
 have en1 := foe l2 hk2
 exact wcs (wcr (mv R R (wlq (pof fo_26_1 R) R (wlq (v := (sl v0a)) (plx tk_24 pz R R) R (wlq (pln (rga r0) el_24 R) R (wlq (pls R R) R (wnt (wff R c2 (wcx (wqe (wqe (wbx (wjm _ () (Sum.inl.inj en1) (su4 R R R R) so2)))))))))))))
 intro e2 _ hp
 obtain rfl : e2 = y2 := hp.symm
 refine wqt (wcr (mv R R (wnt (bdO t1 fun y2 t2 t1 => (wj (J := List Int) (X := Hd) (fun z => y2 = z) (fun _ x => [(1, ptr b1 0), (3, (sl x)), (4, iv ((k1 : Nat) : Int))]) (fun z x => [box b1 [iv a_b.Size, (sl v0a)], ownF (sl x) z]) ?_ ?_)))))
 refine wcO t2 R (fun h4 t2 => ?_) fun h4 t2 => ?_
 refine wcg (mv R R (mv R R (wle (ebs R (sb_29_1 ((k1 : Nat) : Int))) R fun b3 => (gdO t2 fun g2 t2 => (wle (eo_append (xs := s1) (ys := ([((k1 : Nat) : Int)] : List Int)) ak_29 pk2 R R (slin_rd fun _ g => Rg.on (rgo (pbo pz (n := 1) (xs := ([((k1 : Nat) : Int)] : List Int)) R R (by unfold maxLen; omega))) g) g2) R fun x5 => ?_)))))
 exact asg R R (wln (wjm _ x5 (mtE t2) (su3 R R R) (zc pk2 so1)))
 exact wck (wjm _ x1l (mtE t2) (su3 R R R) so2)
 intro j2 x4 hp
 obtain rfl : j2 = y2 := hp.symm
 refine wqb (wqt (wcg (mv R R (wlq (po_inc R R (by omega)) R ?_))))
 exact asg R R (wln (wq_rnd hk1 (stpN l1 t1) x4 (su3 R R R) so2))
 have c1 : (decide (((k1 : Nat) : Int) < 6)) = false := ddf (by omega)
 have en2 := foe l1 hk1
 exact wcs (wcr (mv R R (wlq (pls R R) R (wnt (wff R c1 (wcx (wqe (wqe (wbx (wjm _ x1l (Sum.inl.inj en2) (su1 R) (zc pk1 zn)))))))))))
 intro e1 x1 hp
 obtain rfl : e1 = y1 := hp.symm
 refine wqt (wcr (mv R R (asg R R (wnt (wct ?_)))))
 obtain rfl := oi t0
 exact wq1 R R fun w hw => ⟨x1, R, hw.weak so1⟩

theorem c_laws_at (w : World) (a_code : List UInt8) (v0a : Hd) (r0 : rdF w (dm w []) (sl v0a) a_code) (a_i : Int) {r : Int} (t0 : laws_at a_code a_i = some r) : Calls Tryd.prog 8 #[(sl v0a), .int .i64 a_i] w fun e w' => e = .returned (.int .i64 r) ∧ SH w [] [] w' := by
 refine cwc (args := [_, _]) Tryd.func8 R Tryd.ntmps8 R ?_
 unfold laws_at at t0
 refine wcr (asg R R (wnt (wcs (wcr (mv R R (wlq (pln (rga r0) el_22 R) R (wlq (pol R R) R (wnt (wcO t0 R (fun h1 t0 => ?_) fun h1 t0 => ?_)))))))))
 refine wcr (asg R R (wnt (wct (wqr ?_))))
 obtain rfl := oi t0
 exact wq1 R R fun w hw => ⟨R, hw.weak zn⟩
 refine wck (wqt (wcr (mv R R (mv R R (wlq (po_mul R R) R (wlq (po_add R R) R (mv R R (wlq (pln (rga r0) el_22 R) R (gdO t0 fun g1 t0 => (wlq (po_rem R R g1) R (gdO t0 fun g2 t0 => (wlq (po_ixr (rga r0) el_22 R R g2.1 g2.2) R (wlq (v := .int .u8 ((gx a_code ((((wr ((wr (a_i * 5)) + 1)).tmod ((a_code.length : Nat) : Int))).toNat)).toNat : Int)) (po_ldf (rga r0) tk_5 R (ix_lt g2) R) R (wlq (po_u8int isU8_5 isInt_3 R) R (asg R R (wnt (wct ?_)))))))))))))))))
 obtain rfl := oi t0
 exact wq1 R R fun w hw => ⟨R, hw.weak zn⟩

theorem c_impl_upTo (w : World) (a_n : Int) {r : List Int} (t0 : impl_upTo a_n = some r) : Calls Tryd.prog 23 #[.int .i64 a_n] w fun e w' => ∃ x : Hd, e = .returned ((sl x)) ∧ SH w [] [ownF (sl x) r] w' := by
 refine cwc (args := [_]) Tryd.func23 R Tryd.ntmps23 R ?_
 unfold impl_upTo at t0
 refine wcr (asg R R (wnt (wcr (wle (ebs R sb_29_0) R fun b1 => (asg R R (wnt (wcs (wcr (mv R R (mv R R (wnt (gdO t0 fun g1 t0 => (lpO_inv t0 fun y1 l1 t0 => (wj (J := List Int) (X := Hd) (fun z => y1 = z) (fun _ x => [(3, (sl x))]) (fun z x => [ownF (sl x) z]) ?_ ?_))))))))))))))
 refine wcb (wcf (X := Hd) l1 (fun k1 s1 x1l => [(3, (sl x1l)), (6, iv a_n), (7, iv ((k1 : Nat) : Int))]) (fun k1 s1 x1l => [ownF (sl x1l) s1]) (⟨some ⟨b1, 0, none⟩, 0, 0⟩ : Hd) (su3 R R R) (zc (pbo pz (n := 0) (xs := ([] : List Int)) R R (by unfold maxLen; omega)) zn) fun k1 s1 x1l hN1 l1 => ?_)
 by_cases hk1 : k1 < (a_n).toNat
 refine fos l1 hk1 fun _ t1 l1 => ?_
 unfold impl_upTo_L1 at t1
 have c1 : (decide (((k1 : Nat) : Int) < a_n)) = true := ddt (by omega)
 refine wcr (wlq (pls R R) R (wnt (wcs (wft R c1 (wck (wqt (wcs (wcb (wcr (mv R R (asg R R (wnt (wcg (mv R R (mv R R (wle (ebs R (sb_29_1 ((k1 : Nat) : Int))) R fun b2 => (gdO t1 fun g2 t1 => (wle (eo_append (xs := s1) (ys := ([((k1 : Nat) : Int)] : List Int)) ak_29 pk1 R R (slin_rd fun _ g => Rg.on (rgo (pbo pz (n := 1) (xs := ([((k1 : Nat) : Int)] : List Int)) R R (by unfold maxLen; omega))) g) g2) R fun x2 => ?_))))))))))))))))))
 refine asg R R (wln (wqb (wqt (wcg (wlq (po_inc R R (by omega)) R ?_)))))
 exact mv R R (wln (wq_rnd hk1 (stpN l1 t1) x2 (su3 R R R) so1))
 have c1 : (decide (((k1 : Nat) : Int) < a_n)) = false := ddf (by omega)
 have en1 := foe l1 hk1
 exact wcr (wlq (pls R R) R (wnt (wcs (wff R c1 (wcx (wqe (wqe (wbx (wjm _ x1l (Sum.inl.inj en1) (su1 R) so1)))))))))
 intro e1 x1 hp
 obtain rfl : e1 = y1 := hp.symm
 refine wqt (wcr (mv R R (asg R R (wnt (wct ?_)))))
 obtain rfl := oi t0
 exact wq1 R R fun w hw => ⟨x1, R, hw.weak so1⟩

theorem c_impl_allWithin (w : World) (a_list : List Int) (v0a : Hd) (r0 : rdF w (dm w []) (sl v0a) a_list) (a_a : Int) (a_b : Int) {r : Bool} (t0 : impl_allWithin a_list a_a a_b = some r) : Calls Tryd.prog 62 #[(sl v0a), .int .i64 a_a, .int .i64 a_b] w fun e w' => e = .returned (.bool r) ∧ SH w [] [] w' := by
 refine cwc (args := [_, _, _]) Tryd.func62 R Tryd.ntmps62 R ?_
 unfold impl_allWithin at t0
 refine wcr (asg R R (wnt (wcs (wcr (mv R R (wlq (pln (rga r0) el_29 R) R (mv R R (wnt (gdO t0 fun g1 t0 => (sqO t0 fun y1 l1 t0 => (wj (J := Unit) (X := Unit) (fun z => y1 = .inl z) (fun _ _ => []) (fun _ _ => []) ?_ ?_)))))))))))
 refine wcb (wcf (X := Unit) l1 (fun k1 s1 x1l => [(1, iv a_a), (2, iv a_b), (9, (sl v0a)), (10, iv ((a_list.length : Nat) : Int)), (11, iv ((k1 : Nat) : Int))]) (fun k1 s1 x1l => []) () (su5 R R R R R) zn fun k1 s1 x1l hN1 l1 => ?_)
 by_cases hk1 : k1 < a_list.length
 refine fos l1 hk1 fun _ t1 l1 => ?_
 unfold impl_allWithin_L1 at t1
 have c1 : (decide (((k1 : Nat) : Int) < ((a_list.length : Nat) : Int))) = true := ddt (by omega)
 refine wcr (wlq (pls R R) R (wnt (wcs (wft R c1 (wck (wqt (wcs (wcb (wcr (wlq (po_ixn (k := k1) (rga r0) el_29 R R hk1) R (wlq (v := iv (gx a_list k1)) (po_ldf (rga r0) tk_3 R hk1 R) R (asg R R (wnt (wcr (mv R R (mv R R (mv R R (bdO t1 fun v1 hv1 t1 => (wlc (cz0 fa_22 R fun w hw => c_impl_within w (gx a_list k1) a_a a_b hv1) R fun _ => (wlq (po_not R) R (wnt (wcO t1 R (fun h1 t1 => ?_) fun h1 t1 => ?_))))))))))))))))))))))
 refine wcr (asg R R (wnt (wct (wbr (wqr (wqr (wbr (wqr (wqr ?_)))))))))
 replace t0 := lpR t0 l1 t1
 obtain rfl := oi t0
 exact wq1 R R fun w hw => ⟨R, hw.weak zn⟩
 refine wck (wqb (wqt (wcg (wlq (po_inc R R (by omega)) R ?_))))
 exact mv R R (wln (wq_rnd hk1 (stpN l1 t1) () (su5 R R R R R) zn))
 have c1 : (decide (((k1 : Nat) : Int) < ((a_list.length : Nat) : Int))) = false := ddf (by omega)
 have en1 := foe l1 hk1
 exact wcr (wlq (pls R R) R (wnt (wcs (wff R c1 (wcx (wqe (wqe (wbx (wjm _ () en1 yn zn)))))))))
 intro e1 _ hp
 replace t0 := sqE (j := e1) t0 hp
 refine wqt (wcr (asg R R (wnt (wct ?_))))
 obtain rfl := oi t0
 exact wq1 R R fun w hw => ⟨R, hw.weak zn⟩

theorem c_impl_ListOk (w : World) (a_l : List Int) (v0a : Hd) (r0 : rdF w (dm w []) (sl v0a) a_l) {r : Bool} (t0 : impl_ListOk a_l = some r) : Calls Tryd.prog 41 #[(sl v0a)] w fun e w' => e = .returned (.bool r) ∧ SH w [] [] w' := by
 refine cwc (args := [_]) Tryd.func41 R Tryd.ntmps41 R ?_
 unfold impl_ListOk at t0
 refine wcr (asg R R (wnt (wcs (bdO t0 fun y1 t1 t0 => (wj (J := Bool) (X := Unit) (fun z => y1 = z) (fun z _ => [(2, .bool z)]) (fun _ _ => []) ?_ ?_)))))
 refine wcg (mv R R (wlq (pln (rga r0) el_29 R) R (wlq (pol R R) R (mv R R (wlo (t := 6) t1 R (fun h1 t1 => ?_) fun h1 t1 => ?_)))))
 exact wgn (j := 3) R R R (mv R R (bdO t1 fun v1 hv1 t1 => (wgn (j := 3) R R R (wlc (cz0 fa_62 R fun w hw => c_impl_allWithin w a_l v0a (ra r0 hw) 0 5 hv1) R (fun _ => (wlq (pit R R) R (asg R R (wln (wjm _ () (mtE t1) (su1 R) zn)))))))))
 exact wgf (j := 3) R R R R R (wgf (j := 3) R R R R R (wlq (pif R R) R (asg R R (wln (wjm _ () (mtE t1) (su1 R) zn)))))
 intro j1 _ hp
 obtain rfl : j1 = y1 := hp.symm
 refine wqt (wct ?_)
 obtain rfl := oi t0
 exact wq1 R R fun w hw => ⟨R, hw.weak zn⟩

theorem c_impl_Block_copied (w : World) (a_b : GBlock) (v0a : Hd) (r0 : rdF w (dm w []) (sl v0a) a_b.Cells) {r : GBlock} (t0 : impl_Block_copied a_b = some r) : Calls Tryd.prog 42 #[.agg #[.int .i64 a_b.Size, (sl v0a)]] w fun e w' => ∃ x : Hd, e = .returned (.agg #[.int .i64 r.Size, (sl x)]) ∧ SH w [] [ownF (sl x) r.Cells] w' := by
 refine cwc (args := [_]) Tryd.func42 R Tryd.ntmps42 R ?_
 unfold impl_Block_copied at t0
 refine wcr (wle (eo_box R R) R fun b1 => (wle (eal (cs := [iv 0, (sl hn)]) za_26) R fun b2 => (wnt (wcs (wcd [box b2 [iv 0, (sl hn)], box b1 [iv a_b.Size, (sl v0a)]] 7 mixed (aq 0 R (pof fo_26_0 R) so2 R (aq (v := iv a_b.Size) 1 R (plx tk_3 pk1 R R) so2 R (aq 3 R (pof fo_26_1 R) so2 R (aq (v := (sl v0a)) 4 R (plx tk_24 pk1 R R) so2 R (a1 2 (wse R (ebs R sb_24_0) (fun _ => (zt (zc pk1 (zc pk1 zn)))) R fun b3 => (a1 5 (gdO t0 fun g1 t0 => (wse R (eo_append (xs := ([] : List GCell)) (ys := a_b.Cells) ak_24 (pbo pz (n := 0) (xs := ([] : List GCell)) R R (by unfold maxLen; omega)) R R (slin_rd fun _ g => Rg.on (rga r0) g) g1) (fun _ => (zt (zc pk1 (zc pk1 zn)))) R fun x1 => ?_))))))))))))))
 refine aq 6 R (po_build R (bd_26_0_1 a_b.Size x1)) (zc pk1 (zc pk1 zn)) R (a1 7 (ws_skipop R (sbx (cs' := [iv a_b.Size, (sl x1)]) tk_26 pk1 R R R R R R R) (sts_past (by kernel_rfl)) ?_))
 refine ae (wqt (wct ?_))
 obtain rfl := oi t0
 exact wqc R tk_26 R pz R fun w hw => ⟨x1, R, hw.weak (zc pk1 zn)⟩

theorem c_impl_Block_isPlace (w : World) (a_b : GBlock) (v0a : Hd) (r0 : rdF w (dm w []) (sl v0a) a_b.Cells) (a_x : Int) (a_y : Int) {r : Bool} (t0 : impl_Block_isPlace a_b a_x a_y = some r) : Calls Tryd.prog 64 #[.agg #[.int .i64 a_b.Size, (sl v0a)], .int .i64 a_x, .int .i64 a_y] w fun e w' => e = .returned (.bool r) ∧ SH w [] [] w' := by
 refine cwc (args := [_, _, _]) Tryd.func64 R Tryd.ntmps64 R ?_
 unfold impl_Block_isPlace at t0
 refine wcr (wle (eo_box R R) R fun b1 => (asg R R (wnt (wcs (bdO t0 fun y1 t1 t0 => (wj (J := Bool) (X := Unit) (fun z => y1 = z) (fun z _ => [(6, .bool z)]) (fun _ _ => []) ?_ ?_))))))
 refine wcg (wlq (v := .agg #[iv a_b.Size, (sl v0a)]) (plb tk_26 pz R R R) R (bdO t1 fun v1 hv1 t1 => (wlc (cz0 fa_19 R fun w hw => c_impl_BlockOk w a_b v0a (ra r0 hw) hv1) R fun _ => (mv R R (wlo (t := 9) t1 R (fun h1 t1 => ?_) fun h1 t1 => ?_)))))
 refine wgn (j := 2) R R R (mv R R (wgn (j := 2) R R R (wlq (pof fo_26_0 R) R (wgn (j := 2) R R R (wlq (v := iv a_b.Size) (plx tk_3 pz R R) R (wgn (j := 2) R R R (wlq (po_sub R R) R (bdO t1 fun v2 hv2 t1 => (wgn (j := 2) R R R (wlc (cz0 fa_22 R fun w hw => c_impl_within w a_x 0 (wr (a_b.Size - 1)) hv2) R (fun _ => (wlq (pit R R) R (mv R R (wlo (t := 16) t1 R (fun h2 t1 => ?_) fun h2 t1 => ?_))))))))))))))
 exact wgn (j := 9) R R R (mv R R (wgn (j := 9) R R R (wlq (pof fo_26_0 R) R (wgn (j := 9) R R R (wlq (v := iv a_b.Size) (plx tk_3 pz R R) R (wgn (j := 9) R R R (wlq (po_sub R R) R (bdO t1 fun v3 hv3 t1 => (wgn (j := 9) R R R (wlc (cz0 fa_22 R fun w hw => c_impl_within w a_y 0 (wr (a_b.Size - 1)) hv3) R (fun _ => (wlq (pit R R) R (asg R R (wln (wjm _ () (mtE t1) (su1 R) zn)))))))))))))))
 exact wgf (j := 9) R R R R R (wgf (j := 9) R R R R R (wgf (j := 9) R R R R R (wgf (j := 9) R R R R R (wgf (j := 9) R R R R R (wlq (pif R R) R (asg R R (wln (wjm _ () (mtE t1) (su1 R) zn))))))))
 exact wgf (j := 2) R R R R R (wgf (j := 2) R R R R R (wgf (j := 2) R R R R R (wgf (j := 2) R R R R R (wgf (j := 2) R R R R R (wlq (pif R R) R (mv R R (wgf (j := 9) R R R R R (wgf (j := 9) R R R R R (wgf (j := 9) R R R R R (wgf (j := 9) R R R R R (wgf (j := 9) R R R R R (wlq (pif R R) R (asg R R (wln (wjm _ () (mtE t1) (su1 R) zn)))))))))))))))
 intro j1 _ hp
 obtain rfl : j1 = y1 := hp.symm
 refine wqt (wct ?_)
 obtain rfl := oi t0
 exact wq1 R R fun w hw => ⟨R, hw.weak zn⟩

theorem c_impl_CellAt (w : World) (a_b : GBlock) (v0a : Hd) (r0 : rdF w (dm w []) (sl v0a) a_b.Cells) (a_x : Int) (a_y : Int) {r : GCell} (t0 : impl_CellAt a_b a_x a_y = some r) : Calls Tryd.prog 46 #[.agg #[.int .i64 a_b.Size, (sl v0a)], .int .i64 a_x, .int .i64 a_y] w fun e w' => e = .returned (.agg #[.int .i64 r.Split, .int .i64 r.A, .int .i64 r.B]) ∧ SH w [] [] w' := by
 refine cwc (args := [_, _, _]) Tryd.func46 R Tryd.ntmps46 R ?_
 unfold impl_CellAt at t0
 refine wcr (wle (eo_box R R) R fun b1 => (wle (eal (cs := [iv 0, iv 0, iv 0]) za_41) R fun b2 => (wnt (wcs (wcr (wlq (v := .agg #[iv a_b.Size, (sl v0a)]) (plb tk_26 pk1 R R R) R (mv R R (mv R R (bdO t0 fun v1 hv1 t0 => (wlc (cz0 fa_64 R fun w hw => c_impl_Block_isPlace w a_b v0a (ra r0 hw) a_x a_y hv1) R fun _ => (wlq (po_not R) R (wnt (wcO t0 R (fun h1 t0 => ?_) fun h1 t0 => ?_)))))))))))))
 refine wcr (wlq (po_build R bd_41) R (wls (sbx (cs' := [iv 0, iv 0, iv 0]) tk_41 pz R R R R R R R) (wnt (wct (wqr ?_)))))
 obtain rfl := oi t0
 exact wqc R tk_41 R pz R fun w hw => ⟨R, hw.weak zn⟩
 refine wck (wqt (wcr (wlq (pof fo_26_1 R) R (wlq (v := (sl v0a)) (plx tk_24 pk1 R R) R (mv R R (wlq (pof fo_26_0 R) R (wlq (v := iv a_b.Size) (plx tk_3 pk1 R R) R (wlq (po_mul R R) R (mv R R (wlq (po_add R R) R (gdO t0 fun g1 t0 => (wlq (po_ixr (rga r0) el_24 R R g1.1 g1.2) R (wlq (v := .agg #[iv ((gx a_b.Cells (((wr ((wr (a_y * a_b.Size)) + a_x))).toNat)).Split), iv ((gx a_b.Cells (((wr ((wr (a_y * a_b.Size)) + a_x))).toNat)).A), iv ((gx a_b.Cells (((wr ((wr (a_y * a_b.Size)) + a_x))).toNat)).B)]) (po_ldfs (rga r0) tk_41 R (ix_lt g1) R R R) R (wls (sbx (cs' := [iv ((gx a_b.Cells (((wr ((wr (a_y * a_b.Size)) + a_x))).toNat)).Split), iv ((gx a_b.Cells (((wr ((wr (a_y * a_b.Size)) + a_x))).toNat)).A), iv ((gx a_b.Cells (((wr ((wr (a_y * a_b.Size)) + a_x))).toNat)).B)]) tk_41 pz R R R R R R R) (wnt (wct ?_))))))))))))))))
 obtain rfl := oi t0
 exact wqc R tk_41 R pz R fun w hw => ⟨R, hw.weak zn⟩

theorem c_impl_WholeCell (w : World) (a_a : Int) {r : GCell} (t0 : impl_WholeCell a_a = some r) : Calls Tryd.prog 74 #[.int .i64 a_a] w fun e w' => e = .returned (.agg #[.int .i64 r.Split, .int .i64 r.A, .int .i64 r.B]) ∧ SH w [] [] w' := by
 refine cwc (args := [_]) Tryd.func74 R Tryd.ntmps74 R ?_
 unfold impl_WholeCell at t0
 refine wcr (wle (eal (cs := [iv 0, iv 0, iv 0]) za_41) R fun b1 => (wnt (wcs (wcr (mv R R (bdO t0 fun v1 hv1 t0 => (wlc (cz0 fa_60 R fun w hw => c_impl_isColor w a_a hv1) R fun _ => (wlq (po_not R) R (wnt (wcO t0 R (fun h1 t0 => ?_) fun h1 t0 => ?_))))))))))
 refine wcr (wlq (po_build R bd_41) R (wls (sbx (cs' := [iv 0, iv 0, iv 0]) tk_41 pz R R R R R R R) (wnt (wct (wqr ?_)))))
 obtain rfl := oi t0
 exact wqc R tk_41 R pz R fun w hw => ⟨R, hw.weak zn⟩
 refine wck (wqt (wcr (mv R R (mv R R (wlq (po_build R (bd_41_1_2 a_a a_a)) R (wls (sbx (cs' := [iv 0, iv a_a, iv a_a]) tk_41 pz R R R R R R R) (wnt (wct ?_))))))))
 obtain rfl := oi t0
 exact wqc R tk_41 R pz R fun w hw => ⟨R, hw.weak zn⟩

theorem c_impl_SplitCell (w : World) (a_split : Int) (a_a : Int) (a_b : Int) {r : GCell} (t0 : impl_SplitCell a_split a_a a_b = some r) : Calls Tryd.prog 63 #[.int .i64 a_split, .int .i64 a_a, .int .i64 a_b] w fun e w' => e = .returned (.agg #[.int .i64 r.Split, .int .i64 r.A, .int .i64 r.B]) ∧ SH w [] [] w' := by
 refine cwc (args := [_, _, _]) Tryd.func63 R Tryd.ntmps63 R ?_
 unfold impl_SplitCell at t0
 refine wcr (wle (eal (cs := [iv 0, iv 0, iv 0]) za_41) R fun b1 => (wnt (wcs (wcr (mv R R (mv R R (wlq (pol R R) R (wnt (wcO t0 R (fun h1 t0 => ?_) fun h1 t0 => ?_)))))))))
 refine wcr (mv R R (bdO t0 fun v1 hv1 t0 => (wlc (cz0 fa_74 R fun w hw => c_impl_WholeCell w a_a hv1) R fun _ => (wls (sbx (cs' := [iv v1.Split, iv v1.A, iv v1.B]) tk_41 pz R R R R R R R) (wnt (wct (wqr ?_)))))))
 obtain rfl := oi t0
 exact wqc R tk_41 R pz R fun w hw => ⟨R, hw.weak zn⟩
 refine wck (wqt (wcr (mv R R (mv R R (mv R R (wlq (po_build R (bd_41_0_1_2 a_split a_a a_b)) R (wle (eal (cs := [iv 0, iv 0, iv 0]) za_41) R fun b2 => (wls (sbx (cs' := [iv a_split, iv a_a, iv a_b]) tk_41 pz R R R R R R R) (wnt (wcs (wcr (wlq (v := .agg #[iv a_split, iv a_a, iv a_b]) (plb tk_41 pz R R R) R (bdO t0 fun v2 hv2 t0 => (wlc (cz0 fa_39 R fun w hw => c_impl_CellOk w (GCell.mk a_split a_a a_b) hv2) R fun _ => (wlq (po_not R) R (wnt (wcO t0 R (fun h2 t0 => ?_) fun h2 t0 => ?_)))))))))))))))))
 refine wcr (wlq (po_build R bd_41) R (wls (sbx (cs' := [iv 0, iv 0, iv 0]) tk_41 pk1 R R R R R R R) (wnt (wct (wqr ?_)))))
 obtain rfl := oi t0
 exact wqc R tk_41 R pz R fun w hw => ⟨R, hw.weak zn⟩
 refine wck (wqt (wcr (wlq (v := .agg #[iv a_split, iv a_a, iv a_b]) (plb tk_41 pz R R R) R (wls (sbx (cs' := [iv a_split, iv a_a, iv a_b]) tk_41 pk1 R R R R R R R) (wnt (wct ?_))))))
 obtain rfl := oi t0
 exact wqc R tk_41 R pz R fun w hw => ⟨R, hw.weak zn⟩

theorem c_impl_ExchangeCell (w : World) (a_c : GCell) (a_l : List Int) (v0a : Hd) (r0 : rdF w (dm w []) (sl v0a) a_l) {r : GCell} (t0 : impl_ExchangeCell a_c a_l = some r) : Calls Tryd.prog 45 #[.agg #[.int .i64 a_c.Split, .int .i64 a_c.A, .int .i64 a_c.B], (sl v0a)] w fun e w' => e = .returned (.agg #[.int .i64 r.Split, .int .i64 r.A, .int .i64 r.B]) ∧ SH w [] [] w' := by
 refine cwc (args := [_, _]) Tryd.func45 R Tryd.ntmps45 R ?_
 unfold impl_ExchangeCell at t0
 refine wcr (wle (eo_box R R) R fun b1 => (wle (eal (cs := [iv 0, iv 0, iv 0]) za_41) R fun b2 => (wnt (wcs (wcs (bdO t0 fun y1 t1 t0 => (wj (J := Bool) (X := Unit) (fun z => y1 = z) (fun z _ => [(1, (sl v0a)), (2, ptr b1 0), (4, ptr b2 0), (12, .bool z)]) (fun _ _ => [box b2 [iv 0, iv 0, iv 0], box b1 [iv a_c.Split, iv a_c.A, iv a_c.B]]) ?_ ?_)))))))
 refine wcg (wlq (v := .agg #[iv a_c.Split, iv a_c.A, iv a_c.B]) (plb tk_41 pk1 R R R) R (bdO t1 fun v1 hv1 t1 => (wlc (cz0 fa_39 R fun w hw => c_impl_CellOk w a_c hv1) R fun _ => (wlq (po_not R) R (mv R R (wlo (t := 8) t1 R (fun h1 t1 => ?_) fun h1 t1 => ?_))))))
 exact wgf (j := 3) R R R R R (wgf (j := 3) R R R R R (wgf (j := 3) R R R R R (wlq (pit R R) R (wln (wjm _ () (mtE t1) (su4 R R R R) so2)))))
 exact wgn (j := 3) R R R (mv R R (bdO t1 fun v2 hv2 t1 => (wgn (j := 3) R R R (wlc (cz0 fa_41 R fun w hw => c_impl_ListOk w a_l v0a (ra r0 hw) hv2) R (fun _ => (wgn (j := 3) R R R (wlq (po_not R) R (wlq (pif R R) R (wln (wjm _ () (mtE t1) (su4 R R R R) so2))))))))))
 intro j1 _ hp
 obtain rfl : j1 = y1 := hp.symm
 refine wqt (wcO t0 R (fun h2 t0 => ?_) fun h2 t0 => ?_)
 refine wcr (wlq (po_build R bd_41) R (wls (sbx (cs' := [iv 0, iv 0, iv 0]) tk_41 pz R R R R R R R) (wnt (wct (wqr ?_)))))
 obtain rfl := oi t0
 exact wqc R tk_41 R pz R fun w hw => ⟨R, hw.weak zn⟩
 refine wck (wqt (wcs (wcd [box b2 [iv 0, iv 0, iv 0], box b1 [iv a_c.Split, iv a_c.A, iv a_c.B]] 13 mixed (aq 0 R (pof fo_41_0 R) so2 R (aq (v := iv a_c.Split) 1 R (plx tk_3 pk1 R R) so2 R (aq 2 R (pom R) so2 R (aq 3 R (pof fo_41_1 R) so2 R (aq (v := iv a_c.A) 4 R (plx tk_3 pk1 R R) so2 R (gdO t0 fun g1 t0 => (aq 5 R (po_ixr (rga r0) el_29 R R g1.1 g1.2) so2 R (aq (v := iv (gx a_l ((a_c.A).toNat))) 6 R (po_ldf (rga r0) tk_3 R (ix_lt g1) R) so2 R (aq 7 R (pom R) so2 R (aq 8 R (pof fo_41_2 R) so2 R (aq (v := iv a_c.B) 9 R (plx tk_3 pk1 R R) so2 R (gdO t0 fun g2 t0 => (aq 10 R (po_ixr (rga r0) el_29 R R g2.1 g2.2) so2 R (aq (v := iv (gx a_l ((a_c.B).toNat))) 11 R (po_ldf (rga r0) tk_3 R (ix_lt g2) R) so2 R (a1 12 (bdO t0 fun v3 hv3 t0 => (wsc R (cz0 fa_63 R fun w hw => c_impl_SplitCell w a_c.Split (gx a_l ((a_c.A).toNat)) (gx a_l ((a_c.B).toNat)) hv3) (fun _ => (zt so2)) R fun _ => (a1 13 (ws_skipop R (sbx (cs' := [iv v3.Split, iv v3.A, iv v3.B]) tk_41 pz R R R R R R R) (sts_past (by kernel_rfl)) ?_))))))))))))))))))))))
 refine ae (wqt (wct ?_))
 obtain rfl := oi t0
 exact wqc R tk_41 R pz R fun w hw => ⟨R, hw.weak zn⟩

theorem c_impl_ExchangeBlock_c1 (w : World) (a_x : Int) (a_y : Int) (c_p2 : GBlock) (v0a : Hd) (r0 : rdF w (dm w []) (sl v0a) c_p2.Cells) (b2c : Nat) (q2 : Bx w b2c [.int .i64 c_p2.Size, (sl v0a)]) (c_p3 : List Int) (v1a : Hd) (r1 : rdF w (dm w []) (sl v1a) c_p3) (b3c : Nat) (q3 : Bx w b3c [(sl v1a)]) {r : GCell} (t0 : impl_ExchangeBlock_c1 a_x a_y c_p2 c_p3 = some r) : Calls Tryd.prog 44 #[.int .i64 a_x, .int .i64 a_y, ptr b2c 0, ptr b3c 0] w fun e w' => e = .returned (.agg #[.int .i64 r.Split, .int .i64 r.A, .int .i64 r.B]) ∧ SH w [] [] w' := by
 refine cwc (args := [_, _, _, _]) Tryd.func44 R Tryd.ntmps44 R ?_
 unfold impl_ExchangeBlock_c1 at t0
 refine wcr (wle (eal (cs := [iv 0, iv 0, iv 0]) za_41) R fun b1 => (wnt (wcs (wcd [box b1 [iv 0, iv 0, iv 0]] 6 mixed (aq (v := .agg #[iv c_p2.Size, (sl v0a)]) 0 R (po_load_aboxs q2 tk_26 R R R) so1 R (aq 1 R (pom R) so1 R (aq 2 R (pom R) so1 R (aq (v := (sl v1a)) 4 R (po_load_abox q3 tk_29 R R) so1 R (a1 3 (bdO t0 fun v1 hv1 t0 => (wsc R (cz0 fa_46 R fun w hw => c_impl_CellAt w c_p2 v0a (ra r0 hw) a_x a_y hv1) (fun _ => (zt so1)) R fun _ => (a1 5 (bdO t0 fun v2 hv2 t0 => (wsc R (cz0 fa_45 R fun w hw => c_impl_ExchangeCell w v1 c_p3 v1a (ra r1 hw) hv2) (fun _ => (zt so1)) R fun _ => (a1 6 (ws_skipop R (sbx (cs' := [iv v2.Split, iv v2.A, iv v2.B]) tk_41 pz R R R R R R R) (sts_past (by kernel_rfl)) ?_))))))))))))))))
 refine ae (wqt (wct ?_))
 obtain rfl := oi t0
 exact wqc R tk_41 R pz R fun w hw => ⟨R, hw.weak zn⟩

theorem c_impl_made (w : World) (a_size : Int) (a_one : Int → Int → Option GCell) (f1 : Nat) (us1 : List Value) (fn1 : FnAt Tryd.prog f1) (hg1 : ∀ (w' : World) (z0 : Int) (z1 : Int) (_ : Keep [] w w') (z : GCell) (_ : a_one z0 z1 = some z), Calls Tryd.prog f1 (([.int .i64 z0, .int .i64 z1] : List Value) ++ us1).toArray w' fun e w'' => e = .returned (.agg #[.int .i64 z.Split, .int .i64 z.A, .int .i64 z.B]) ∧ SH w' [] [] w'') {r : GBlock} (t0 : impl_made a_size a_one = some r) : Calls Tryd.prog 43 #[.int .i64 a_size, .func (.func f1) #[] us1.toArray] w fun e w' => ∃ x : Hd, e = .returned (.agg #[.int .i64 r.Size, (sl x)]) ∧ SH w [] [ownF (sl x) r.Cells] w' := by
 refine cwc (args := [_, _]) Tryd.func43 R Tryd.ntmps43 R ?_
 unfold impl_made at t0
 refine wcr (wle (eal (cs := [iv 0, (sl hn)]) za_26) R fun b1 => (wnt (wcr (mv R R (wlq (po_build R (bd_26_0 a_size)) R (wle (eal (cs := [iv 0, (sl hn)]) za_26) R fun b2 => (wls (sbx (cs' := [iv a_size, (sl hn)]) tk_26 pz R R R R R R R) (wnt (wcs (wcr (mv R R (mv R R (wnt (gdO t0 fun g1 t0 => (lpO_inv t0 fun y1 l1 t0 => (wj (J := List GCell) (X := Hd) (fun z => y1 = z) (fun _ _ => [(4, ptr b1 0), (5, ptr b2 0)]) (fun z x => [box b2 [iv a_size, (sl x)], box b1 [iv 0, (sl hn)], ownF (sl x) z]) ?_ ?_))))))))))))))))
 refine wcb (wcf (X := Hd) l1 (fun k1 s1 x1l => [(0, iv a_size), (1, .func (.func f1) #[] us1.toArray), (4, ptr b1 0), (5, ptr b2 0), (10, iv a_size), (11, iv ((k1 : Nat) : Int))]) (fun k1 s1 x1l => [box b2 [iv a_size, (sl x1l)], box b1 [iv 0, (sl hn)], ownF (sl x1l) s1]) hn (su6 R R R R R R) (zc pz (zc pz (zc pick_nil zn))) fun k1 s1 x1l hN1 l1 => ?_)
 by_cases hk1 : k1 < (a_size).toNat
 refine fos l1 hk1 fun _ t1 l1 => ?_
 unfold impl_made_L1 at t1
 have c1 : (decide (((k1 : Nat) : Int) < a_size)) = true := ddt (by omega)
 refine wcr (wlq (pls R R) R (wnt (wcs (wft R c1 (wck (wqt (wcs (wcb (wcr (mv R R (asg R R (wnt (wcr (mv R R (mv R R (wnt (lpO_inv t1 fun y2 l2 t1 => (wj (J := List GCell) (X := Hd) (fun z => y2 = z) (fun _ _ => [(0, iv a_size), (1, .func (.func f1) #[] us1.toArray), (4, ptr b1 0), (5, ptr b2 0), (10, iv a_size), (11, iv ((k1 : Nat) : Int))]) (fun z x => [box b2 [iv a_size, (sl x)], box b1 [iv 0, (sl hn)], ownF (sl x) z]) ?_ ?_))))))))))))))))))
 refine wcb (wcf (X := Hd) l2 (fun k2 s2 x2l => [(0, iv a_size), (1, .func (.func f1) #[] us1.toArray), (4, ptr b1 0), (5, ptr b2 0), (6, iv ((k1 : Nat) : Int)), (10, iv a_size), (11, iv ((k1 : Nat) : Int)), (14, iv a_size), (15, iv ((k2 : Nat) : Int))]) (fun k2 s2 x2l => [box b2 [iv a_size, (sl x2l)], box b1 [iv 0, (sl hn)], ownF (sl x2l) s2]) x1l (su9 R R R R R R R R R) so3 fun k2 s2 x2l hN2 l2 => ?_)
 by_cases hk2 : k2 < (a_size).toNat
 refine fos l2 hk2 fun _ t2 l2 => ?_
 unfold impl_made_L2 at t2
 have c2 : (decide (((k2 : Nat) : Int) < a_size)) = true := ddt (by omega)
 refine wcr (wlq (pls R R) R (wnt (wcs (wft R c2 (wck (wqt (wcs (wcb (wcr (mv R R (asg R R (wnt (wcd [box b2 [iv a_size, (sl x2l)], box b1 [iv 0, (sl hn)]] 9 mixed (aq 0 R (pof fo_26_1 R) so2 R (aq (v := (sl x2l)) 1 R (plx tk_24 pz R R) so2 R (aq 2 R (pom R) so2 R (aq 3 R (pom R) so2 R (aq 4 R (pom R) so2 R (a1 5 (bdO t2 fun v1 hv1 t2 => (wsc R (co_d fn1 R R fun w hw => hg1 w ((k2 : Nat) : Int) ((k1 : Nat) : Int) hw.keep _ hv1) (fun _ => (zt so2)) R fun _ => (a1 6 (wse R (ebs R (sb_24_1 v1.Split v1.A v1.B)) (fun _ => (zt (zc pk1 (zc pk1 zn)))) R fun b3 => (a1 7 (gdO t2 fun g2 t2 => (wse R (eo_append (xs := s2) (ys := ([v1] : List GCell)) ak_24 pk3 R R (slin_rd fun _ g => Rg.on (rgo (pbo pz (n := 1) (xs := ([v1] : List GCell)) R R (by unfold maxLen; omega))) g) g2) (fun _ => (zt (zc pk2 (zc pk2 zn)))) R fun x3 => ?_))))))))))))))))))))))))))
 refine aq 8 R (pof fo_26_1 R) (zc pk2 (zc pk2 zn)) R (a1 9 (ws_skipop R (sbx (cs' := [iv a_size, (sl x3)]) tk_24 pk2 R R R R R R R) (sts_past (by kernel_rfl)) ?_))
 refine ae (wqb (wqt (wcg (wlq (po_inc R R (by omega)) R ?_))))
 exact mv R R (wln (wq_rnd hk2 (stpN l2 t2) x3 (su9 R R R R R R R R R) (zc pz (zc pk2 so1))))
 have c2 : (decide (((k2 : Nat) : Int) < a_size)) = false := ddf (by omega)
 have en1 := foe l2 hk2
 exact wcr (wlq (pls R R) R (wnt (wcs (wff R c2 (wcx (wqe (wqe (wbx (wjm _ x2l (Sum.inl.inj en1) (su6 R R R R R R) so3)))))))))
 intro e2 x2 hp
 obtain rfl : e2 = y2 := hp.symm
 refine wqb (wqt (wcg (wlq (po_inc R R (by omega)) R ?_)))
 exact mv R R (wln (wq_rnd hk1 (stpN l1 t1) x2 (su6 R R R R R R) so3))
 have c1 : (decide (((k1 : Nat) : Int) < a_size)) = false := ddf (by omega)
 have en2 := foe l1 hk1
 exact wcr (wlq (pls R R) R (wnt (wcs (wff R c1 (wcx (wqe (wqe (wbx (wjm _ x1l (Sum.inl.inj en2) (su2 R R) so3)))))))))
 intro e1 x1 hp
 obtain rfl : e1 = y1 := hp.symm
 refine wqt (wcr (wlq (v := .agg #[iv a_size, (sl x1)]) (plb tk_26 pz R R R) R (wls (sbx (cs' := [iv a_size, (sl x1)]) tk_26 pk1 R R R R R R R) (wnt (wct ?_)))))
 obtain rfl := oi t0
 exact wqc R tk_26 R pz R fun w hw => ⟨x1, R, hw.weak (zc pk2 zn)⟩

theorem c_impl_ExchangeBlock (w : World) (a_b : GBlock) (v0a : Hd) (r0 : rdF w (dm w []) (sl v0a) a_b.Cells) (a_l : List Int) (v1a : Hd) (r1 : rdF w (dm w []) (sl v1a) a_l) {r : GBlock × Bool} (t0 : impl_ExchangeBlock a_b a_l = some r) : Calls Tryd.prog 24 #[.agg #[.int .i64 a_b.Size, (sl v0a)], (sl v1a)] w fun e w' => ∃ x : Hd, e = .returned (.tuple #[.agg #[.int .i64 r.1.Size, (sl x)], .bool r.2]) ∧ SH w [] [ownF (sl x) r.1.Cells] w' := by
 refine cwc (args := [_, _]) Tryd.func24 R Tryd.ntmps24 R ?_
 unfold impl_ExchangeBlock at t0
 refine wcr (wle (eo_box R R) R fun b1 => (wle (eo_box R R) R fun b2 => (wle (eal (cs := [iv 0, (sl hn)]) za_26) R fun b3 => (asg R R (wnt (wcs (wcs (bdO t0 fun y1 t1 t0 => (wj (J := Bool) (X := Unit) (fun z => y1 = z) (fun z _ => [(2, ptr b1 0), (3, ptr b2 0), (4, ptr b3 0), (13, .bool z)]) (fun _ _ => [box b3 [iv 0, (sl hn)], box b2 [(sl v1a)], box b1 [iv a_b.Size, (sl v0a)]]) ?_ ?_)))))))))
 refine wcg (wlq (v := .agg #[iv a_b.Size, (sl v0a)]) (plb tk_26 pk2 R R R) R (bdO t1 fun v1 hv1 t1 => (wlc (cz0 fa_19 R fun w hw => c_impl_BlockOk w a_b v0a (ra r0 hw) hv1) R fun _ => (wlq (po_not R) R (mv R R (wlo (t := 9) t1 R (fun h1 t1 => ?_) fun h1 t1 => ?_))))))
 exact wgf (j := 3) R R R R R (wgf (j := 3) R R R R R (wgf (j := 3) R R R R R (wlq (pit R R) R (wln (wjm _ () (mtE t1) (su4 R R R R) so3)))))
 exact wgn (j := 3) R R R (wlq (v := (sl v1a)) (plx tk_29 pk1 R R) R (bdO t1 fun v2 hv2 t1 => (wgn (j := 3) R R R (wlc (cz0 fa_41 R fun w hw => c_impl_ListOk w a_l v1a (ra r1 hw) hv2) R (fun _ => (wgn (j := 3) R R R (wlq (po_not R) R (wlq (pif R R) R (wln (wjm _ () (mtE t1) (su4 R R R R) so3))))))))))
 intro j1 _ hp
 obtain rfl : j1 = y1 := hp.symm
 refine wqt (wcO t0 R (fun h2 t0 => ?_) fun h2 t0 => ?_)
 refine wcr (wlq (v := .agg #[iv a_b.Size, (sl v0a)]) (plb tk_26 pk2 R R R) R (bdO t0 fun v3 hv3 t0 => (wlc (cz1 fa_42 R fun w hw => c_impl_Block_copied w a_b v0a (ra r0 hw) hv3) R fun x2 => (wls (sbx (cs' := [iv v3.Size, (sl x2)]) tk_26 pk1 R R R R R R R) (asg R R (wnt (wct (wqr ?_))))))))
 obtain rfl := oi t0
 exact wq_retc1 R tk_26 R R pz R fun w hw => ⟨x2, R, hw.weak (zc pk1 zn)⟩
 refine wck (wqt (wcr (wlq (pof fo_26_0 R) R (wlq (v := iv a_b.Size) (plx tk_3 pk2 R R) R (wlq (po_makeFunc R) R (bdO t0 fun v4 hv4 t0 => (wlc (cz1 fa_43 R fun w hw => c_impl_made w a_b.Size (fun z0 z1 => impl_ExchangeBlock_c1 z0 z1 a_b a_l) 44 [ptr b1 0, ptr b2 0] fa_44 (fun w2 z0 z1  hk _ hz => c_impl_ExchangeBlock_c1 w2 z0 z1 a_b v0a (RdL.later (ra r0 hw) hk) b1 (Bx.keep (hw.at_box pk2) hk) a_l v1a (RdL.later (ra r1 hw) hk) b2 (Bx.keep (hw.at_box pk1) hk) hz) hv4) R fun x3 => (wls (sbx (cs' := [iv v4.Size, (sl x3)]) tk_26 pk1 R R R R R R R) (asg R R (wnt (wct ?_)))))))))))
 obtain rfl := oi t0
 exact wq_retc1 R tk_26 R R pz R fun w hw => ⟨x3, R, hw.weak (zc pk1 zn)⟩

theorem c_impl_ColorwayAt (w : World) (a_b : GBlock) (v0a : Hd) (r0 : rdF w (dm w []) (sl v0a) a_b.Cells) (a_index : Int) {r : GBlock × Bool} (t0 : impl_ColorwayAt a_b a_index = some r) : Calls Tryd.prog 9 #[.agg #[.int .i64 a_b.Size, (sl v0a)], .int .i64 a_index] w fun e w' => ∃ x : Hd, e = .returned (.tuple #[.agg #[.int .i64 r.1.Size, (sl x)], .bool r.2]) ∧ SH w [] [ownF (sl x) r.1.Cells] w' := by
 refine cwc (args := [_, _]) Tryd.func9 R Tryd.ntmps9 R ?_
 unfold impl_ColorwayAt at t0
 refine wcr (wle (eo_box R R) R fun b1 => (wle (eal (cs := [iv 0, (sl hn)]) za_26) R fun b2 => (asg R R (wnt (wcs (wcr (mv R R (wlq (v := .agg #[iv a_b.Size, (sl v0a)]) (plb tk_26 pk1 R R R) R (bdO t0 fun v1 hv1 t0 => (wlc (cz0 fa_6 R fun w hw => c_impl_ColorwayCount w a_b v0a (ra r0 hw) hv1) R fun _ => (wlq (po_sub R R) R (bdO t0 fun v2 hv2 t0 => (wlc (cz0 fa_22 R fun w hw => c_impl_within w a_index 0 (wr (v1 - 1)) hv2) R fun _ => (wlq (po_not R) R (wnt (wcO t0 R (fun h1 t0 => ?_) fun h1 t0 => ?_))))))))))))))))
 refine wcr (wlq (po_build R bd_26) R (wls (sbx (cs' := [iv 0, (sl hn)]) tk_26 pz R R R R R R R) (asg R R (wnt (wct (wqr ?_))))))
 obtain rfl := oi t0
 exact wq_retc1 R tk_26 R R pz R fun w hw => ⟨hn, R, hw.weak (zc pick_nil zn)⟩
 refine wck (wqt (wcr (wlq (v := .agg #[iv a_b.Size, (sl v0a)]) (plb tk_26 pk1 R R R) R (bdO t0 fun v3 hv3 t0 => (wlc (cz1 fa_21 R fun w hw => c_impl_ColorsOf w a_b v0a (ra r0 hw) hv3) R fun x1 => (asg R R (wnt (wcs (bdO t0 fun v4 hv4 t0 => (wcj (X := Hd × Hd) (fun _ => True) (fun z => [(1, iv a_index), (2, ptr b1 0), (4, ptr b2 0), (6, (sl x1)), (7, (sl z.1)), (8, (sl z.2))]) (fun z => [ownF (sl z.2) (List.replicate 6 (0 : Int)), ownF (sl z.1) v4, ownF (sl x1) v3, box b2 [iv 0, (sl hn)], box b1 [iv a_b.Size, (sl v0a)]]) ?_ ?_))))))))))
 refine wcd [ownF (sl x1) v3, box b2 [iv 0, (sl hn)], box b1 [iv a_b.Size, (sl v0a)]] 4 mixed (wa_2 (i := 0) (j := 1) (by kernel_rfl) ?_ ?_)
 refine wsc R (cz1 fa_23 R fun w hw => c_impl_upTo w 6 hv4) (fun _ => (zt (zc pk1 (zc pk1 (zc pk1 zn))))) R fun x2 => aq 2 R (po_assign R) (zc pk1 (zc pk1 (zc pk1 zn))) R (a1 1 (wse R (eo_make_ (n := 6) (0 : Int) mk_29 R R R (by omega) R) (fun _ => (zt (zc pk2 (zc pk2 (zc pk2 zn))))) R fun x3 => ?_))
 exact aq 3 R (po_assign R) (zc pk2 (zc pk2 (zc pk2 zn))) R (ae (wqm (x2, x3) trivial (su6 R R R R R R) so5))
 refine wse R (eo_make_ (n := 6) (0 : Int) mk_29 R R R (by omega) R) (fun _ => (zt (zc pk1 (zc pk1 (zc pk1 zn))))) R fun x4 => ?_
 exact a1 0 (wsc R (cz1 fa_23 R fun w hw => c_impl_upTo w 6 hv4) (fun _ => (zt (zc pk2 (zc pk2 (zc pk2 zn))))) R fun x5 => (aq 2 R (po_assign R) (zc pk2 (zc pk2 (zc pk2 zn))) R (aq 3 R (po_assign R) (zc pk2 (zc pk2 (zc pk2 zn))) R (ae (wqm (x5, x4) trivial (su6 R R R R R R) (zc pk1 so4))))))
 intro x6 _
 refine wqt (wcs (wcr (mv R R (wlq (pln (rgo pk2) el_29 R) R (mv R R (wnt (gdO t0 fun g1 t0 => (lpO_inv t0 fun y1 l1 t0 => (wj (J := Int × (List Int) × (List Int)) (X := Hd) (fun z => y1 = z) (fun _ _ => [(2, ptr b1 0), (4, ptr b2 0), (8, (sl x6.2))]) (fun z _ => [ownF (sl x6.2) z.2.2, box b2 [iv 0, (sl hn)], box b1 [iv a_b.Size, (sl v0a)]]) ?_ ?_)))))))))
 refine wcb (wcf (X := Hd) l1 (fun k1 s1 x1l => [(1, iv s1.1), (2, ptr b1 0), (4, ptr b2 0), (6, (sl x1)), (7, (sl x1l)), (8, (sl x6.2)), (24, (sl x1)), (25, iv ((v3.length : Nat) : Int)), (26, iv ((k1 : Nat) : Int))]) (fun k1 s1 x1l => [ownF (sl x6.2) s1.2.2, ownF (sl x1l) s1.2.1, ownF (sl x1) v3, box b2 [iv 0, (sl hn)], box b1 [iv a_b.Size, (sl v0a)]]) x6.1 (su9 R R R R R R R R R) so5 fun k1 s1 x1l hN1 l1 => ?_)
 by_cases hk1 : k1 < v3.length
 refine fos l1 hk1 fun _ t1 l1 => ?_
 unfold impl_ColorwayAt_L1 at t1
 have c1 : (decide (((k1 : Nat) : Int) < ((v3.length : Nat) : Int))) = true := ddt (by omega)
 refine wcr (wlq (pls R R) R (wnt (wcs (wft R c1 (wck (wqt (wcs (wcb (wcr (mv R R (wlq (po_ixn (k := k1) (rgo pk2) el_29 R R hk1) R (wlq (v := iv (gx v3 k1)) (po_ldf (rgo pk2) tk_3 R hk1 R) R (asg R R (asg R R (wnt (wcr (mv R R (wlq (pln (rgo pk2) el_29 R) R (bdO t1 fun v5 hv5 t1 => (wlc (cz0 fa_20 R fun w hw => c_impl_choices w ((v3.length : Nat) : Int) hv5) R fun _ => (mv R R (wlq (po_inc R R (by omega)) R ?_))))))))))))))))))))))
 refine bdO t1 fun v6 hv6 t1 => wlc (cz0 fa_20 R fun w hw => c_impl_choices w ((k1 + 1 : Nat) : Int) hv6) R fun _ => gdO t1 fun g2 t1 => wlq (po_quo R R g2) R (asg R R (wnt (wcr (mv R R (mv R R (gdO t1 fun g3 t1 => (wlq (po_quo R R g3) R (asg R R (wnt (wcr (mv R R (mv R R (wlq (po_rem R R g3) R (asg R R (wnt (wcr (mv R R (mv R R (mv R R (mv R R (gdO t1 fun g4 t1 => (wlq (po_ixr (rgo pk1) el_29 R R g4.1 g4.2) R (wlq (v := iv (gx s1.2.1 (((wr (s1.1.tdiv (wr (v5.tdiv v6))))).toNat))) (po_ldf (rgo pk1) tk_3 R (ix_lt g4) R) R (gdO t1 fun g5 t1 => (wlq (po_ixr (rgo pz) el_29 R R g5.1 g5.2) R (wls (so_own (x' := (gx s1.2.1 (((wr (s1.1.tdiv (wr (v5.tdiv v6))))).toNat))) tk_3 pz R R R R R R (ix_lt g5) R) (wnt (wcd [ownF (sl x6.2) (s1.2.2.set (((gx v3 k1)).toNat) (gx s1.2.1 (((wr (s1.1.tdiv (wr (v5.tdiv v6))))).toNat))), ownF (sl x1l) s1.2.1, ownF (sl x1) v3, box b2 [iv 0, (sl hn)], box b1 [iv a_b.Size, (sl v0a)]] 11 mixed (aq 1 R (pom R) so5 R (aq 2 R (pom R) so5 R (gdO t1 fun g6 t1 => (aq 3 R (po_cutr (l := 0) (h := ((wr (s1.1.tdiv (wr (v5.tdiv v6))))).toNat) (rgo pk1) el_29 R (.inl ⟨R, R⟩) (.inr ⟨_, R, ixn g6.1⟩) g6.2.1 g6.2.2) so5 R (aq 5 R (pom R) so5 R (aq 6 R (pom R) so5 R (aq 7 R (po_add R R) so5 R (gdO t1 fun g7 t1 => ?_))))))))))))))))))))))))))))))))))))
 refine aq 8 R (po_cutr (l := ((wr ((wr (s1.1.tdiv (wr (v5.tdiv v6)))) + 1))).toNat) (h := s1.2.1.length) (rgo pk1) el_29 R (.inr ⟨_, R, ixn g7.1⟩) (.inl ⟨R, R⟩) g7.2.1 g7.2.2) so5 R (a1 0 (wse R (ebs R sb_29_0) (fun _ => (zt (zc pk1 (zc pk1 (zc pk1 (zc pk1 (zc pk1 zn))))))) R fun b3 => (a1 4 (gdO t1 fun g8 t1 => (wse R (eo_append (xs := ([] : List Int)) (ys := ((s1.2.1.drop 0).take (((wr (s1.1.tdiv (wr (v5.tdiv v6))))).toNat - 0))) ak_29 (pbo pz (n := 0) (xs := ([] : List Int)) R R (by unfold maxLen; omega)) R R (slin_rd fun _ g => Rg.on (rds_cut (rgo pk2) g6.2.1 g6.2.2) g) g8) (fun _ => (zt (zc pk1 (zc pk1 (zc pk1 (zc pk1 (zc pk1 zn))))))) R fun x8 => ?_)))))
 refine a1 9 (gdO t1 fun g9 t1 => (wse R (eo_append (xs := (([] : List Int) ++ ((s1.2.1.drop 0).take (((wr (s1.1.tdiv (wr (v5.tdiv v6))))).toNat - 0)))) (ys := ((s1.2.1.drop (((wr ((wr (s1.1.tdiv (wr (v5.tdiv v6)))) + 1))).toNat)).take (s1.2.1.length - (((wr ((wr (s1.1.tdiv (wr (v5.tdiv v6)))) + 1))).toNat)))) ak_29 pz R R (slin_rd fun _ g => Rg.on (rds_cut (rgo pk2) g7.2.1 g7.2.2) g) g9) (fun _ => (zt (zc pk1 (zc pk1 (zc pk1 (zc pk1 (zc pk1 zn))))))) R fun x9 => (aq 10 R (po_assign R) (zc pk1 (zc pk1 (zc pk1 (zc pk1 (zc pk1 zn))))) R (ae (wqb (wqt (wcg (wlq (po_inc R R (by omega)) R ?_))))))))
 exact mv R R (wln (wq_rnd hk1 (stpN l1 t1) x9 (su9 R R R R R R R R R) (zc pk1 (zc pz (zc pk1 (zc pk1 (zc pk1 zn)))))))
 have c1 : (decide (((k1 : Nat) : Int) < ((v3.length : Nat) : Int))) = false := ddf (by omega)
 have en1 := foe l1 hk1
 exact wcr (wlq (pls R R) R (wnt (wcs (wff R c1 (wcx (wqe (wqe (wbx (wjm _ x1l (Sum.inl.inj en1) (su3 R R R) (zc pz (zc pk2 (zc pk2 zn))))))))))))
 intro e1 x7 hp
 obtain rfl : e1 = y1 := hp.symm
 refine wqt (wcr (wlq (v := .agg #[iv a_b.Size, (sl v0a)]) (plb tk_26 pk2 R R R) R (mv R R (bdO t0 fun v7 hv7 t0 => (wlc (cz1 fa_24 R fun w hw => c_impl_ExchangeBlock w a_b v0a (ra r0 hw) e1.2.2 x6.2 (Rg.on (rgo pz) hw) hv7) R fun x10 => (wlq (pex R R) R (wlq (pex R R) R (wls (sbx (cs' := [iv v7.1.Size, (sl x10)]) tk_26 pk2 R R R R R R R) (asg R R (wnt (wct ?_)))))))))))
 obtain rfl := oi t0
 exact wq_retc1 R tk_26 R R pz R fun w hw => ⟨x10, R, hw.weak (zc pk1 zn)⟩

theorem c_impl_SameBlock (w : World) (a_b : GBlock) (v0a : Hd) (r0 : rdF w (dm w []) (sl v0a) a_b.Cells) (a_d : GBlock) (v1a : Hd) (r1 : rdF w (dm w []) (sl v1a) a_d.Cells) {r : Bool} (t0 : impl_SameBlock a_b a_d = some r) : Calls Tryd.prog 10 #[.agg #[.int .i64 a_b.Size, (sl v0a)], .agg #[.int .i64 a_d.Size, (sl v1a)]] w fun e w' => e = .returned (.bool r) ∧ SH w [] [] w' := by
 refine cwc (args := [_, _]) Tryd.func10 R Tryd.ntmps10 R ?_
 unfold impl_SameBlock at t0
 refine wcr (wle (eo_box R R) R fun b1 => (wle (eo_box R R) R fun b2 => (asg R R (wnt (wcs (wcs (wcj (X := Unit) (fun _ => True) (fun _ => [(2, ptr b1 0), (3, ptr b2 0), (19, .bool ((a_b.Size != a_d.Size) || (((a_b.Cells.length : Nat) : Int) != ((a_d.Cells.length : Nat) : Int))))]) (fun _ => [box b2 [iv a_d.Size, (sl v1a)], box b1 [iv a_b.Size, (sl v0a)]]) ?_ ?_)))))))
 refine wcg (wlq (pof fo_26_0 R) R (wlq (v := iv a_b.Size) (plx tk_3 pk1 R R) R (wlq (pof fo_26_0 R) R (wlq (v := iv a_d.Size) (plx tk_3 pz R R) R (wlq (po_neq R R) R (mv R R (wl_fork (t := 11) R (fun h1 => ?_) fun h1 => ?_)))))))
 exact wgf (j := 5) R R R R R (wgf (j := 5) R R R R R (wgf (j := 5) R R R R R (wgf (j := 5) R R R R R (wgf (j := 5) R R R R R (wgf (j := 5) R R R R R (wgf (j := 5) R R R R R (wlq (pit R R) R (wln (wqm () trivial (yc R (yc R (sub_b R (by rw [h1]; rfl) yn))) so2)))))))))
 exact wgn (j := 5) R R R (wlq (pof fo_26_1 R) R (wgn (j := 5) R R R (wlq (v := (sl v0a)) (plx tk_24 pk1 R R) R (wgn (j := 5) R R R (wlq (pln (rga r0) el_24 R) R (wgn (j := 5) R R R (wlq (pof fo_26_1 R) R (wgn (j := 5) R R R (wlq (v := (sl v1a)) (plx tk_24 pz R R) R (wgn (j := 5) R R R (wlq (pln (rga r1) el_24 R) R (wgn (j := 5) R R R (wlq (po_neq R R) R (wlq (pif R R) R (wln (wqm () trivial (yc R (yc R (sub_b R (by rw [h1]; rfl) yn))) so2))))))))))))))))
 intro _ _
 refine wqt (wcO t0 R (fun h2 t0 => ?_) fun h2 t0 => ?_)
 refine wcr (asg R R (wnt (wct (wqr ?_))))
 obtain rfl := oi t0
 exact wq1 R R fun w hw => ⟨R, hw.weak zn⟩
 refine wck (wqt (wcs (wcr (wlq (pof fo_26_1 R) R (wlq (v := (sl v0a)) (plx tk_24 pk1 R R) R (wlq (pln (rga r0) el_24 R) R (mv R R (wnt (gdO t0 fun g1 t0 => (sqO t0 fun y1 l1 t0 => (wj (J := Unit) (X := Unit) (fun z => y1 = .inl z) (fun _ _ => []) (fun _ _ => []) ?_ ?_)))))))))))
 refine wcb (wcf (X := Unit) l1 (fun k1 s1 x1l => [(2, ptr b1 0), (3, ptr b2 0), (22, iv ((a_b.Cells.length : Nat) : Int)), (23, iv ((k1 : Nat) : Int))]) (fun k1 s1 x1l => [box b2 [iv a_d.Size, (sl v1a)], box b1 [iv a_b.Size, (sl v0a)]]) () (su4 R R R R) so2 fun k1 s1 x1l hN1 l1 => ?_)
 by_cases hk1 : k1 < a_b.Cells.length
 refine fos l1 hk1 fun _ t1 l1 => ?_
 unfold impl_SameBlock_L1 at t1
 have c1 : (decide (((k1 : Nat) : Int) < ((a_b.Cells.length : Nat) : Int))) = true := ddt (by omega)
 refine wcr (wlq (pls R R) R (wnt (wcs (wft R c1 (wck (wqt (wcs (wcb (wcr (mv R R (asg R R (wnt (wcs (wcd [box b2 [iv a_d.Size, (sl v1a)], box b1 [iv a_b.Size, (sl v0a)]] 11 mixed (aq 0 R (pof fo_26_1 R) so2 R (aq (v := (sl v0a)) 1 R (plx tk_24 pk1 R R) so2 R (aq 2 R (pom R) so2 R (aq 3 R (po_ixn (k := k1) (rga r0) el_24 R R hk1) so2 R (aq (v := .agg #[iv ((gx a_b.Cells k1).Split), iv ((gx a_b.Cells k1).A), iv ((gx a_b.Cells k1).B)]) 4 R (po_ldfs (rga r0) tk_41 R hk1 R R R) so2 R (aq 5 R (pof fo_26_1 R) so2 R (aq (v := (sl v1a)) 6 R (plx tk_24 pz R R) so2 R (aq 7 R (pom R) so2 R (gdO t1 fun g2 t1 => (aq 8 R (po_ixn (k := k1) (rga r1) el_24 R R g2) so2 R (aq (v := .agg #[iv ((gx a_d.Cells k1).Split), iv ((gx a_d.Cells k1).A), iv ((gx a_d.Cells k1).B)]) 9 R (po_ldfs (rga r1) tk_41 R g2 R R R) so2 R (aq 10 R (po_neq_struct (ps := [(gx a_b.Cells k1).Split, (gx a_b.Cells k1).A, (gx a_b.Cells k1).B]) (qs := [(gx a_d.Cells k1).Split, (gx a_d.Cells k1).A, (gx a_d.Cells k1).B]) sq_41 R R R R) so2 R (ae (wqt (wcO t1 R (fun h3 t1 => ?_) fun h3 t1 => ?_)))))))))))))))))))))))))))))
 refine wcr (asg R R (wnt (wct (wbr (wqr (wqr (wbr (wqr (wqr ?_)))))))))
 replace t0 := lpR t0 l1 t1
 obtain rfl := oi t0
 exact wq1 R R fun w hw => ⟨R, hw.weak zn⟩
 refine wck (wqb (wqt (wcg (wlq (po_inc R R (by omega)) R ?_))))
 exact mv R R (wln (wq_rnd hk1 (stpN l1 t1) () (su4 R R R R) so2))
 have c1 : (decide (((k1 : Nat) : Int) < ((a_b.Cells.length : Nat) : Int))) = false := ddf (by omega)
 have en1 := foe l1 hk1
 exact wcr (wlq (pls R R) R (wnt (wcs (wff R c1 (wcx (wqe (wqe (wbx (wjm _ () en1 yn zn)))))))))
 intro e1 _ hp
 replace t0 := sqE (j := e1) t0 hp
 refine wqt (wcr (asg R R (wnt (wct ?_))))
 obtain rfl := oi t0
 exact wq1 R R fun w hw => ⟨R, hw.weak zn⟩

theorem c_impl_indexOf (w : World) (a_list : List Int) (v0a : Hd) (r0 : rdF w (dm w []) (sl v0a) a_list) (a_n : Int) {r : Int} (t0 : impl_indexOf a_list a_n = some r) : Calls Tryd.prog 65 #[(sl v0a), .int .i64 a_n] w fun e w' => e = .returned (.int .i64 r) ∧ SH w [] [] w' := by
 refine cwc (args := [_, _]) Tryd.func65 R Tryd.ntmps65 R ?_
 unfold impl_indexOf at t0
 refine wcr (asg R R (wnt (wcs (wcr (mv R R (wlq (pln (rga r0) el_29 R) R (mv R R (wnt (gdO t0 fun g1 t0 => (sqO t0 fun y1 l1 t0 => (wj (J := Unit) (X := Unit) (fun z => y1 = .inl z) (fun _ _ => []) (fun _ _ => []) ?_ ?_)))))))))))
 refine wcb (wcf (X := Unit) l1 (fun k1 s1 x1l => [(1, iv a_n), (7, (sl v0a)), (8, iv ((a_list.length : Nat) : Int)), (9, iv ((k1 : Nat) : Int))]) (fun k1 s1 x1l => []) () (su4 R R R R) zn fun k1 s1 x1l hN1 l1 => ?_)
 by_cases hk1 : k1 < a_list.length
 refine fos l1 hk1 fun _ t1 l1 => ?_
 unfold impl_indexOf_L1 at t1
 have c1 : (decide (((k1 : Nat) : Int) < ((a_list.length : Nat) : Int))) = true := ddt (by omega)
 refine wcr (wlq (pls R R) R (wnt (wcs (wft R c1 (wck (wqt (wcs (wcb (wcr (mv R R (wlq (po_ixn (k := k1) (rga r0) el_29 R R hk1) R (wlq (v := iv (gx a_list k1)) (po_ldf (rga r0) tk_3 R hk1 R) R (asg R R (asg R R (wnt (wcr (mv R R (mv R R (wlq (pol R R) R (wnt (wcO t1 R (fun h1 t1 => ?_) fun h1 t1 => ?_)))))))))))))))))))))
 refine wcr (mv R R (asg R R (wnt (wct (wbr (wqr (wqr (wbr (wqr (wqr ?_))))))))))
 replace t0 := lpR t0 l1 t1
 obtain rfl := oi t0
 exact wq1 R R fun w hw => ⟨R, hw.weak zn⟩
 refine wck (wqb (wqt (wcg (wlq (po_inc R R (by omega)) R ?_))))
 exact mv R R (wln (wq_rnd hk1 (stpN l1 t1) () (su4 R R R R) zn))
 have c1 : (decide (((k1 : Nat) : Int) < ((a_list.length : Nat) : Int))) = false := ddf (by omega)
 have en1 := foe l1 hk1
 exact wcr (wlq (pls R R) R (wnt (wcs (wff R c1 (wcx (wqe (wqe (wbx (wjm _ () en1 yn zn)))))))))
 intro e1 _ hp
 replace t0 := sqE (j := e1) t0 hp
 refine wqt (wcr (asg R R (wnt (wct ?_))))
 obtain rfl := oi t0
 exact wq1 R R fun w hw => ⟨R, hw.weak zn⟩

theorem c_impl_put (w : World) (a_list : List Int) (v0a : Hd) (r0 : rdF w (dm w []) (sl v0a) a_list) (a_n : Int) {r : List Int} (t0 : impl_put a_list a_n = some r) : Calls Tryd.prog 88 #[(sl v0a), .int .i64 a_n] w fun e w' => ∃ x : Hd, e = .returned ((sl x)) ∧ SH w [] [ownF (sl x) r] w' := by
 refine cwc (args := [_, _]) Tryd.func88 R Tryd.ntmps88 R ?_
 unfold impl_put at t0
 refine wcr (asg R R (wnt (wcr (wle (ebs R sb_29_0) R fun b1 => (asg R R (asg R R (wnt (wcs (wcr (mv R R (wlq (pln (rga r0) el_29 R) R (mv R R (wnt (gdO t0 fun g1 t0 => (lpO_inv t0 fun y1 l1 t0 => (wj (J := (List Int) × Bool) (X := Hd) (fun z => y1 = z) (fun z x => [(1, iv a_n), (5, (sl x)), (6, .bool z.2)]) (fun z x => [ownF (sl x) z.1]) ?_ ?_))))))))))))))))
 refine wcb (wcf (X := Hd) l1 (fun k1 s1 x1l => [(1, iv a_n), (5, (sl x1l)), (6, .bool s1.2), (10, (sl v0a)), (11, iv ((a_list.length : Nat) : Int)), (12, iv ((k1 : Nat) : Int))]) (fun k1 s1 x1l => [ownF (sl x1l) s1.1]) (⟨some ⟨b1, 0, none⟩, 0, 0⟩ : Hd) (su6 R R R R R R) (zc (pbo pz (n := 0) (xs := ([] : List Int)) R R (by unfold maxLen; omega)) zn) fun k1 s1 x1l hN1 l1 => ?_)
 by_cases hk1 : k1 < a_list.length
 refine fos l1 hk1 fun _ t1 l1 => ?_
 unfold impl_put_L1 at t1
 have c1 : (decide (((k1 : Nat) : Int) < ((a_list.length : Nat) : Int))) = true := ddt (by omega)
 refine wcr (wlq (pls R R) R (wnt (wcs (wft R c1 (wck (wqt (wcs (wcb (wcr (wlq (po_ixn (k := k1) (rga r0) el_29 R R hk1) R (wlq (v := iv (gx a_list k1)) (po_ldf (rga r0) tk_3 R hk1 R) R (asg R R (wnt (wcs (wcs (wcj (X := Unit) (fun _ => True) (fun _ => [(1, iv a_n), (5, (sl x1l)), (6, .bool s1.2), (8, iv (gx a_list k1)), (10, (sl v0a)), (11, iv ((a_list.length : Nat) : Int)), (12, iv ((k1 : Nat) : Int)), (22, .bool ((!s1.2) && (decide (a_n ≤ (gx a_list k1)))))]) (fun _ => [ownF (sl x1l) s1.1]) ?_ ?_))))))))))))))))
 refine wcg (mv R R (wlq (po_not R) R (mv R R (wl_fork (t := 18) R (fun h1 => ?_) fun h1 => ?_))))
 exact wgn (j := 2) R R R (mv R R (wgn (j := 2) R R R (mv R R (wgn (j := 2) R R R (wlq (po_leq R R) R (wlq (pit R R) R (wln (wqm () trivial (yc R (yc R (yc R (yc R (yc R (yc R (yc R (sub_b R (by rw [h1]; rfl) yn)))))))) so1))))))))
 exact wgf (j := 2) R R R R R (wgf (j := 2) R R R R R (wgf (j := 2) R R R R R (wlq (pif R R) R (wln (wqm () trivial (yc R (yc R (yc R (yc R (yc R (yc R (yc R (sub_b R (by rw [h1]; rfl) yn)))))))) so1)))))
 intro _ _
 refine wqt (bdO t1 fun y2 t2 t1 => (wj (J := (List Int) × Bool) (X := Hd) (fun z => y2 = z) (fun z x => [(1, iv a_n), (5, (sl x)), (6, .bool z.2), (8, iv (gx a_list k1)), (10, (sl v0a)), (11, iv ((a_list.length : Nat) : Int)), (12, iv ((k1 : Nat) : Int))]) (fun z x => [ownF (sl x) z.1]) ?_ ?_))
 refine wcO t2 R (fun h2 t2 => ?_) fun h2 t2 => ?_
 refine wcr (mv R R (mv R R (wle (ebs R (sb_29_1 a_n)) R fun b2 => (gdO t2 fun g2 t2 => (wle (eo_append (xs := s1.1) (ys := ([a_n] : List Int)) ak_29 pk1 R R (slin_rd fun _ g => Rg.on (rgo (pbo pz (n := 1) (xs := ([a_n] : List Int)) R R (by unfold maxLen; omega))) g) g2) R fun x4 => ?_)))))
 exact asg R R (wnt (wcg (asg R R (wln (wjm _ x4 (mtE t2) (su7 R R R R R R R) so1)))))
 exact wck (wjm _ x1l (mtE t2) (su7 R R R R R R R) so1)
 intro j2 x3 hp
 obtain rfl : j2 = y2 := hp.symm
 refine wqt (wcg (mv R R (mv R R (wle (ebs R (sb_29_1 (gx a_list k1))) R fun b3 => (gdO t1 fun g3 t1 => (wle (eo_append (xs := j2.1) (ys := ([(gx a_list k1)] : List Int)) ak_29 pk1 R R (slin_rd fun _ g => Rg.on (rgo (pbo pz (n := 1) (xs := ([(gx a_list k1)] : List Int)) R R (by unfold maxLen; omega))) g) g3) R fun x5 => ?_))))))
 refine asg R R (wln (wqb (wqt (wcg (wlq (po_inc R R (by omega)) R ?_)))))
 exact mv R R (wln (wq_rnd hk1 (stpN l1 t1) x5 (su6 R R R R R R) so1))
 have c1 : (decide (((k1 : Nat) : Int) < ((a_list.length : Nat) : Int))) = false := ddf (by omega)
 have en1 := foe l1 hk1
 exact wcr (wlq (pls R R) R (wnt (wcs (wff R c1 (wcx (wqe (wqe (wbx (wjm _ x1l (Sum.inl.inj en1) (su3 R R R) so1)))))))))
 intro e1 x1 hp
 obtain rfl : e1 = y1 := hp.symm
 refine wqt (wcs (wcr (mv R R (wlq (po_not R) R (wnt (bdO t0 fun y1 t1 t0 => (wj (J := List Int) (X := Hd) (fun z => y1 = z) (fun _ x => [(5, (sl x))]) (fun z x => [ownF (sl x) z]) ?_ ?_)))))))
 refine wcO t1 R (fun h3 t1 => ?_) fun h3 t1 => ?_
 refine wcg (mv R R (mv R R (wle (ebs R (sb_29_1 a_n)) R fun b4 => (gdO t1 fun g4 t1 => (wle (eo_append (xs := e1.1) (ys := ([a_n] : List Int)) ak_29 pk1 R R (slin_rd fun _ g => Rg.on (rgo (pbo pz (n := 1) (xs := ([a_n] : List Int)) R R (by unfold maxLen; omega))) g) g4) R fun x7 => ?_)))))
 exact asg R R (wln (wjm _ x7 (mtE t1) (su1 R) so1))
 exact wck (wjm _ x1 (mtE t1) (su1 R) so1)
 intro j3 x6 hp
 obtain rfl : j3 = y1 := hp.symm
 refine wqt (wcr (mv R R (asg R R (wnt (wct ?_)))))
 obtain rfl := oi t0
 exact wq1 R R fun w hw => ⟨x6, R, hw.weak so1⟩

theorem c_impl_sorted (w : World) (a_list : List Int) (v0a : Hd) (r0 : rdF w (dm w []) (sl v0a) a_list) {r : List Int} (t0 : impl_sorted a_list = some r) : Calls Tryd.prog 81 #[(sl v0a)] w fun e w' => ∃ x : Hd, e = .returned ((sl x)) ∧ SH w [] [ownF (sl x) r] w' := by
 refine cwc (args := [_]) Tryd.func81 R Tryd.ntmps81 R ?_
 unfold impl_sorted at t0
 refine wcr (asg R R (wnt (wcr (wle (ebs R sb_29_0) R fun b1 => (asg R R (wnt (wcs (wcr (mv R R (wlq (pln (rga r0) el_29 R) R (mv R R (wnt (gdO t0 fun g1 t0 => (lpO_inv t0 fun y1 l1 t0 => (wj (J := List Int) (X := Hd) (fun z => y1 = z) (fun _ x => [(3, (sl x))]) (fun z x => [ownF (sl x) z]) ?_ ?_)))))))))))))))
 refine wcb (wcf (X := Hd) l1 (fun k1 s1 x1l => [(3, (sl x1l)), (7, (sl v0a)), (8, iv ((a_list.length : Nat) : Int)), (9, iv ((k1 : Nat) : Int))]) (fun k1 s1 x1l => [ownF (sl x1l) s1]) (⟨some ⟨b1, 0, none⟩, 0, 0⟩ : Hd) (su4 R R R R) (zc (pbo pz (n := 0) (xs := ([] : List Int)) R R (by unfold maxLen; omega)) zn) fun k1 s1 x1l hN1 l1 => ?_)
 by_cases hk1 : k1 < a_list.length
 refine fos l1 hk1 fun _ t1 l1 => ?_
 unfold impl_sorted_L1 at t1
 have c1 : (decide (((k1 : Nat) : Int) < ((a_list.length : Nat) : Int))) = true := ddt (by omega)
 refine wcr (wlq (pls R R) R (wnt (wcs (wft R c1 (wck (wqt (wcs (wcb (wcr (wlq (po_ixn (k := k1) (rga r0) el_29 R R hk1) R (wlq (v := iv (gx a_list k1)) (po_ldf (rga r0) tk_3 R hk1 R) R (asg R R (wnt (wcg (mv R R (mv R R (bdO t1 fun v1 hv1 t1 => (wlc (cz1 fa_88 R fun w hw => c_impl_put w s1 x1l (Rg.on (rgo pz) hw) (gx a_list k1) hv1) R fun x2 => (asg R R (wln (wqb (wqt (wcg (wlq (po_inc R R (by omega)) R ?_))))))))))))))))))))))))
 exact mv R R (wln (wq_rnd hk1 (stpN l1 t1) x2 (su4 R R R R) so1))
 have c1 : (decide (((k1 : Nat) : Int) < ((a_list.length : Nat) : Int))) = false := ddf (by omega)
 have en1 := foe l1 hk1
 exact wcr (wlq (pls R R) R (wnt (wcs (wff R c1 (wcx (wqe (wqe (wbx (wjm _ x1l (Sum.inl.inj en1) (su1 R) so1)))))))))
 intro e1 x1 hp
 obtain rfl : e1 = y1 := hp.symm
 refine wqt (wcr (mv R R (asg R R (wnt (wct ?_)))))
 obtain rfl := oi t0
 exact wq1 R R fun w hw => ⟨x1, R, hw.weak so1⟩

theorem c_impl_isStrict (w : World) (a_list : List Int) (v0a : Hd) (r0 : rdF w (dm w []) (sl v0a) a_list) (a_a : Int) (a_b : Int) {r : Bool} (t0 : impl_isStrict a_list a_a a_b = some r) : Calls Tryd.prog 80 #[(sl v0a), .int .i64 a_a, .int .i64 a_b] w fun e w' => e = .returned (.bool r) ∧ SH w [] [] w' := by
 refine cwc (args := [_, _, _]) Tryd.func80 R Tryd.ntmps80 R ?_
 unfold impl_isStrict at t0
 refine wcr (asg R R (wnt (wcs (wcr (mv R R (wlq (pln (rga r0) el_29 R) R (mv R R (wnt (gdO t0 fun g1 t0 => (sqO t0 fun y1 l1 t0 => (wj (J := Unit) (X := Unit) (fun z => y1 = .inl z) (fun _ _ => [(0, (sl v0a)), (1, iv a_a), (2, iv a_b)]) (fun _ _ => []) ?_ ?_)))))))))))
 refine wcb (wcf (X := Unit) l1 (fun k1 s1 x1l => [(0, (sl v0a)), (1, iv a_a), (2, iv a_b), (9, iv ((a_list.length : Nat) : Int)), (10, iv ((k1 : Nat) : Int))]) (fun k1 s1 x1l => []) () (su5 R R R R R) zn fun k1 s1 x1l hN1 l1 => ?_)
 by_cases hk1 : k1 < a_list.length
 refine fos l1 hk1 fun _ t1 l1 => ?_
 unfold impl_isStrict_L1 at t1
 have c1 : (decide (((k1 : Nat) : Int) < ((a_list.length : Nat) : Int))) = true := ddt (by omega)
 refine wcr (wlq (pls R R) R (wnt (wcs (wft R c1 (wck (wqt (wcs (wcb (wcr (mv R R (asg R R (wnt (wcs (bdO t1 fun y2 t2 t1 => (wj (J := Bool) (X := Unit) (fun z => y2 = z) (fun z _ => [(0, (sl v0a)), (1, iv a_a), (2, iv a_b), (9, iv ((a_list.length : Nat) : Int)), (10, iv ((k1 : Nat) : Int)), (26, .bool z)]) (fun _ _ => []) ?_ ?_)))))))))))))))
 refine wcd [] 14 mixed (aq 0 R (pom R) zn R (aq 1 R (po_gtr R R) zn R (aq 2 R (pom R) zn R (waO_ (t := 15) t2 R (fun h1 t2 => ?_) fun h1 t2 => ?_))))
 exact an 3 2 R R R R (pom R) zn R (an 4 2 R R R R (pom R) zn R (an 5 2 R R R R (po_ixn (k := k1) (rga r0) el_29 R R hk1) zn R (an (v := iv (gx a_list k1)) 6 2 R R R R (po_ldf (rga r0) tk_3 R hk1 R) zn R (an 7 2 R R R R (pom R) zn R (an 8 2 R R R R (pom R) zn R (an 9 2 R R R R (po_sub R R) zn R (gdO t2 fun g2 t2 => (an 10 2 R R R R (po_ixr (rga r0) el_29 R R g2.1 g2.2) zn R (an (v := iv (gx a_list (((wr (((k1 : Nat) : Int) - 1))).toNat))) 11 2 R R R R (po_ldf (rga r0) tk_3 R (ix_lt g2) R) zn R (an 12 2 R R R R (po_leq R R) zn R (aq 13 R (pit R R) zn R (ae (wjm _ () (mtE t2) (su6 R R R R R R) zn)))))))))))))
 exact af 3 2 R R R R R zn R (af 4 2 R R R R R zn R (af 5 2 R R R R R zn R (af 6 2 R R R R R zn R (af 7 2 R R R R R zn R (af 8 2 R R R R R zn R (af 9 2 R R R R R zn R (af 10 2 R R R R R zn R (af 11 2 R R R R R zn R (af 12 2 R R R R R zn R (aq 13 R (pif R R) zn R (ae (wjm _ () (mtE t2) (su6 R R R R R R) zn))))))))))))
 intro j1 _ hp
 obtain rfl : j1 = y2 := hp.symm
 refine wqt (wcO t1 R (fun h2 t1 => ?_) fun h2 t1 => ?_)
 refine wcr (asg R R (wnt (wct (wbr (wqr (wqr (wbr (wqr (wqr ?_)))))))))
 replace t0 := lpR t0 l1 t1
 obtain rfl := oi t0
 exact wq1 R R fun w hw => ⟨R, hw.weak zn⟩
 refine wck (wqb (wqt (wcg (wlq (po_inc R R (by omega)) R ?_))))
 exact mv R R (wln (wq_rnd hk1 (stpN l1 t1) () (su5 R R R R R) zn))
 have c1 : (decide (((k1 : Nat) : Int) < ((a_list.length : Nat) : Int))) = false := ddf (by omega)
 have en1 := foe l1 hk1
 exact wcr (wlq (pls R R) R (wnt (wcs (wff R c1 (wcx (wqe (wqe (wbx (wjm _ () en1 (su3 R R R) zn)))))))))
 intro e1 _ hp
 replace t0 := sqE (j := e1) t0 hp
 refine wqt (wcr (mv R R (mv R R (mv R R (bdO t0 fun v1 hv1 t0 => (wlc (cz0 fa_62 R fun w hw => c_impl_allWithin w a_list v0a (ra r0 hw) a_a a_b hv1) R fun _ => (asg R R (wnt (wct ?_)))))))))
 obtain rfl := oi t0
 exact wq1 R R fun w hw => ⟨R, hw.weak zn⟩

theorem c_impl_IsExchange (w : World) (a_l : List Int) (v0a : Hd) (r0 : rdF w (dm w []) (sl v0a) a_l) {r : Bool} (t0 : impl_IsExchange a_l = some r) : Calls Tryd.prog 75 #[(sl v0a)] w fun e w' => e = .returned (.bool r) ∧ SH w [] [] w' := by
 refine cwc (args := [_]) Tryd.func75 R Tryd.ntmps75 R ?_
 unfold impl_IsExchange at t0
 refine wcr (asg R R (wnt (wcs (bdO t0 fun y1 t1 t0 => (wj (J := Bool) (X := Unit) (fun z => y1 = z) (fun z _ => [(2, .bool z)]) (fun _ _ => []) ?_ ?_)))))
 refine wcg (mv R R (wlq (pln (rga r0) el_29 R) R (wlq (pol R R) R (mv R R (wlo (t := 6) t1 R (fun h1 t1 => ?_) fun h1 t1 => ?_)))))
 exact wgn (j := 3) R R R (mv R R (bdO t1 fun v1 hv1 t1 => (wgn (j := 3) R R R (wlc (cz1 fa_81 R fun w hw => c_impl_sorted w a_l v0a (ra r0 hw) hv1) R (fun x2 => (bdO t1 fun v2 hv2 t1 => (wgn (j := 3) R R R (wlc (cz0 fa_80 R fun w hw => c_impl_isStrict w v1 x2 (Rg.on (rgo pz) hw) 0 5 hv2) R (fun _ => (wlq (pit R R) R (asg R R (wln (wjm _ () (mtE t1) (su1 R) zn)))))))))))))
 exact wgf (j := 3) R R R R R (wgf (j := 3) R R R R R (wgf (j := 3) R R R R R (wlq (pif R R) R (asg R R (wln (wjm _ () (mtE t1) (su1 R) zn))))))
 intro j1 _ hp
 obtain rfl : j1 = y1 := hp.symm
 refine wqt (wct ?_)
 obtain rfl := oi t0
 exact wq1 R R fun w hw => ⟨R, hw.weak zn⟩

theorem c_impl_UndoList (w : World) (a_l : List Int) (v0a : Hd) (r0 : rdF w (dm w []) (sl v0a) a_l) {r : List Int} (t0 : impl_UndoList a_l = some r) : Calls Tryd.prog 66 #[(sl v0a)] w fun e w' => ∃ x : Hd, e = .returned ((sl x)) ∧ SH w [] [ownF (sl x) r] w' := by
 refine cwc (args := [_]) Tryd.func66 R Tryd.ntmps66 R ?_
 unfold impl_UndoList at t0
 refine wcr (asg R R (wnt (wcs (wcr (mv R R (bdO t0 fun v1 hv1 t0 => (wlc (cz0 fa_75 R fun w hw => c_impl_IsExchange w a_l v0a (ra r0 hw) hv1) R fun _ => (wlq (po_not R) R (wnt (wcO t0 R (fun h1 t0 => ?_) fun h1 t0 => ?_))))))))))
 refine wcr (asg R R (wnt (wct (wqr ?_))))
 obtain rfl := oi t0
 exact wq1 R R fun w hw => ⟨hn, R, hw.weak (zc pick_nil zn)⟩
 refine wck (wqt (wcr (wle (eo_make_ (n := 6) (0 : Int) mk_29 R R R (by omega) R) R fun x1 => ?_)))
 refine asg R R (wnt (wcs (wcr (mv R R (wlq (pln (rga r0) el_29 R) R (mv R R (wnt (gdO t0 fun g1 t0 => (lpO_inv t0 fun y1 l1 t0 => (wj (J := List Int) (X := Unit) (fun z => y1 = z) (fun _ _ => [(3, (sl x1))]) (fun z _ => [ownF (sl x1) z]) ?_ ?_))))))))))
 refine wcb (wcf (X := Unit) l1 (fun k1 s1 x1l => [(3, (sl x1)), (10, (sl v0a)), (11, iv ((a_l.length : Nat) : Int)), (12, iv ((k1 : Nat) : Int))]) (fun k1 s1 x1l => [ownF (sl x1) s1]) () (su4 R R R R) so1 fun k1 s1 x1l hN1 l1 => ?_)
 by_cases hk1 : k1 < a_l.length
 refine fos l1 hk1 fun _ t1 l1 => ?_
 unfold impl_UndoList_L1 at t1
 have c1 : (decide (((k1 : Nat) : Int) < ((a_l.length : Nat) : Int))) = true := ddt (by omega)
 refine wcr (wlq (pls R R) R (wnt (wcs (wft R c1 (wck (wqt (wcs (wcb (wcr (mv R R (wlq (po_ixn (k := k1) (rga r0) el_29 R R hk1) R (wlq (v := iv (gx a_l k1)) (po_ldf (rga r0) tk_3 R hk1 R) R (asg R R (asg R R (wnt (wcg (mv R R (mv R R (mv R R (gdO t1 fun g2 t1 => (wlq (po_ixr (rgo pz) el_29 R R g2.1 g2.2) R (wls (so_own (x' := ((k1 : Nat) : Int)) tk_3 pz R R R R R R (ix_lt g2) R) (wln (wqb (wqt (wcg (wlq (po_inc R R (by omega)) R ?_)))))))))))))))))))))))))))
 exact mv R R (wln (wq_rnd hk1 (stpN l1 t1) () (su4 R R R R) so1))
 have c1 : (decide (((k1 : Nat) : Int) < ((a_l.length : Nat) : Int))) = false := ddf (by omega)
 have en1 := foe l1 hk1
 exact wcr (wlq (pls R R) R (wnt (wcs (wff R c1 (wcx (wqe (wqe (wbx (wjm _ () (Sum.inl.inj en1) (su1 R) so1)))))))))
 intro e1 _ hp
 obtain rfl : e1 = y1 := hp.symm
 refine wqt (wcr (mv R R (asg R R (wnt (wct ?_)))))
 obtain rfl := oi t0
 exact wq1 R R fun w hw => ⟨x1, R, hw.weak so1⟩

theorem c_impl_FirstUse (w : World) (a_b : GBlock) (v0a : Hd) (r0 : rdF w (dm w []) (sl v0a) a_b.Cells) {r : List Int} (t0 : impl_FirstUse a_b = some r) : Calls Tryd.prog 47 #[.agg #[.int .i64 a_b.Size, (sl v0a)]] w fun e w' => ∃ x : Hd, e = .returned ((sl x)) ∧ SH w [] [ownF (sl x) r] w' := by
 refine cwc (args := [_]) Tryd.func47 R Tryd.ntmps47 R ?_
 unfold impl_FirstUse at t0
 refine wcr (wle (eo_box R R) R fun b1 => (asg R R (wnt (wcs (wcr (wlq (v := .agg #[iv a_b.Size, (sl v0a)]) (plb tk_26 pz R R R) R (bdO t0 fun v1 hv1 t0 => (wlc (cz0 fa_19 R fun w hw => c_impl_BlockOk w a_b v0a (ra r0 hw) hv1) R fun _ => (wlq (po_not R) R (wnt (wcO t0 R (fun h1 t0 => ?_) fun h1 t0 => ?_)))))))))))
 refine wcr (asg R R (wnt (wct (wqr ?_))))
 obtain rfl := oi t0
 exact wq1 R R fun w hw => ⟨hn, R, hw.weak (zc pick_nil zn)⟩
 refine wck (wqt (wcr (wle (ebs R sb_29_0) R fun b2 => (asg R R (wnt (wcs (wcr (wlq (pof fo_26_1 R) R (wlq (v := (sl v0a)) (plx tk_24 pk1 R R) R (wlq (pln (rga r0) el_24 R) R (mv R R (wnt (gdO t0 fun g1 t0 => (lpO_inv t0 fun y1 l1 t0 => (wj (J := List Int) (X := Hd) (fun z => y1 = z) (fun _ x => [(3, (sl x))]) (fun z x => [ownF (sl x) z]) ?_ ?_)))))))))))))))
 refine wcb (wcf (X := Hd) l1 (fun k1 s1 x1l => [(3, (sl x1l)), (14, (sl v0a)), (15, iv ((a_b.Cells.length : Nat) : Int)), (16, iv ((k1 : Nat) : Int))]) (fun k1 s1 x1l => [ownF (sl x1l) s1]) (⟨some ⟨b2, 0, none⟩, 0, 0⟩ : Hd) (su4 R R R R) (zc (pbo pz (n := 0) (xs := ([] : List Int)) R R (by unfold maxLen; omega)) zn) fun k1 s1 x1l hN1 l1 => ?_)
 by_cases hk1 : k1 < a_b.Cells.length
 refine fos l1 hk1 fun _ t1 l1 => ?_
 unfold impl_FirstUse_L1 at t1
 have c1 : (decide (((k1 : Nat) : Int) < ((a_b.Cells.length : Nat) : Int))) = true := ddt (by omega)
 refine wcr (wlq (pls R R) R (wnt (wcs (wft R c1 (wck (wqt (wcs (wcb (wcr (wlq (po_ixn (k := k1) (rga r0) el_24 R R hk1) R (wlq (v := .agg #[iv ((gx a_b.Cells k1).Split), iv ((gx a_b.Cells k1).A), iv ((gx a_b.Cells k1).B)]) (po_ldfs (rga r0) tk_41 R hk1 R R R) R (wle (eal (cs := [iv 0, iv 0, iv 0]) za_41) R fun b3 => (wls (sbx (cs' := [iv ((gx a_b.Cells k1).Split), iv ((gx a_b.Cells k1).A), iv ((gx a_b.Cells k1).B)]) tk_41 pz R R R R R R R) (wnt (wcr (wlq (pof fo_41_1 R) R (wlq (v := iv ((gx a_b.Cells k1).A)) (plx tk_3 pz R R) R (wlq (pof fo_41_2 R) R (wlq (v := iv ((gx a_b.Cells k1).B)) (plx tk_3 pz R R) R (wle (ebs R (sb_29_2 ((gx a_b.Cells k1).A) ((gx a_b.Cells k1).B))) R fun b4 => (wlq (pln (rgo (pbo pz (n := 2) (xs := ([(gx a_b.Cells k1).A, (gx a_b.Cells k1).B] : List Int)) R R (by unfold maxLen; omega))) el_29 R) R ?_)))))))))))))))))))))
 refine mv R R (wnt (gdO t1 fun g2 t1 => (lpO_inv t1 fun y2 l2 t1 => (wj (J := List Int) (X := Hd) (fun z => y2 = z) (fun _ x => [(3, (sl x)), (14, (sl v0a)), (15, iv ((a_b.Cells.length : Nat) : Int)), (16, iv ((k1 : Nat) : Int))]) (fun z x => [ownF (sl x) z]) ?_ ?_))))
 refine wcb (wcf (X := Hd) l2 (fun k2 s2 x2l => [(3, (sl x2l)), (14, (sl v0a)), (15, iv ((a_b.Cells.length : Nat) : Int)), (16, iv ((k1 : Nat) : Int)), (24, (sl (⟨some ⟨b4, 0, none⟩, 2, 2⟩ : Hd))), (25, iv ((([(gx a_b.Cells k1).A, (gx a_b.Cells k1).B] : List Int).length : Nat) : Int)), (26, iv ((k2 : Nat) : Int))]) (fun k2 s2 x2l => [box b4 [iv ((gx a_b.Cells k1).A), iv ((gx a_b.Cells k1).B)], ownF (sl x2l) s2]) x1l (su7 R R R R R R R) (zc pz (zc pk1 zn)) fun k2 s2 x2l hN2 l2 => ?_)
 by_cases hk2 : k2 < ([(gx a_b.Cells k1).A, (gx a_b.Cells k1).B] : List Int).length
 refine fos l2 hk2 fun _ t2 l2 => ?_
 unfold impl_FirstUse_L2 at t2
 have c2 : (decide (((k2 : Nat) : Int) < ((([(gx a_b.Cells k1).A, (gx a_b.Cells k1).B] : List Int).length : Nat) : Int))) = true := ddt (by omega)
 refine wcr (wlq (pls R R) R (wnt (wcs (wft R c2 (wck (wqt (wcs (wcb (wcr (wlq (po_ixn (k := k2) (rgo (pbo pz (n := 2) (xs := ([(gx a_b.Cells k1).A, (gx a_b.Cells k1).B] : List Int)) R R (by unfold maxLen; omega))) el_29 R R hk2) R ?_))))))))))
 refine wlq (v := iv (gx ([(gx a_b.Cells k1).A, (gx a_b.Cells k1).B] : List Int) k2)) (po_ldf (rgo (pbo pz (n := 2) (xs := ([(gx a_b.Cells k1).A, (gx a_b.Cells k1).B] : List Int)) R R (by unfold maxLen; omega))) tk_3 R hk2 R) R ?_
 refine asg R R (wnt (wcr (mv R R (mv R R (bdO t2 fun v2 hv2 t2 => (wlc (cz0 fa_65 R fun w hw => c_impl_indexOf w s2 x2l (Rg.on (rgo pk1) hw) (gx ([(gx a_b.Cells k1).A, (gx a_b.Cells k1).B] : List Int) k2) hv2) R fun _ => (wlq (pls R R) R (wnt (bdO t2 fun y3 t3 t2 => (wj (J := List Int) (X := Hd) (fun z => y3 = z) (fun _ x => [(3, (sl x)), (14, (sl v0a)), (15, iv ((a_b.Cells.length : Nat) : Int)), (16, iv ((k1 : Nat) : Int)), (24, (sl (⟨some ⟨b4, 0, none⟩, 2, 2⟩ : Hd))), (25, iv ((([(gx a_b.Cells k1).A, (gx a_b.Cells k1).B] : List Int).length : Nat) : Int)), (26, iv ((k2 : Nat) : Int))]) (fun z x => [box b4 [iv ((gx a_b.Cells k1).A), iv ((gx a_b.Cells k1).B)], ownF (sl x) z]) ?_ ?_))))))))))
 refine wcO t3 R (fun h2 t3 => ?_) fun h2 t3 => ?_
 refine wcg (mv R R (mv R R (wle (ebs R (sb_29_1 (gx ([(gx a_b.Cells k1).A, (gx a_b.Cells k1).B] : List Int) k2))) R fun b5 => (gdO t3 fun g3 t3 => (wle (eo_append (xs := s2) (ys := ([(gx ([(gx a_b.Cells k1).A, (gx a_b.Cells k1).B] : List Int) k2)] : List Int)) ak_29 pk2 R R (slin_rd fun _ g => Rg.on (rgo (pbo pz (n := 1) (xs := ([(gx ([(gx a_b.Cells k1).A, (gx a_b.Cells k1).B] : List Int) k2)] : List Int)) R R (by unfold maxLen; omega))) g) g3) R fun x4 => ?_)))))
 exact asg R R (wln (wjm _ x4 (mtE t3) (su7 R R R R R R R) (zc pk2 so1)))
 exact wck (wjm _ x2l (mtE t3) (su7 R R R R R R R) so2)
 intro j1 x3 hp
 obtain rfl : j1 = y3 := hp.symm
 refine wqb (wqt (wcg (wlq (po_inc R R (by omega)) R ?_)))
 exact mv R R (wln (wq_rnd hk2 (stpN l2 t2) x3 (su7 R R R R R R R) so2))
 have c2 : (decide (((k2 : Nat) : Int) < ((([(gx a_b.Cells k1).A, (gx a_b.Cells k1).B] : List Int).length : Nat) : Int))) = false := ddf (by omega)
 have en1 := foe l2 hk2
 exact wcr (wlq (pls R R) R (wnt (wcs (wff R c2 (wcx (wqe (wqe (wbx (wjm _ x2l (Sum.inl.inj en1) (su4 R R R R) (zc pk1 zn))))))))))
 intro e2 x2 hp
 obtain rfl : e2 = y2 := hp.symm
 refine wqb (wqt (wcg (wlq (po_inc R R (by omega)) R ?_)))
 exact mv R R (wln (wq_rnd hk1 (stpN l1 t1) x2 (su4 R R R R) so1))
 have c1 : (decide (((k1 : Nat) : Int) < ((a_b.Cells.length : Nat) : Int))) = false := ddf (by omega)
 have en2 := foe l1 hk1
 exact wcr (wlq (pls R R) R (wnt (wcs (wff R c1 (wcx (wqe (wqe (wbx (wjm _ x1l (Sum.inl.inj en2) (su1 R) so1)))))))))
 intro e1 x1 hp
 obtain rfl : e1 = y1 := hp.symm
 refine wqt (wcs (wcr (mv R R (wnt (lpO_inv t0 fun y1 l1 t0 => (wj (J := List Int) (X := Hd) (fun z => y1 = z) (fun _ x => [(3, (sl x))]) (fun z x => [ownF (sl x) z]) ?_ ?_))))))
 refine wcb (wcf (X := Hd) l1 (fun k3 s3 x3l => [(3, (sl x3l)), (40, iv ((k3 : Nat) : Int))]) (fun k3 s3 x3l => [ownF (sl x3l) s3]) x1 (su2 R R) so1 fun k3 s3 x3l hN3 l1 => ?_)
 by_cases hk3 : k3 < 6
 refine fos l1 hk3 fun _ t1 l1 => ?_
 unfold impl_FirstUse_L3 at t1
 have c3 : (decide (((k3 : Nat) : Int) < 6)) = true := ddt (by omega)
 refine wcr (wlq (pls R R) R (wnt (wcs (wft R c3 (wck (wqt (wcs (wcb (wcr (mv R R (asg R R (wnt (wcr (mv R R (mv R R (bdO t1 fun v3 hv3 t1 => (wlc (cz0 fa_65 R fun w hw => c_impl_indexOf w s3 x3l (Rg.on (rgo pz) hw) ((k3 : Nat) : Int) hv3) R fun _ => (wlq (pls R R) R (wnt (bdO t1 fun y2 t2 t1 => (wj (J := List Int) (X := Hd) (fun z => y2 = z) (fun _ x => [(3, (sl x)), (40, iv ((k3 : Nat) : Int))]) (fun z x => [ownF (sl x) z]) ?_ ?_)))))))))))))))))))))
 refine wcO t2 R (fun h3 t2 => ?_) fun h3 t2 => ?_
 refine wcg (mv R R (mv R R (wle (ebs R (sb_29_1 ((k3 : Nat) : Int))) R fun b6 => (gdO t2 fun g4 t2 => (wle (eo_append (xs := s3) (ys := ([((k3 : Nat) : Int)] : List Int)) ak_29 pk1 R R (slin_rd fun _ g => Rg.on (rgo (pbo pz (n := 1) (xs := ([((k3 : Nat) : Int)] : List Int)) R R (by unfold maxLen; omega))) g) g4) R fun x7 => ?_)))))
 exact asg R R (wln (wjm _ x7 (mtE t2) (su2 R R) so1))
 exact wck (wjm _ x3l (mtE t2) (su2 R R) so1)
 intro j2 x6 hp
 obtain rfl : j2 = y2 := hp.symm
 refine wqb (wqt (wcg (wlq (po_inc R R (by omega)) R ?_)))
 exact mv R R (wln (wq_rnd hk3 (stpN l1 t1) x6 (su2 R R) so1))
 have c3 : (decide (((k3 : Nat) : Int) < 6)) = false := ddf (by omega)
 have en3 := foe l1 hk3
 exact wcr (wlq (pls R R) R (wnt (wcs (wff R c3 (wcx (wqe (wqe (wbx (wjm _ x3l (Sum.inl.inj en3) (su1 R) so1)))))))))
 intro e3 x5 hp
 obtain rfl : e3 = y1 := hp.symm
 refine wqt (wcr (mv R R (bdO t0 fun v4 hv4 t0 => (wlc (cz1 fa_66 R fun w hw => c_impl_UndoList w e3 x5 (Rg.on (rgo pz) hw) hv4) R fun x8 => (asg R R (wnt (wct ?_)))))))
 obtain rfl := oi t0
 exact wq1 R R fun w hw => ⟨x8, R, hw.weak so1⟩

theorem c_impl_plain (w : World) (a_b : GBlock) (v0a : Hd) (r0 : rdF w (dm w []) (sl v0a) a_b.Cells) {r : GBlock} (t0 : impl_plain a_b = some r) : Calls Tryd.prog 25 #[.agg #[.int .i64 a_b.Size, (sl v0a)]] w fun e w' => ∃ x : Hd, e = .returned (.agg #[.int .i64 r.Size, (sl x)]) ∧ SH w [] [ownF (sl x) r.Cells] w' := by
 refine cwc (args := [_]) Tryd.func25 R Tryd.ntmps25 R ?_
 unfold impl_plain at t0
 refine wcr (wle (eo_box R R) R fun b1 => (wle (eal (cs := [iv 0, (sl hn)]) za_26) R fun b2 => (wnt (wcs (bdO t0 fun v1 hv1 t0 => (bdO t0 fun v2 hv2 t0 => (wcj (X := Nat × Hd) (fun _ => True) (fun z => [(2, ptr b2 0), (3, ptr z.1 0)]) (fun z => [box z.1 [iv v2.1.Size, (sl z.2)], ownF (sl z.2) v2.1.Cells, box b2 [iv 0, (sl hn)]]) ?_ ?_)))))))
 refine wcd [box b2 [iv 0, (sl hn)], box b1 [iv a_b.Size, (sl v0a)]] 10 mixed (aq (v := .agg #[iv a_b.Size, (sl v0a)]) 0 R (plb tk_26 pk1 R R R) so2 R (aq (v := .agg #[iv a_b.Size, (sl v0a)]) 1 R (plb tk_26 pk1 R R R) so2 R (wa_2 (i := 2) (j := 7) (by kernel_rfl) ?_ ?_)))
 refine wsc R (cz1 fa_47 R fun w hw => c_impl_FirstUse w a_b v0a (ra r0 hw) hv1) (fun _ => (zt (zc pk1 (zc pk1 zn)))) R fun x1 => wa_2 (i := 3) (j := 7) (by kernel_rfl) ?_ ?_
 exact wsc R (cz1 fa_24 R fun w hw => c_impl_ExchangeBlock w a_b v0a (ra r0 hw) v1 x1 (Rg.on (rgo pz) hw) hv2) (fun _ => (zt (zc pk2 (zc pk2 zn)))) R fun x2 => aq 4 R (pom R) (zc pk2 (zc pk2 zn)) R (aq 5 R (pex R R) (zc pk2 (zc pk2 zn)) R (aq 6 R (pex R R) (zc pk2 (zc pk2 zn)) R (a1 7 (wse R (eal (cs := [iv 0, (sl hn)]) za_26) (fun _ => (zt (zc pk3 (zc pk3 zn)))) R fun b3 => (a1 8 (ws_skipop R (sbx (cs' := [iv v2.1.Size, (sl x2)]) tk_26 pz R R R R R R R) (zt (zc pk3 (zc pk3 zn))) (aq 9 R (po_assign R) (zc pk3 (zc pk3 zn)) R (ae (wqm (b3, x2) trivial (su2 R R) (zc pz (zc pz (zc pk1 zn))))))))))))
 exact wse R (eal (cs := [iv 0, (sl hn)]) za_26) (fun _ => (zt (zc pk2 (zc pk2 zn)))) R fun b4 => a1 3 (wsc R (cz1 fa_24 R fun w hw => c_impl_ExchangeBlock w a_b v0a (ra r0 hw) v1 x1 (Rg.on (rgo pk1) hw) hv2) (fun _ => (zt (zc pk3 (zc pk3 zn)))) R fun x3 => (aq 4 R (pom R) (zc pk3 (zc pk3 zn)) R (aq 5 R (pex R R) (zc pk3 (zc pk3 zn)) R (aq 6 R (pex R R) (zc pk3 (zc pk3 zn)) R (a1 8 (ws_skipop R (sbx (cs' := [iv v2.1.Size, (sl x3)]) tk_26 pk1 R R R R R R R) (zt (zc pk3 (zc pk3 zn))) (aq 9 R (po_assign R) (zc pk3 (zc pk3 zn)) R (ae (wqm (b4, x3) trivial (su2 R R) (zc pz (zc pz (zc pk1 zn))))))))))))
 exact wse R (eal (cs := [iv 0, (sl hn)]) za_26) (fun _ => (zt (zc pk1 (zc pk1 zn)))) R fun b5 => a1 2 (wsc R (cz1 fa_47 R fun w hw => c_impl_FirstUse w a_b v0a (ra r0 hw) hv1) (fun _ => (zt (zc pk2 (zc pk2 zn)))) R fun x4 => (a1 3 (wsc R (cz1 fa_24 R fun w hw => c_impl_ExchangeBlock w a_b v0a (ra r0 hw) v1 x4 (Rg.on (rgo pz) hw) hv2) (fun _ => (zt (zc pk3 (zc pk3 zn)))) R fun x5 => (aq 4 R (pom R) (zc pk3 (zc pk3 zn)) R (aq 5 R (pex R R) (zc pk3 (zc pk3 zn)) R (aq 6 R (pex R R) (zc pk3 (zc pk3 zn)) R (a1 8 (ws_skipop R (sbx (cs' := [iv v2.1.Size, (sl x5)]) tk_26 pk2 R R R R R R R) (zt (zc pk3 (zc pk3 zn))) (aq 9 R (po_assign R) (zc pk3 (zc pk3 zn)) R (ae (wqm (b5, x5) trivial (su2 R R) (zc pz (zc pz (zc pk1 zn))))))))))))))
 intro x6 _
 refine wqt (wcr (wlq (v := .agg #[iv v2.1.Size, (sl x6.2)]) (plb tk_26 pz R R R) R (wls (sbx (cs' := [iv v2.1.Size, (sl x6.2)]) tk_26 pk2 R R R R R R R) (wnt (wct ?_)))))
 obtain rfl := oi t0
 exact wqc R tk_26 R pz R fun w hw => ⟨x6.2, R, hw.weak (zc pk2 zn)⟩

theorem c_impl_IsColorway (w : World) (a_b : GBlock) (v0a : Hd) (r0 : rdF w (dm w []) (sl v0a) a_b.Cells) (a_d : GBlock) (v1a : Hd) (r1 : rdF w (dm w []) (sl v1a) a_d.Cells) {r : Bool} (t0 : impl_IsColorway a_b a_d = some r) : Calls Tryd.prog 11 #[.agg #[.int .i64 a_b.Size, (sl v0a)], .agg #[.int .i64 a_d.Size, (sl v1a)]] w fun e w' => e = .returned (.bool r) ∧ SH w [] [] w' := by
 refine cwc (args := [_, _]) Tryd.func11 R Tryd.ntmps11 R ?_
 unfold impl_IsColorway at t0
 refine wcr (wle (eo_box R R) R fun b1 => (wle (eo_box R R) R fun b2 => (asg R R (wnt (wcs (bdO t0 fun y1 t1 t0 => (wj (J := Bool) (X := Unit) (fun z => y1 = z) (fun z _ => [(4, .bool z)]) (fun _ _ => []) ?_ ?_)))))))
 refine wcd [box b2 [iv a_d.Size, (sl v1a)], box b1 [iv a_b.Size, (sl v0a)]] 14 mixed (aq (v := .agg #[iv a_b.Size, (sl v0a)]) 0 R (plb tk_26 pk1 R R R) so2 R (a1 1 (bdO t1 fun v1 hv1 t1 => (wsc R (cz0 fa_19 R fun w hw => c_impl_BlockOk w a_b v0a (ra r0 hw) hv1) (fun _ => (zt so2)) R fun _ => (aq 2 R (pom R) so2 R (waO_ (t := 7) t1 R (fun h1 t1 => ?_) fun h1 t1 => ?_))))))
 refine an (v := .agg #[iv a_d.Size, (sl v1a)]) 3 2 R R R R (plb tk_26 pz R R R) so2 R (a1 4 (bdO t1 fun v2 hv2 t1 => (ws_call_on (j := 2) R R R R (cz0 fa_19 R fun w hw => c_impl_BlockOk w a_d v1a (ra r1 hw) hv2) (fun _ => (zt so2)) R fun _ => (aq 5 R (pit R R) so2 R (aq 6 R (pom R) so2 R (waO_ (t := 11) t1 R (fun h2 t1 => ?_) fun h2 t1 => ?_))))))
 exact an (v := .agg #[iv a_b.Size, (sl v0a)]) 7 6 R R R R (plb tk_26 pk1 R R R) so2 R (an (v := .agg #[iv a_d.Size, (sl v1a)]) 9 6 R R R R (plb tk_26 pz R R R) so2 R (a1 8 (bdO t1 fun v3 hv3 t1 => (ws_call_on (j := 6) R R R R (cz1 fa_25 R fun w hw => c_impl_plain w a_b v0a (ra r0 hw) hv3) (fun _ => (zt (zc pk1 (zc pk1 zn)))) R fun x2 => (a1 10 (bdO t1 fun v4 hv4 t1 => (ws_call_on (j := 6) R R R R (cz1 fa_25 R fun w hw => c_impl_plain w a_d v1a (ra r1 hw) hv4) (fun _ => (zt (zc pk2 (zc pk2 zn)))) R fun x3 => (a1 11 (bdO t1 fun v5 hv5 t1 => (ws_call_on (j := 6) R R R R (cz0 fa_10 R fun w hw => c_impl_SameBlock w v3 x2 (Rg.on (rgo pk1) hw) v4 x3 (Rg.on (rgo pz) hw) hv5) (fun _ => (zt (zc pk2 (zc pk2 zn)))) R fun _ => (aq 12 R (pit R R) (zc pk2 (zc pk2 zn)) R (aq 13 R (po_assign R) (zc pk2 (zc pk2 zn)) R (ae (wjm _ () (mtE t1) (su1 R) zn))))))))))))))
 exact af 7 6 R R R R R so2 R (af 8 6 R R R R R so2 R (af 9 6 R R R R R so2 R (af 10 6 R R R R R so2 R (af 11 6 R R R R R so2 R (aq 12 R (pif R R) so2 R (aq 13 R (po_assign R) so2 R (ae (wjm _ () (mtE t1) (su1 R) zn))))))))
 exact af 3 2 R R R R R so2 R (af 4 2 R R R R R so2 R (aq 5 R (pif R R) so2 R (aq 6 R (pom R) so2 R (af 7 6 R R R R R so2 R (af 8 6 R R R R R so2 R (af 9 6 R R R R R so2 R (af 10 6 R R R R R so2 R (af 11 6 R R R R R so2 R (aq 12 R (pif R R) so2 R (aq 13 R (po_assign R) so2 R (ae (wjm _ () (mtE t1) (su1 R) zn))))))))))))
 intro j1 _ hp
 obtain rfl : j1 = y1 := hp.symm
 refine wqt (wct ?_)
 obtain rfl := oi t0
 exact wq1 R R fun w hw => ⟨R, hw.weak zn⟩

end Go.Proofs.YtkahnmhkfmjomabDoor
