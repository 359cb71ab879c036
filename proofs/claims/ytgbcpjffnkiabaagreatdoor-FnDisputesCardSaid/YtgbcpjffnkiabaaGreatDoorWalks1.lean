/-
 Each Go function computes its Lean function (part 1).
-/
import Derived.Test.YtgbcpjffnkiabaaGreatDoorLibs
namespace Go.Proofs.YtgbcpjffnkiabaaGreatDoor
open Go Go.RowKit Go.Proofs
set_option maxRecDepth 100000

theorem c_laws_big (w : World) (a_code : List UInt8) (v0a : Hd) (r0 : rdF w (dm w []) (sl v0a) a_code) {r : Bool} (t0 : laws_big a_code = some r) : Calls Tryz.prog 4 #[(sl v0a)] w fun e w' => e = .returned (.bool r) ∧ SH w [] [] w' := by
 refine cwc (args := [_]) Tryz.func4 R Tryz.ntmps4 R ?_
 unfold laws_big at t0
 refine wcr (asg R R (wnt (wcr (mv R R (wlq (pln (rga r0) el_22 R) R (wlq (po_gtr R R) R (asg R R (wnt (wct ?_)))))))))
 obtain rfl := oi t0
 exact wq1 R R fun w hw => ⟨R, hw.weak zn⟩

theorem c_spec_l01New (w : World) (a_code : List UInt8) (v0a : Hd) (r0 : rdF w (dm w []) (sl v0a) a_code) {r : Int × Int} (t0 : spec_l01New a_code = some r) : Calls Tryz.prog 16 #[(sl v0a)] w fun e w' => ∃ x : Nat, e = .returned (ptr x 0) ∧ SH w [] [box x [(sl v0a), .int .i64 r.1, .int .i64 r.2]] w' := by
 refine cwc (args := [_]) Tryz.func16 R Tryz.ntmps16 R ?_
 unfold spec_l01New at t0
 refine wcr (asg R R (wnt (wcr (mv R R (wlq (pln (rga r0) el_22 R) R (wlq (po_add R R) R (asg R R (wnt (wcs (wcr (asg R R (wnt (gdO t0 fun g1 t0 => (lpO_inv t0 fun y1 l1 t0 => (wj (J := Int) (X := Unit) (fun z => y1 = z) (fun z _ => [(0, (sl v0a)), (3, iv z)]) (fun _ _ => []) ?_ ?_)))))))))))))))
 refine wcb (wcf (X := Unit) l1 (fun k1 s1 x1l => [(0, (sl v0a)), (3, iv s1), (4, iv ((k1 : Nat) : Int))]) (fun k1 s1 x1l => []) () (su3 R R R) zn fun k1 s1 x1l hN1 l1 => ?_)
 by_cases hk1 : k1 < a_code.length
 refine fos l1 hk1 fun _ t1 l1 => ?_
 unfold spec_l01New_L1 at t1
 have c1 : (decide (((k1 : Nat) : Int) < ((a_code.length : Nat) : Int))) = true := ddt (by omega)
 refine wcs (wcr (mv R R (mv R R (wlq (pln (rga r0) el_22 R) R (wlq (pls R R) R (mv R R (wl_know (t := 12) R c1 (wgn (j := 4) R R R (mv R R (wgn (j := 4) R R R (wlq (pls R R) R (wlq (pit R R) R (wnt (wcO t1 R (fun h1 t1 => ?_) fun h1 t1 => ?_))))))))))))))
 refine wck (wqt (wcs (wcb (wcg (mv R R (wlq (po_mul R R) R (mv R R (mv R R (wlq (po_ixn (k := k1) (rga r0) el_22 R R hk1) R (wlq (v := .int .u8 ((gx a_code k1).toNat : Int)) (po_ldf (rga r0) tk_5 R hk1 R) R (wlq (po_u8int isU8_5 isInt_3 R) R (wlq (po_add R R) R (wlq (po_add R R) R (wlq (po_and R R) R (asg R R (wln (wqb (wqt (wcg (mv R R (wlq (po_inc R R (by omega)) R ?_)))))))))))))))))))))
 exact asg R R (wln (wq_rnd hk1 (stpN l1 t1) () (su3 R R R) zn))
 exact wcx (wqe (wqe (wbx (wjm _ () (Sum.inl.inj (stpB l1 t1)) (su2 R R) zn))))
 have c1 : (decide (((k1 : Nat) : Int) < ((a_code.length : Nat) : Int))) = false := ddf (by omega)
 have en1 := foe l1 hk1
 exact wcs (wcr (mv R R (mv R R (wlq (pln (rga r0) el_22 R) R (wlq (pls R R) R (mv R R (wl_know (t := 12) R c1 (wgf (j := 4) R R R R R (wgf (j := 4) R R R R R (wlq (pif R R) R (wnt (wff R R (wcx (wqe (wqe (wbx (wjm _ () (Sum.inl.inj en1) (su2 R R) zn)))))))))))))))))
 intro e1 _ hp
 obtain rfl : e1 = y1 := hp.symm
 refine wqt (wcr (mv R R (mv R R (wlq (po_build R (bd_62_0_2 v0a e1)) R (wle (eo_box R R) R fun b1 => (asg R R (wnt (wct ?_))))))))
 obtain rfl := oi t0
 exact wq1 R R fun w hw => ⟨b1, R, hw.weak so1⟩

theorem c_spec_l01Byte (w : World) (fp : List Nat) (b0p : Nat) (a_c0 : List UInt8) (v0a : Hd) (r0 : rdF w (dm w fp) (sl v0a) a_c0) (a_c1 : Int) (a_c2 : Int) (o : Ow w [box b0p [(sl v0a), .int .i64 a_c1, .int .i64 a_c2]] fp) {r : Int × Int × Int} (t0 : spec_l01Byte a_c0 a_c1 a_c2 = some r) : Calls Tryz.prog 52 #[ptr b0p 0] w fun e w' => ∃ _x : Unit, e = .returned (.int .i64 r.1) ∧ SH w fp [box b0p [(sl v0a), .int .i64 r.2.1, .int .i64 r.2.2]] w' := by
 refine calls_of_wc_own (args := [_]) o Tryz.func52 R Tryz.ntmps52 R ?_
 unfold spec_l01Byte at t0
 refine wcr (asg R R (wnt (wcr (mv R R (mv R R (wlq (po_nilCheck R) R (wlq (pof fo_62_2 R) R (wlq (v := iv a_c2) (plx tk_3 pz R R) R (wlq (po_mul R R) R (wlq (po_add R R) R (wlq (po_nilCheck R) R (wlq (pof fo_62_2 R) R (wls (sbx (cs' := [(sl v0a), iv a_c1, iv (wr ((wr (a_c2 * 6364136223846793005)) + 1442695040888963407))]) tk_3 pz R R R R R R R) (wnt (wcs (wcd [box b0p [(sl v0a), iv a_c1, iv (wr ((wr (a_c2 * 6364136223846793005)) + 1442695040888963407))]] 13 mixed (aq 0 R (pom R) so1 R (aq 1 R (po_nilCheck R) so1 R (aq 2 R (pof fo_62_2 R) so1 R (aq (v := iv (wr ((wr (a_c2 * 6364136223846793005)) + 1442695040888963407))) 3 R (plx tk_3 pz R R) so1 R (aq 4 R (po_shr R R (by decide)) so1 R ?_)))))))))))))))))))))
 refine aq 5 R (pom R) so1 R (aq 6 R (po_nilCheck R) so1 R (aq 7 R (pof fo_62_2 R) so1 R (aq (v := iv (wr ((wr (a_c2 * 6364136223846793005)) + 1442695040888963407))) 8 R (plx tk_3 pz R R) so1 R (aq 9 R (po_shr R R (by decide)) so1 R ?_))))
 refine aq 10 R (po_xor R R) so1 R (aq 11 R (po_and R R) so1 R (aq 12 R (po_assign R) so1 R (ae (wqt (wcs (wcs (wcd [box b0p [(sl v0a), iv a_c1, iv (wr ((wr (a_c2 * 6364136223846793005)) + 1442695040888963407))]] 10 mixed (aq 0 R (pom R) so1 R (aq 1 R (po_nilCheck R) so1 R (aq 2 R (pof fo_62_1 R) so1 R (aq (v := iv a_c1) 3 R (plx tk_3 pz R R) so1 R (aq 4 R (pom R) so1 R (aq 5 R (po_nilCheck R) so1 R (aq 6 R (pof fo_62_0 R) so1 R (aq (v := (sl v0a)) 7 R (plx tk_22 pz R R) so1 R (aq 8 R (pln (rga r0) el_22 R) so1 R (aq 9 R (pls R R) so1 R (ae (wqt (bdO t0 fun y1 t1 t0 => (wj (J := Int × Int) (X := Unit) (fun z => y1 = z) (fun z _ => [(3, iv z.1)]) (fun z _ => [box b0p [(sl v0a), iv z.2, iv (wr ((wr (a_c2 * 6364136223846793005)) + 1442695040888963407))]]) ?_ ?_)))))))))))))))))))))
 refine wcO t1 R (fun h1 t1 => ?_) fun h1 t1 => ?_
 exact wcs (wcd [box b0p [(sl v0a), iv a_c1, iv (wr ((wr (a_c2 * 6364136223846793005)) + 1442695040888963407))]] 15 mixed (aq 0 R (pom R) so1 R (aq 1 R (pom R) so1 R (aq 2 R (po_nilCheck R) so1 R (aq 3 R (pof fo_62_0 R) so1 R (aq (v := (sl v0a)) 4 R (plx tk_22 pz R R) so1 R (aq 5 R (pom R) so1 R (aq 6 R (po_nilCheck R) so1 R (aq 7 R (pof fo_62_1 R) so1 R (aq (v := iv a_c1) 8 R (plx tk_3 pz R R) so1 R (gdO t1 fun g1 t1 => (aq 9 R (po_ixr (rga r0) el_22 R R g1.1 g1.2) so1 R (aq (v := .int .u8 ((gx a_c0 ((a_c1).toNat)).toNat : Int)) 10 R (po_ldf (rga r0) tk_5 R (ix_lt g1) R) so1 R (aq 11 R (po_u8int isU8_5 isInt_3 R) so1 R (aq 12 R (po_add R R) so1 R (aq 13 R (po_and R R) so1 R (aq 14 R (po_assign R) so1 R (ae (wqt (wcg (mv R R (mv R R (wlq (po_nilCheck R) R (wlq (pof fo_62_1 R) R (wlq (v := iv a_c1) (plx tk_3 pz R R) R (wlq (po_add R R) R (wlq (po_nilCheck R) R (wlq (pof fo_62_1 R) R (wls (sbx (cs' := [(sl v0a), iv (wr (a_c1 + 1)), iv (wr ((wr (a_c2 * 6364136223846793005)) + 1442695040888963407))]) tk_3 pz R R R R R R R) (wln (wjm _ () (mtE t1) (su1 R) so1)))))))))))))))))))))))))))))))
 exact wck (wjm _ () (mtE t1) (su1 R) so1)
 intro j1 _ hp
 obtain rfl : j1 = y1 := hp.symm
 refine wqt (wcr (mv R R (asg R R (wnt (wct ?_)))))
 obtain rfl := oi t0
 exact wq1 R R fun w hw => ⟨(), R, hw.weak so1⟩

theorem c_spec_l01Below (w : World) (fp : List Nat) (b0p : Nat) (a_c0 : List UInt8) (v0a : Hd) (r0 : rdF w (dm w fp) (sl v0a) a_c0) (a_c1 : Int) (a_c2 : Int) (a_n : Int) (o : Ow w [box b0p [(sl v0a), .int .i64 a_c1, .int .i64 a_c2]] fp) {r : Int × Int × Int} (t0 : spec_l01Below a_c0 a_c1 a_c2 a_n = some r) : Calls Tryz.prog 31 #[ptr b0p 0, .int .i64 a_n] w fun e w' => ∃ _x : Unit, e = .returned (.int .i64 r.1) ∧ SH w fp [box b0p [(sl v0a), .int .i64 r.2.1, .int .i64 r.2.2]] w' := by
 refine calls_of_wc_own (args := [_, _]) o Tryz.func31 R Tryz.ntmps31 R ?_
 unfold spec_l01Below at t0
 refine wcr (asg R R (wnt (wcs (wcr (mv R R (wlq (po_leq R R) R (wnt (wcO t0 R (fun h1 t0 => ?_) fun h1 t0 => ?_))))))))
 refine wcr (asg R R (wnt (wct (wqr ?_))))
 obtain rfl := oi t0
 exact wq1 R R fun w hw => ⟨(), R, hw.weak so1⟩
 refine wck (wqt (wcs (wcr (mv R R (wlq (po_leq R R) R (wnt (wcO t0 R (fun h2 t0 => ?_) fun h2 t0 => ?_)))))))
 refine wcr (mv R R (bdO t0 fun v1 hv1 t0 => (wlc (co_o1 [box b0p [(sl v0a), iv a_c1, iv a_c2]] fa_52 (zc pz some_refl) R fun w fp hw => c_spec_l01Byte w fp b0p a_c0 v0a ((rdo_arg r0) w fp hw) a_c1 a_c2 hw.ow hv1) R fun _ => (mv R R (gdO t0 fun g1 t0 => (wlq (po_rem R R g1) R (asg R R (wnt (wct (wqr ?_))))))))))
 obtain rfl := oi t0
 exact wq1 R R fun w hw => ⟨(), R, hw.weak so1⟩
 refine wck (wqt (wcr (mv R R (bdO t0 fun v2 hv2 t0 => (wlc (co_o1 [box b0p [(sl v0a), iv a_c1, iv a_c2]] fa_52 (zc pz some_refl) R fun w fp hw => c_spec_l01Byte w fp b0p a_c0 v0a ((rdo_arg r0) w fp hw) a_c1 a_c2 hw.ow hv2) R fun _ => (asg R R (wnt (wcr (mv R R (bdO t0 fun v3 hv3 t0 => (wlc (co_o1 [box b0p [(sl v0a), iv v2.2.1, iv v2.2.2]] fa_52 (zc pz some_refl) R fun w fp hw => c_spec_l01Byte w fp b0p a_c0 v0a ((rdo_arg r0) w fp hw) v2.2.1 v2.2.2 hw.ow hv3) R fun _ => (asg R R (wnt (wcr (mv R R (bdO t0 fun v4 hv4 t0 => (wlc (co_o1 [box b0p [(sl v0a), iv v3.2.1, iv v3.2.2]] fa_52 (zc pz some_refl) R fun w fp hw => c_spec_l01Byte w fp b0p a_c0 v0a ((rdo_arg r0) w fp hw) v3.2.1 v3.2.2 hw.ow hv4) R fun _ => (asg R R (wnt (wcr (mv R R (bdO t0 fun v5 hv5 t0 => (wlc (co_o1 [box b0p [(sl v0a), iv v4.2.1, iv v4.2.2]] fa_52 (zc pz some_refl) R fun w fp hw => c_spec_l01Byte w fp b0p a_c0 v0a ((rdo_arg r0) w fp hw) v4.2.1 v4.2.2 hw.ow hv5) R fun _ => (asg R R (wnt (wcr (mv R R (wlq (po_mul R R) R (mv R R (wlq (po_mul R R) R (wlq (po_add R R) R (mv R R (wlq (po_mul R R) R (wlq (po_add R R) R (mv R R (wlq (po_add R R) R (mv R R (gdO t0 fun g2 t0 => (wlq (po_rem R R g2) R ?_)))))))))))))))))))))))))))))))))))))))
 refine asg R R (wnt (wct ?_))
 obtain rfl := oi t0
 exact wq1 R R fun w hw => ⟨(), R, hw.weak so1⟩

theorem c_spec_l01In (w : World) (a_x : Int) (a_least : Int) (a_most : Int) {r : Bool} (t0 : spec_l01In a_x a_least a_most = some r) : Calls Tryz.prog 22 #[.int .i64 a_x, .int .i64 a_least, .int .i64 a_most] w fun e w' => e = .returned (.bool r) ∧ SH w [] [] w' := by
 refine cwc (args := [_, _, _]) Tryz.func22 R Tryz.ntmps22 R ?_
 unfold spec_l01In at t0
 refine wcr (asg R R (wnt (wcs (wcj (X := Unit) (fun _ => True) (fun _ => [(6, .bool ((decide (a_x ≥ a_least)) && (decide (a_x ≤ a_most))))]) (fun _ => []) ?_ ?_))))
 refine wcg (mv R R (mv R R (wlq (po_geq R R) R (mv R R (wl_fork (t := 10) R (fun h1 => ?_) fun h1 => ?_)))))
 exact wgn (j := 3) R R R (mv R R (wgn (j := 3) R R R (mv R R (wgn (j := 3) R R R (wlq (po_leq R R) R (wlq (pit R R) R (asg R R (wln (wqm () trivial (sub_b R (by rw [h1]; rfl) yn) zn)))))))))
 exact wgf (j := 3) R R R R R (wgf (j := 3) R R R R R (wgf (j := 3) R R R R R (wlq (pif R R) R (asg R R (wln (wqm () trivial (sub_b R (by rw [h1]; rfl) yn) zn))))))
 intro _ _
 refine wqt (wct ?_)
 obtain rfl := oi t0
 exact wq1 R R fun w hw => ⟨R, hw.weak zn⟩

theorem c_spec_WholeCell (w : World) (a_a : Int) {r : GCell} (t0 : spec_WholeCell a_a = some r) : Calls Tryz.prog 29 #[.int .i64 a_a] w fun e w' => e = .returned (.agg #[.int .i64 r.Split, .int .i64 r.A, .int .i64 r.B]) ∧ SH w [] [] w' := by
 refine cwc (args := [_]) Tryz.func29 R Tryz.ntmps29 R ?_
 unfold spec_WholeCell at t0
 refine wcr (wle (eal (cs := [iv 0, iv 0, iv 0]) za_55) R fun b1 => (wnt (wcs (wcr (mv R R (bdO t0 fun v1 hv1 t0 => (wlc (cz0 fa_22 R fun w hw => c_spec_l01In w a_a 0 5 hv1) R fun _ => (wlq (po_not R) R (wnt (wcO t0 R (fun h1 t0 => ?_) fun h1 t0 => ?_))))))))))
 refine wcr (wlq (po_build R bd_55) R (wls (sbx (cs' := [iv 0, iv 0, iv 0]) tk_55 pz R R R R R R R) (wnt (wct (wqr ?_)))))
 obtain rfl := oi t0
 exact wqc R tk_55 R pz R fun w hw => ⟨R, hw.weak zn⟩
 refine wck (wqt (wcr (mv R R (mv R R (wlq (po_build R (bd_55_1_2 a_a a_a)) R (wls (sbx (cs' := [iv 0, iv a_a, iv a_a]) tk_55 pz R R R R R R R) (wnt (wct ?_))))))))
 obtain rfl := oi t0
 exact wqc R tk_55 R pz R fun w hw => ⟨R, hw.weak zn⟩

theorem c_spec_StarBlock (w : World)  {r : GBlock} (t0 : spec_StarBlock = some r) : Calls Tryz.prog 14 #[] w fun e w' => ∃ x : Hd, e = .returned (.agg #[.int .i64 r.Size, (sl x)]) ∧ SH w [] [ownF (sl x) r.Cells] w' := by
 refine cwc (args := []) Tryz.func14 R Tryz.ntmps14 R ?_
 unfold spec_StarBlock at t0
 refine wcr (wle (eal (cs := [iv 0, (sl hn)]) za_26) R fun b1 => (wnt (wcr (bdO t0 fun v1 hv1 t0 => (wlc (cz0 fa_29 R fun w hw => c_spec_WholeCell w 1 hv1) R fun _ => (wle (eal (cs := [iv 0, iv 0, iv 0]) za_55) R fun b2 => (wls (sbx (cs' := [iv v1.Split, iv v1.A, iv v1.B]) tk_55 pz R R R R R R R) (wnt (wcr (wlq (po_build R (bd_55_0_1_2 1 0 1)) R (wlq (v := .agg #[iv v1.Split, iv v1.A, iv v1.B]) (plb tk_55 pz R R R) R (wlq (po_build R (bd_55_0_1_2 2 1 0)) R (wlq (v := .agg #[iv v1.Split, iv v1.A, iv v1.B]) (plb tk_55 pz R R R) R (wlq (v := .agg #[iv v1.Split, iv v1.A, iv v1.B]) (plb tk_55 pz R R R) R (wlq (v := .agg #[iv v1.Split, iv v1.A, iv v1.B]) (plb tk_55 pz R R R) R (wlq (po_build R (bd_55_0_1_2 2 0 1)) R (wlq (v := .agg #[iv v1.Split, iv v1.A, iv v1.B]) (plb tk_55 pz R R R) R (wlq (po_build R (bd_55_0_1_2 1 1 0)) R (wle (ebs (qs := [(0, .agg #[iv 1, iv 0, iv 1]), (1, .agg #[iv v1.Split, iv v1.A, iv v1.B]), (2, .agg #[iv 2, iv 1, iv 0]), (3, .agg #[iv v1.Split, iv v1.A, iv v1.B]), (4, .agg #[iv v1.Split, iv v1.A, iv v1.B]), (5, .agg #[iv v1.Split, iv v1.A, iv v1.B]), (6, .agg #[iv 2, iv 0, iv 1]), (7, .agg #[iv v1.Split, iv v1.A, iv v1.B]), (8, .agg #[iv 1, iv 1, iv 0])]) R (sb_24_9 1 0 1 v1.Split v1.A v1.B 2 1 0 v1.Split v1.A v1.B v1.Split v1.A v1.B v1.Split v1.A v1.B 2 0 1 v1.Split v1.A v1.B 1 1 0)) R fun b3 => (wlq (po_build R (bd_26_0_1 3 (⟨some ⟨b3, 0, none⟩, 9, 9⟩ : Hd))) R (wls (sbx (cs' := [iv 3, (sl (⟨some ⟨b3, 0, none⟩, 9, 9⟩ : Hd))]) tk_26 pk2 R R R R R R R) (wnt (wct ?_)))))))))))))))))))))))
 obtain rfl := oi t0
 exact wqc R tk_26 R pz R fun w hw => ⟨(⟨some ⟨b3, 0, none⟩, 9, 9⟩ : Hd), R, hw.weak (zc (pbo pk1 (n := 9) (xs := ([(GCell.mk 1 0 1), v1, (GCell.mk 2 1 0), v1, v1, v1, (GCell.mk 2 0 1), v1, (GCell.mk 1 1 0)] : List GCell)) R R (by unfold maxLen; omega)) zn)⟩

theorem c_spec_PlainBlock (w : World) (a_size : Int) (a_a : Int) {r : GBlock × Bool} (t0 : spec_PlainBlock a_size a_a = some r) : Calls Tryz.prog 90 #[.int .i64 a_size, .int .i64 a_a] w fun e w' => ∃ x : Hd, e = .returned (.tuple #[.agg #[.int .i64 r.1.Size, (sl x)], .bool r.2]) ∧ SH w [] [ownF (sl x) r.1.Cells] w' := by
 refine cwc (args := [_, _]) Tryz.func90 R Tryz.ntmps90 R ?_
 unfold spec_PlainBlock at t0
 refine wcr (wle (eal (cs := [iv 0, (sl hn)]) za_26) R fun b1 => (asg R R (wnt (wcs (wcs (bdO t0 fun y1 t1 t0 => (wj (J := Bool) (X := Unit) (fun z => y1 = z) (fun z _ => [(0, iv a_size), (1, iv a_a), (4, ptr b1 0), (15, .bool z)]) (fun _ _ => [box b1 [iv 0, (sl hn)]]) ?_ ?_)))))))
 refine wcg (mv R R (bdO t1 fun v1 hv1 t1 => (wlc (cz0 fa_22 R fun w hw => c_spec_l01In w a_size 1 4 hv1) R fun _ => (wlq (po_not R) R (mv R R (wlo (t := 11) t1 R (fun h1 t1 => ?_) fun h1 t1 => ?_))))))
 exact wgf (j := 3) R R R R R (wgf (j := 3) R R R R R (wgf (j := 3) R R R R R (wlq (pit R R) R (wln (wjm _ () (mtE t1) (su4 R R R R) so1)))))
 exact wgn (j := 3) R R R (mv R R (bdO t1 fun v2 hv2 t1 => (wgn (j := 3) R R R (wlc (cz0 fa_22 R fun w hw => c_spec_l01In w a_a 0 5 hv2) R (fun _ => (wgn (j := 3) R R R (wlq (po_not R) R (wlq (pif R R) R (wln (wjm _ () (mtE t1) (su4 R R R R) so1))))))))))
 intro j1 _ hp
 obtain rfl : j1 = y1 := hp.symm
 refine wqt (wcO t0 R (fun h2 t0 => ?_) fun h2 t0 => ?_)
 refine wcr (wlq (po_build R bd_26) R (wls (sbx (cs' := [iv 0, (sl hn)]) tk_26 pz R R R R R R R) (asg R R (wnt (wct (wqr ?_))))))
 obtain rfl := oi t0
 exact wq_retc1 R tk_26 R R pz R fun w hw => ⟨hn, R, hw.weak (zc pick_nil zn)⟩
 refine wck (wqt (wcr (mv R R (wlq (po_build R (bd_26_0 a_size)) R (wle (eal (cs := [iv 0, (sl hn)]) za_26) R fun b2 => (wls (sbx (cs' := [iv a_size, (sl hn)]) tk_26 pz R R R R R R R) (wnt (wcs (wcr (asg R R (wnt (gdO t0 fun g1 t0 => (lpO_inv t0 fun y1 l1 t0 => (wj (J := List GCell) (X := Hd) (fun z => y1 = z) (fun _ _ => [(4, ptr b1 0), (6, ptr b2 0)]) (fun z x => [box b2 [iv a_size, (sl x)], box b1 [iv 0, (sl hn)], ownF (sl x) z]) ?_ ?_))))))))))))))
 refine wcb (wcf (X := Hd) l1 (fun k1 s1 x1l => [(0, iv a_size), (1, iv a_a), (4, ptr b1 0), (6, ptr b2 0), (7, iv ((k1 : Nat) : Int))]) (fun k1 s1 x1l => [box b2 [iv a_size, (sl x1l)], box b1 [iv 0, (sl hn)], ownF (sl x1l) s1]) hn (su5 R R R R R) (zc pz (zc pz (zc pick_nil zn))) fun k1 s1 x1l hN1 l1 => ?_)
 by_cases hk1 : k1 < ((wr (a_size * a_size))).toNat
 refine fos l1 hk1 fun _ t1 l1 => ?_
 unfold spec_PlainBlock_L1 at t1
 have c1 : (decide (((k1 : Nat) : Int) < (wr (a_size * a_size)))) = true := ddt (by omega)
 refine wcs (wcr (mv R R (mv R R (mv R R (wlq (po_mul R R) R (wlq (pls R R) R (wnt (wft R c1 (wck (wqt (wcs (wcb (wcd [box b2 [iv a_size, (sl x1l)], box b1 [iv 0, (sl hn)]] 7 mixed (aq 0 R (pof fo_26_1 R) so2 R (aq (v := (sl x1l)) 1 R (plx tk_24 pz R R) so2 R (aq 2 R (pom R) so2 R (a1 3 (bdO t1 fun v3 hv3 t1 => (wsc R (cz0 fa_29 R fun w hw => c_spec_WholeCell w a_a hv3) (fun _ => (zt so2)) R fun _ => (a1 4 (wse R (ebs R (sb_24_1 v3.Split v3.A v3.B)) (fun _ => (zt (zc pk1 (zc pk1 zn)))) R fun b3 => (a1 5 (gdO t1 fun g2 t1 => (wse R (eo_append (xs := s1) (ys := ([v3] : List GCell)) ak_24 pk3 R R (slin_rd fun _ g => Rg.on (rgo (pbo pz (n := 1) (xs := ([v3] : List GCell)) R R (by unfold maxLen; omega))) g) g2) (fun _ => (zt (zc pk2 (zc pk2 zn)))) R fun x3 => ?_))))))))))))))))))))))))
 refine aq 6 R (pof fo_26_1 R) (zc pk2 (zc pk2 zn)) R (a1 7 (ws_skipop R (sbx (cs' := [iv a_size, (sl x3)]) tk_24 pk2 R R R R R R R) (sts_past (by kernel_rfl)) ?_))
 refine ae (wqb (wqt (wcg (mv R R (wlq (po_inc R R (by omega)) R ?_)))))
 exact asg R R (wln (wq_rnd hk1 (stpN l1 t1) x3 (su5 R R R R R) (zc pz (zc pk2 so1))))
 have c1 : (decide (((k1 : Nat) : Int) < (wr (a_size * a_size)))) = false := ddf (by omega)
 have en1 := foe l1 hk1
 exact wcs (wcr (mv R R (mv R R (mv R R (wlq (po_mul R R) R (wlq (pls R R) R (wnt (wff R c1 (wcx (wqe (wqe (wbx (wjm _ x1l (Sum.inl.inj en1) (su2 R R) so3)))))))))))))
 intro e1 x2 hp
 obtain rfl : e1 = y1 := hp.symm
 refine wqt (wcr (wlq (v := .agg #[iv a_size, (sl x2)]) (plb tk_26 pz R R R) R (wls (sbx (cs' := [iv a_size, (sl x2)]) tk_26 pk1 R R R R R R R) (asg R R (wnt (wct ?_))))))
 obtain rfl := oi t0
 exact wq_retc1 R tk_26 R R pz R fun w hw => ⟨x2, R, hw.weak (zc pk2 zn)⟩

theorem c_spec_CellOk (w : World) (a_c : GCell) {r : Bool} (t0 : spec_CellOk a_c = some r) : Calls Tryz.prog 42 #[.agg #[.int .i64 a_c.Split, .int .i64 a_c.A, .int .i64 a_c.B]] w fun e w' => e = .returned (.bool r) ∧ SH w [] [] w' := by
 refine cwc (args := [_]) Tryz.func42 R Tryz.ntmps42 R ?_
 unfold spec_CellOk at t0
 refine wcr (wle (eo_box R R) R fun b1 => (asg R R (wnt (wcs (wcs (bdO t0 fun y1 t1 t0 => (wj (J := Bool) (X := Unit) (fun z => y1 = z) (fun z _ => [(1, ptr b1 0), (18, .bool z)]) (fun _ _ => [box b1 [iv a_c.Split, iv a_c.A, iv a_c.B]]) ?_ ?_)))))))
 refine wcg (wlq (pof fo_55_0 R) R (wlq (v := iv a_c.Split) (plx tk_3 pz R R) R (bdO t1 fun v1 hv1 t1 => (wlc (cz0 fa_22 R fun w hw => c_spec_l01In w a_c.Split 0 2 hv1) R fun _ => (wlq (po_not R) R (mv R R (wlo (t := 7) t1 R (fun h1 t1 => ?_) fun h1 t1 => ?_)))))))
 exact wgf (j := 4) R R R R R (wgf (j := 4) R R R R R (wgf (j := 4) R R R R R (wgf (j := 4) R R R R R (wlq (pit R R) R (mv R R (wgf (j := 10) R R R R R (wgf (j := 10) R R R R R (wgf (j := 10) R R R R R (wgf (j := 10) R R R R R (wlq (pit R R) R (wln (wjm _ () (mtE t1) (su2 R R) so1))))))))))))
 refine wgn (j := 4) R R R (wlq (pof fo_55_1 R) R (wgn (j := 4) R R R (wlq (v := iv a_c.A) (plx tk_3 pz R R) R (bdO t1 fun v2 hv2 t1 => (wgn (j := 4) R R R (wlc (cz0 fa_22 R fun w hw => c_spec_l01In w a_c.A 0 5 hv2) R (fun _ => (wgn (j := 4) R R R (wlq (po_not R) R (wlq (pif R R) R (mv R R (wlo (t := 13) t1 R (fun h2 t1 => ?_) fun h2 t1 => ?_))))))))))))
 exact wgf (j := 10) R R R R R (wgf (j := 10) R R R R R (wgf (j := 10) R R R R R (wgf (j := 10) R R R R R (wlq (pit R R) R (wln (wjm _ () (mtE t1) (su2 R R) so1))))))
 exact wgn (j := 10) R R R (wlq (pof fo_55_2 R) R (wgn (j := 10) R R R (wlq (v := iv a_c.B) (plx tk_3 pz R R) R (bdO t1 fun v3 hv3 t1 => (wgn (j := 10) R R R (wlc (cz0 fa_22 R fun w hw => c_spec_l01In w a_c.B 0 5 hv3) R (fun _ => (wgn (j := 10) R R R (wlq (po_not R) R (wlq (pif R R) R (wln (wjm _ () (mtE t1) (su2 R R) so1))))))))))))
 intro j1 _ hp
 obtain rfl : j1 = y1 := hp.symm
 refine wqt (wcO t0 R (fun h3 t0 => ?_) fun h3 t0 => ?_)
 refine wcr (asg R R (wnt (wct (wqr ?_))))
 obtain rfl := oi t0
 exact wq1 R R fun w hw => ⟨R, hw.weak zn⟩
 refine wck (wqt (wcr (wlq (pof fo_55_0 R) R (wlq (v := iv a_c.Split) (plx tk_3 pz R R) R (wlq (pol R R) R (wlq (pof fo_55_1 R) R (wlq (v := iv a_c.A) (plx tk_3 pz R R) R (wlq (pof fo_55_2 R) R (wlq (v := iv a_c.B) (plx tk_3 pz R R) R (wlq (pol R R) R (wlq (po_eql_bool ub_4 R R) R (asg R R (wnt (wct ?_))))))))))))))
 obtain rfl := oi t0
 exact wq1 R R fun w hw => ⟨R, hw.weak zn⟩

theorem c_spec_SplitCell (w : World) (a_split : Int) (a_a : Int) (a_b : Int) {r : GCell} (t0 : spec_SplitCell a_split a_a a_b = some r) : Calls Tryz.prog 68 #[.int .i64 a_split, .int .i64 a_a, .int .i64 a_b] w fun e w' => e = .returned (.agg #[.int .i64 r.Split, .int .i64 r.A, .int .i64 r.B]) ∧ SH w [] [] w' := by
 refine cwc (args := [_, _, _]) Tryz.func68 R Tryz.ntmps68 R ?_
 unfold spec_SplitCell at t0
 refine wcr (wle (eal (cs := [iv 0, iv 0, iv 0]) za_55) R fun b1 => (wnt (wcs (wcr (mv R R (mv R R (wlq (pol R R) R (wnt (wcO t0 R (fun h1 t0 => ?_) fun h1 t0 => ?_)))))))))
 refine wcr (mv R R (bdO t0 fun v1 hv1 t0 => (wlc (cz0 fa_29 R fun w hw => c_spec_WholeCell w a_a hv1) R fun _ => (wls (sbx (cs' := [iv v1.Split, iv v1.A, iv v1.B]) tk_55 pz R R R R R R R) (wnt (wct (wqr ?_)))))))
 obtain rfl := oi t0
 exact wqc R tk_55 R pz R fun w hw => ⟨R, hw.weak zn⟩
 refine wck (wqt (wcr (mv R R (mv R R (mv R R (wlq (po_build R (bd_55_0_1_2 a_split a_a a_b)) R (wle (eal (cs := [iv 0, iv 0, iv 0]) za_55) R fun b2 => (wls (sbx (cs' := [iv a_split, iv a_a, iv a_b]) tk_55 pz R R R R R R R) (wnt (wcs (wcr (wlq (v := .agg #[iv a_split, iv a_a, iv a_b]) (plb tk_55 pz R R R) R (bdO t0 fun v2 hv2 t0 => (wlc (cz0 fa_42 R fun w hw => c_spec_CellOk w (GCell.mk a_split a_a a_b) hv2) R fun _ => (wlq (po_not R) R (wnt (wcO t0 R (fun h2 t0 => ?_) fun h2 t0 => ?_)))))))))))))))))
 refine wcr (wlq (po_build R bd_55) R (wls (sbx (cs' := [iv 0, iv 0, iv 0]) tk_55 pk1 R R R R R R R) (wnt (wct (wqr ?_)))))
 obtain rfl := oi t0
 exact wqc R tk_55 R pz R fun w hw => ⟨R, hw.weak zn⟩
 refine wck (wqt (wcr (wlq (v := .agg #[iv a_split, iv a_a, iv a_b]) (plb tk_55 pz R R R) R (wls (sbx (cs' := [iv a_split, iv a_a, iv a_b]) tk_55 pk1 R R R R R R R) (wnt (wct ?_))))))
 obtain rfl := oi t0
 exact wqc R tk_55 R pz R fun w hw => ⟨R, hw.weak zn⟩

theorem c_spec_l02Cell (w : World) (fp : List Nat) (b0p : Nat) (a_c0 : List UInt8) (v0a : Hd) (r0 : rdF w (dm w fp) (sl v0a) a_c0) (a_c1 : Int) (a_c2 : Int) (o : Ow w [box b0p [(sl v0a), .int .i64 a_c1, .int .i64 a_c2]] fp) {r : GCell × Int × Int} (t0 : spec_l02Cell a_c0 a_c1 a_c2 = some r) : Calls Tryz.prog 43 #[ptr b0p 0] w fun e w' => ∃ _x : Unit, e = .returned (.agg #[.int .i64 r.1.Split, .int .i64 r.1.A, .int .i64 r.1.B]) ∧ SH w fp [box b0p [(sl v0a), .int .i64 r.2.1, .int .i64 r.2.2]] w' := by
 refine calls_of_wc_own (args := [_]) o Tryz.func43 R Tryz.ntmps43 R ?_
 unfold spec_l02Cell at t0
 refine wcr (wle (eal (cs := [iv 0, iv 0, iv 0]) za_55) R fun b1 => (wnt (wcr (mv R R (bdO t0 fun v1 hv1 t0 => (wlc (co_o1 [box b0p [(sl v0a), iv a_c1, iv a_c2]] fa_31 (zc pk1 some_refl) R fun w fp hw => c_spec_l01Below w fp b0p a_c0 v0a ((rdo_arg r0) w fp hw) a_c1 a_c2 3 hw.ow hv1) R fun _ => (mv R R (bdO t0 fun v2 hv2 t0 => (wlc (co_o1 [box b0p [(sl v0a), iv v1.2.1, iv v1.2.2]] fa_31 (zc pz some_refl) R fun w fp hw => c_spec_l01Below w fp b0p a_c0 v0a ((rdo_arg r0) w fp hw) v1.2.1 v1.2.2 3 hw.ow hv2) R fun _ => (mv R R (bdO t0 fun v3 hv3 t0 => (wlc (co_o1 [box b0p [(sl v0a), iv v2.2.1, iv v2.2.2]] fa_31 (zc pz some_refl) R fun w fp hw => c_spec_l01Below w fp b0p a_c0 v0a ((rdo_arg r0) w fp hw) v2.2.1 v2.2.2 3 hw.ow hv3) R fun _ => (bdO t0 fun v4 hv4 t0 => (wlc (cz0 fa_68 R fun w hw => c_spec_SplitCell w v1.1 v2.1 v3.1 hv4) R fun _ => (wls (sbx (cs' := [iv v4.Split, iv v4.A, iv v4.B]) tk_55 pk1 R R R R R R R) (wnt (wct ?_)))))))))))))))))
 obtain rfl := oi t0
 exact wqc R tk_55 R pz R fun w hw => ⟨(), R, hw.weak (zc pk1 zn)⟩

theorem c_spec_l03Block (w : World) (fp : List Nat) (b0p : Nat) (a_c0 : List UInt8) (v0a : Hd) (r0 : rdF w (dm w fp) (sl v0a) a_c0) (a_c1 : Int) (a_c2 : Int) (o : Ow w [box b0p [(sl v0a), .int .i64 a_c1, .int .i64 a_c2]] fp) {r : GBlock × Int × Int} (t0 : spec_l03Block a_c0 a_c1 a_c2 = some r) : Calls Tryz.prog 75 #[ptr b0p 0] w fun e w' => ∃ x : Hd, e = .returned (.agg #[.int .i64 r.1.Size, (sl x)]) ∧ SH w fp [ownF (sl x) r.1.Cells, box b0p [(sl v0a), .int .i64 r.2.1, .int .i64 r.2.2]] w' := by
 refine calls_of_wc_own (args := [_]) o Tryz.func75 R Tryz.ntmps75 R ?_
 unfold spec_l03Block at t0
 refine wcr (wle (eal (cs := [iv 0, (sl hn)]) za_26) R fun b1 => (wnt (wcs (wcr (mv R R (bdO t0 fun v1 hv1 t0 => (wlc (co_o1 [box b0p [(sl v0a), iv a_c1, iv a_c2]] fa_31 (zc pk1 some_refl) R fun w fp hw => c_spec_l01Below w fp b0p a_c0 v0a ((rdo_arg r0) w fp hw) a_c1 a_c2 6 hw.ow hv1) R fun _ => (wnt (wcb (wcr (wlq (pol R R) R (asg R R (wnt (wcO t0 R (fun h1 t0 => ?_) fun h1 t0 => ?_))))))))))))))
 refine wcr (bdO t0 fun v2 hv2 t0 => (wlc (cz1 fa_14 R fun w hw => c_spec_StarBlock w hv2) R fun x1 => (wls (sbx (cs' := [iv v2.Size, (sl x1)]) tk_26 pk2 R R R R R R R) (wnt (wct (wbr (wqr ?_)))))))
 obtain rfl := oi t0
 exact wqc R tk_26 R pz R fun w hw => ⟨x1, R, hw.weak (zc pk1 (zc pk1 zn))⟩
 refine wcr (wlq (pol R R) R (asg R R (wnt (wcO t0 R (fun h2 t0 => ?_) fun h2 t0 => ?_))))
 refine wcr (mv R R (bdO t0 fun v3 hv3 t0 => (wlc (co_o1 [box b0p [(sl v0a), iv v1.2.1, iv v1.2.2]] fa_31 (zc pz some_refl) R fun w fp hw => c_spec_l01Below w fp b0p a_c0 v0a ((rdo_arg r0) w fp hw) v1.2.1 v1.2.2 4 hw.ow hv3) R fun _ => (wlq (po_add R R) R (mv R R (bdO t0 fun v4 hv4 t0 => (wlc (co_o1 [box b0p [(sl v0a), iv v3.2.1, iv v3.2.2]] fa_31 (zc pz some_refl) R fun w fp hw => c_spec_l01Below w fp b0p a_c0 v0a ((rdo_arg r0) w fp hw) v3.2.1 v3.2.2 3 hw.ow hv4) R fun _ => (bdO t0 fun v5 hv5 t0 => (wlc (cz1 fa_90 R fun w hw => c_spec_PlainBlock w (wr (1 + v3.1)) v4.1 hv5) R fun x2 => (mv R R (wlq (pex R R) R (wlq (pex R R) R (wle (eal (cs := [iv 0, (sl hn)]) za_26) R fun b2 => (wls (sbx (cs' := [iv v5.1.Size, (sl x2)]) tk_26 pz R R R R R R R) (asg R R (wnt (wcr (wlq (v := .agg #[iv v5.1.Size, (sl x2)]) (plb tk_26 pz R R R) R (wls (sbx (cs' := [iv v5.1.Size, (sl x2)]) tk_26 pk3 R R R R R R R) (wnt (wct (wbr (wqr ?_)))))))))))))))))))))))
 obtain rfl := oi t0
 exact wqc R tk_26 R pz R fun w hw => ⟨x2, R, hw.weak (zc pk2 (zc pk2 zn))⟩
 refine wck (wqb (wqt (wcr (mv R R (bdO t0 fun v6 hv6 t0 => (wlc (co_o1 [box b0p [(sl v0a), iv v1.2.1, iv v1.2.2]] fa_31 (zc pz some_refl) R fun w fp hw => c_spec_l01Below w fp b0p a_c0 v0a ((rdo_arg r0) w fp hw) v1.2.1 v1.2.2 4 hw.ow hv6) R fun _ => (wlq (po_add R R) R (asg R R (wnt (wcr (mv R R (wlq (po_build R (bd_26_0 (wr (1 + v6.1)))) R (wle (eal (cs := [iv 0, (sl hn)]) za_26) R fun b3 => (wls (sbx (cs' := [iv (wr (1 + v6.1)), (sl hn)]) tk_26 pz R R R R R R R) (wnt (wcs (wcr (asg R R (wnt (gdO t0 fun g1 t0 => (lpO_inv t0 fun y1 l1 t0 => (wj (J := (List GCell) × Int × Int) (X := Hd) (fun z => y1 = z) (fun _ _ => [(2, ptr b1 0), (6, ptr b3 0)]) (fun z x => [box b3 [iv (wr (1 + v6.1)), (sl x)], box b0p [(sl v0a), iv z.2.1, iv z.2.2], box b1 [iv 0, (sl hn)], ownF (sl x) z.1]) ?_ ?_))))))))))))))))))))))
 refine wcb (wcf (X := Hd) l1 (fun k1 s1 x1l => [(0, ptr b0p 0), (2, ptr b1 0), (5, iv (wr (1 + v6.1))), (6, ptr b3 0), (7, iv ((k1 : Nat) : Int))]) (fun k1 s1 x1l => [box b3 [iv (wr (1 + v6.1)), (sl x1l)], box b0p [(sl v0a), iv s1.2.1, iv s1.2.2], box b1 [iv 0, (sl hn)], ownF (sl x1l) s1.1]) hn (su5 R R R R R) (zc pz (zc pz (zc pz (zc pick_nil zn)))) fun k1 s1 x1l hN1 l1 => ?_)
 by_cases hk1 : k1 < ((wr ((wr (1 + v6.1)) * (wr (1 + v6.1))))).toNat
 refine fos l1 hk1 fun _ t1 l1 => ?_
 unfold spec_l03Block_L1 at t1
 have c1 : (decide (((k1 : Nat) : Int) < (wr ((wr (1 + v6.1)) * (wr (1 + v6.1)))))) = true := ddt (by omega)
 refine wcs (wcr (mv R R (mv R R (mv R R (wlq (po_mul R R) R (wlq (pls R R) R (wnt (wft R c1 (wck (wqt (wcs (wcb (wcr (mv R R (bdO t1 fun v7 hv7 t1 => (wlc (co_o1 [box b0p [(sl v0a), iv s1.2.1, iv s1.2.2]] fa_43 (zc pk1 some_refl) R fun w fp hw => c_spec_l02Cell w fp b0p a_c0 v0a ((rdo_arg r0) w fp hw) s1.2.1 s1.2.2 hw.ow hv7) R fun _ => (wle (eal (cs := [iv 0, iv 0, iv 0]) za_55) R fun b4 => (wls (sbx (cs' := [iv v7.1.Split, iv v7.1.A, iv v7.1.B]) tk_55 pz R R R R R R R) (wnt (wcg (wlq (pof fo_26_1 R) R (wlq (v := (sl x1l)) (plx tk_24 pk2 R R) R (wlq (v := .agg #[iv v7.1.Split, iv v7.1.A, iv v7.1.B]) (plb tk_55 pz R R R) R (wle (ebs R (sb_24_1 v7.1.Split v7.1.A v7.1.B)) R fun b5 => (gdO t1 fun g2 t1 => (wle (eo_append (xs := s1.1) (ys := ([v7.1] : List GCell)) ak_24 pk5 R R (slin_rd fun _ g => Rg.on (rgo (pbo pz (n := 1) (xs := ([v7.1] : List GCell)) R R (by unfold maxLen; omega))) g) g2) R fun x4 => ?_))))))))))))))))))))))))))
 refine wlq (pof fo_26_1 R) R (wls (sbx (cs' := [iv (wr (1 + v6.1)), (sl x4)]) tk_24 pk4 R R R R R R R) (wln (wqb (wqt (wcg (mv R R (wlq (po_inc R R (by omega)) R ?_)))))))
 exact asg R R (wln (wq_rnd hk1 (stpN l1 t1) x4 (su5 R R R R R) (zc pz (zc pk3 (zc pk3 so1)))))
 have c1 : (decide (((k1 : Nat) : Int) < (wr ((wr (1 + v6.1)) * (wr (1 + v6.1)))))) = false := ddf (by omega)
 have en1 := foe l1 hk1
 exact wcs (wcr (mv R R (mv R R (mv R R (wlq (po_mul R R) R (wlq (pls R R) R (wnt (wff R c1 (wcx (wqe (wqe (wbx (wjm _ x1l (Sum.inl.inj en1) (su2 R R) so4)))))))))))))
 intro e1 x3 hp
 obtain rfl : e1 = y1 := hp.symm
 refine wqt (wcr (wlq (v := .agg #[iv (wr (1 + v6.1)), (sl x3)]) (plb tk_26 pz R R R) R (wls (sbx (cs' := [iv (wr (1 + v6.1)), (sl x3)]) tk_26 pk2 R R R R R R R) (wnt (wct ?_)))))
 obtain rfl := oi t0
 exact wqc R tk_26 R pz R fun w hw => ⟨x3, R, hw.weak (zc pk3 (zc pk2 zn))⟩

theorem c_spec_l01PickInt (w : World) (fp : List Nat) (b0p : Nat) (a_c0 : List UInt8) (v0a : Hd) (r0 : rdF w (dm w fp) (sl v0a) a_c0) (a_c1 : Int) (a_c2 : Int) (a_list : List Int) (v1a : Hd) (r1 : rdF w (dm w fp) (sl v1a) a_list) (o : Ow w [box b0p [(sl v0a), .int .i64 a_c1, .int .i64 a_c2]] fp) {r : Int × Int × Int} (t0 : spec_l01PickInt a_c0 a_c1 a_c2 a_list = some r) : Calls Tryz.prog 32 #[ptr b0p 0, (sl v1a)] w fun e w' => ∃ _x : Unit, e = .returned (.int .i64 r.1) ∧ SH w fp [box b0p [(sl v0a), .int .i64 r.2.1, .int .i64 r.2.2]] w' := by
 refine calls_of_wc_own (args := [_, _]) o Tryz.func32 R Tryz.ntmps32 R ?_
 unfold spec_l01PickInt at t0
 refine wcr (asg R R (wnt (wcr (mv R R (mv R R (mv R R (wlq (pln (rga r1) el_38 R) R (bdO t0 fun v1 hv1 t0 => (wlc (co_o1 [box b0p [(sl v0a), iv a_c1, iv a_c2]] fa_31 (zc pz some_refl) R fun w fp hw => c_spec_l01Below w fp b0p a_c0 v0a ((rdo_arg r0) w fp hw) a_c1 a_c2 ((a_list.length : Nat) : Int) hw.ow hv1) R fun _ => (gdO t0 fun g1 t0 => (wlq (po_ixr (rga r1) el_38 R R g1.1 g1.2) R (wlq (v := iv (gx a_list ((v1.1).toNat))) (po_ldf (rga r1) tk_3 R (ix_lt g1) R) R (asg R R (wnt (wct ?_)))))))))))))))
 obtain rfl := oi t0
 exact wq1 R R fun w hw => ⟨(), R, hw.weak so1⟩

theorem c_spec_l02Any (w : World) (fp : List Nat) (b0p : Nat) (a_c0 : List UInt8) (v0a : Hd) (r0 : rdF w (dm w fp) (sl v0a) a_c0) (a_c1 : Int) (a_c2 : Int) (o : Ow w [box b0p [(sl v0a), .int .i64 a_c1, .int .i64 a_c2]] fp) {r : GCell × Int × Int} (t0 : spec_l02Any a_c0 a_c1 a_c2 = some r) : Calls Tryz.prog 76 #[ptr b0p 0] w fun e w' => ∃ _x : Unit, e = .returned (.agg #[.int .i64 r.1.Split, .int .i64 r.1.A, .int .i64 r.1.B]) ∧ SH w fp [box b0p [(sl v0a), .int .i64 r.2.1, .int .i64 r.2.2]] w' := by
 refine calls_of_wc_own (args := [_]) o Tryz.func76 R Tryz.ntmps76 R ?_
 unfold spec_l02Any at t0
 refine wcr (wle (eal (cs := [iv 0, iv 0, iv 0]) za_55) R fun b1 => (wnt (wcr (mv R R (bdO t0 fun v1 hv1 t0 => (wlc (co_o1 [box b0p [(sl v0a), iv a_c1, iv a_c2]] fa_43 (zc pk1 some_refl) R fun w fp hw => c_spec_l02Cell w fp b0p a_c0 v0a ((rdo_arg r0) w fp hw) a_c1 a_c2 hw.ow hv1) R fun _ => (wle (eal (cs := [iv 0, iv 0, iv 0]) za_55) R fun b2 => (wls (sbx (cs' := [iv v1.1.Split, iv v1.1.A, iv v1.1.B]) tk_55 pz R R R R R R R) (wnt (wcs (wcr (mv R R (bdO t0 fun v2 hv2 t0 => (wlc (co_o1 [box b0p [(sl v0a), iv v1.2.1, iv v1.2.2]] fa_31 (zc pk1 some_refl) R fun w fp hw => c_spec_l01Below w fp b0p a_c0 v0a ((rdo_arg r0) w fp hw) v1.2.1 v1.2.2 12 hw.ow hv2) R fun _ => (wnt (wcb (wcr (wlq (pol R R) R (asg R R (wnt (bdO t0 fun y1 t1 t0 => (wj (J := GCell × Gl01Cur) (X := Unit) (fun z => y1 = z) (fun _ _ => [(2, ptr b1 0), (3, ptr b2 0)]) (fun z _ => [box b2 [iv ((z.1).Split), iv ((z.1).A), iv ((z.1).B)], box b0p [(sl v0a), iv ((z.2).i), iv ((z.2).h)], box b1 [iv 0, iv 0, iv 0]]) ?_ ?_))))))))))))))))))))))
 refine wcO t1 R (fun h1 t1 => ?_) fun h1 t1 => ?_
 refine wcg (mv R R (wle (ebs (qs := [(0, iv (-1)), (1, iv 0), (2, iv 2), (3, iv 3)]) R (sb_38_4 (-1) 0 2 3)) R fun b3 => (bdO t1 fun v3 hv3 t1 => (wlc (co_o1 [box b0p [(sl v0a), iv v2.2.1, iv v2.2.2]] fa_32 (zc pk1 some_refl) R fun w fp hw => c_spec_l01PickInt w fp b0p a_c0 v0a ((rdo_arg r0) w fp hw) v2.2.1 v2.2.2 ([(-1), 0, 2, 3] : List Int) (⟨some ⟨b3, 0, none⟩, 4, 4⟩ : Hd) ((rdo_own (pbo pz (n := 4) (xs := ([(-1), 0, 2, 3] : List Int)) R R (by unfold maxLen; omega))) w fp hw) hw.ow hv3) R fun _ => ?_))))
 exact wlq (pof fo_55_0 R) R (wls (sbx (cs' := [iv v3.1, iv v1.1.A, iv v1.1.B]) tk_3 pk2 R R R R R R R) (wln (wjm _ () (mtE t1) (su2 R R) (zc pz (zc pz (zc pk1 zn))))))
 refine wcr (wlq (pol R R) R (asg R R (wnt (wcO t1 R (fun h2 t1 => ?_) fun h2 t1 => ?_))))
 refine wcg (mv R R (wle (ebs (qs := [(0, iv (-1)), (1, iv 0), (2, iv 5), (3, iv 6)]) R (sb_38_4 (-1) 0 5 6)) R fun b4 => (bdO t1 fun v4 hv4 t1 => (wlc (co_o1 [box b0p [(sl v0a), iv v2.2.1, iv v2.2.2]] fa_32 (zc pk1 some_refl) R fun w fp hw => c_spec_l01PickInt w fp b0p a_c0 v0a ((rdo_arg r0) w fp hw) v2.2.1 v2.2.2 ([(-1), 0, 5, 6] : List Int) (⟨some ⟨b4, 0, none⟩, 4, 4⟩ : Hd) ((rdo_own (pbo pz (n := 4) (xs := ([(-1), 0, 5, 6] : List Int)) R R (by unfold maxLen; omega))) w fp hw) hw.ow hv4) R fun _ => ?_))))
 exact wlq (pof fo_55_1 R) R (wls (sbx (cs' := [iv v1.1.Split, iv v4.1, iv v1.1.B]) tk_3 pk2 R R R R R R R) (wln (wjm _ () (mtE t1) (su2 R R) (zc pz (zc pz (zc pk1 zn))))))
 refine wcr (wlq (pol R R) R (asg R R (wnt (wcO t1 R (fun h3 t1 => ?_) fun h3 t1 => ?_))))
 refine wcg (mv R R (wle (ebs (qs := [(0, iv (-1)), (1, iv 0), (2, iv 5), (3, iv 6)]) R (sb_38_4 (-1) 0 5 6)) R fun b5 => (bdO t1 fun v5 hv5 t1 => (wlc (co_o1 [box b0p [(sl v0a), iv v2.2.1, iv v2.2.2]] fa_32 (zc pk1 some_refl) R fun w fp hw => c_spec_l01PickInt w fp b0p a_c0 v0a ((rdo_arg r0) w fp hw) v2.2.1 v2.2.2 ([(-1), 0, 5, 6] : List Int) (⟨some ⟨b5, 0, none⟩, 4, 4⟩ : Hd) ((rdo_own (pbo pz (n := 4) (xs := ([(-1), 0, 5, 6] : List Int)) R R (by unfold maxLen; omega))) w fp hw) hw.ow hv5) R fun _ => ?_))))
 exact wlq (pof fo_55_2 R) R (wls (sbx (cs' := [iv v1.1.Split, iv v1.1.A, iv v5.1]) tk_3 pk2 R R R R R R R) (wln (wjm _ () (mtE t1) (su2 R R) (zc pz (zc pz (zc pk1 zn))))))
 exact wck (wjm _ () (mtE t1) (su2 R R) (zc pk1 so2))
 intro j1 _ hp
 obtain rfl : j1 = y1 := hp.symm
 refine wqb (wqt (wcr (wlq (v := .agg #[iv ((j1.1).Split), iv ((j1.1).A), iv ((j1.1).B)]) (plb tk_55 pz R R R) R (wls (sbx (cs' := [iv ((j1.1).Split), iv ((j1.1).A), iv ((j1.1).B)]) tk_55 pk2 R R R R R R R) (wnt (wct ?_))))))
 obtain rfl := oi t0
 exact wqc R tk_55 R pz R fun w hw => ⟨(), R, hw.weak (zc pk2 zn)⟩

theorem c_spec_l03Any (w : World) (fp : List Nat) (b0p : Nat) (a_c0 : List UInt8) (v0a : Hd) (r0 : rdF w (dm w fp) (sl v0a) a_c0) (a_c1 : Int) (a_c2 : Int) (o : Ow w [box b0p [(sl v0a), .int .i64 a_c1, .int .i64 a_c2]] fp) {r : GBlock × Int × Int} (t0 : spec_l03Any a_c0 a_c1 a_c2 = some r) : Calls Tryz.prog 49 #[ptr b0p 0] w fun e w' => ∃ x : Hd, e = .returned (.agg #[.int .i64 r.1.Size, (sl x)]) ∧ SH w fp [ownF (sl x) r.1.Cells, box b0p [(sl v0a), .int .i64 r.2.1, .int .i64 r.2.2]] w' := by
 refine calls_of_wc_own (args := [_]) o Tryz.func49 R Tryz.ntmps49 R ?_
 unfold spec_l03Any at t0
 refine wcr (wle (eal (cs := [iv 0, (sl hn)]) za_26) R fun b1 => (wnt (wcr (mv R R (bdO t0 fun v1 hv1 t0 => (wlc (co_o2 [box b0p [(sl v0a), iv a_c1, iv a_c2]] fa_75 (zc pk1 some_refl) R fun w fp hw => c_spec_l03Block w fp b0p a_c0 v0a ((rdo_arg r0) w fp hw) a_c1 a_c2 hw.ow hv1) R fun x1 => (wle (eal (cs := [iv 0, (sl hn)]) za_26) R fun b2 => (wls (sbx (cs' := [iv v1.1.Size, (sl x1)]) tk_26 pz R R R R R R R) (wnt (wcs (wcr (mv R R (bdO t0 fun v2 hv2 t0 => (wlc (co_o1 [box b0p [(sl v0a), iv v1.2.1, iv v1.2.2]] fa_31 (zc pk2 some_refl) R fun w fp hw => c_spec_l01Below w fp b0p a_c0 v0a ((rdo_arg r0) w fp hw) v1.2.1 v1.2.2 12 hw.ow hv2) R fun _ => (wnt (wcb (wcr (wlq (pol R R) R (asg R R (wnt (bdO t0 fun y1 t1 t0 => (wj (J := GBlock × Gl01Cur) (X := Hd) (fun z => y1 = z) (fun _ _ => [(2, ptr b1 0), (3, ptr b2 0)]) (fun z x => [box b2 [iv ((z.1).Size), (sl x)], box b0p [(sl v0a), iv ((z.2).i), iv ((z.2).h)], box b1 [iv 0, (sl hn)], ownF (sl x) ((z.1).Cells)]) ?_ ?_))))))))))))))))))))))
 refine wcO t1 R (fun h1 t1 => ?_) fun h1 t1 => ?_
 refine wcg (mv R R (wle (ebs (qs := [(0, iv (-1)), (1, iv 0), (2, iv 2), (3, iv 5)]) R (sb_38_4 (-1) 0 2 5)) R fun b3 => (bdO t1 fun v3 hv3 t1 => (wlc (co_o1 [box b0p [(sl v0a), iv v2.2.1, iv v2.2.2]] fa_32 (zc pk1 some_refl) R fun w fp hw => c_spec_l01PickInt w fp b0p a_c0 v0a ((rdo_arg r0) w fp hw) v2.2.1 v2.2.2 ([(-1), 0, 2, 5] : List Int) (⟨some ⟨b3, 0, none⟩, 4, 4⟩ : Hd) ((rdo_own (pbo pz (n := 4) (xs := ([(-1), 0, 2, 5] : List Int)) R R (by unfold maxLen; omega))) w fp hw) hw.ow hv3) R fun _ => ?_))))
 exact wlq (pof fo_26_0 R) R (wls (sbx (cs' := [iv v3.1, (sl x1)]) tk_3 pk2 R R R R R R R) (wln (wjm _ x1 (mtE t1) (su2 R R) (zc pz (zc pz (zc pk2 (zc pk1 zn)))))))
 refine wcr (wlq (pol R R) R (asg R R (wnt (wcO t1 R (fun h2 t1 => ?_) fun h2 t1 => ?_))))
 refine wcd [box b2 [iv v1.1.Size, (sl x1)], ownF (sl x1) v1.1.Cells, box b1 [iv 0, (sl hn)]] 10 mixed (aq 0 R (pof fo_26_1 R) (zc pk1 (zc pk1 (zc pk1 zn))) R (aq (v := (sl x1)) 1 R (plx tk_24 pz R R) (zc pk1 (zc pk1 (zc pk1 zn))) R (aq 2 R (pom R) (zc pk1 (zc pk1 (zc pk1 zn))) R (aq 3 R (pof fo_26_1 R) (zc pk1 (zc pk1 (zc pk1 zn))) R (aq (v := (sl x1)) 4 R (plx tk_24 pz R R) (zc pk1 (zc pk1 (zc pk1 zn))) R (aq 5 R (pln (rgo pk1) el_24 R) (zc pk1 (zc pk1 (zc pk1 zn))) R (aq 7 R (pom R) (zc pk1 (zc pk1 (zc pk1 zn))) R (a1 6 (bdO t1 fun v4 hv4 t1 => (wsc R (co_o1 [box b0p [(sl v0a), iv v2.2.1, iv v2.2.2]] fa_31 (zc pz some_refl) R fun w fp hw => c_spec_l01Below w fp b0p a_c0 v0a ((rdo_arg r0) w fp hw) v2.2.1 v2.2.2 ((v1.1.Cells.length : Nat) : Int) hw.ow hv4) (fun _ => (zt (zc pk1 (zc pk1 (zc pk1 zn))))) R fun _ => (a1 8 (bdO t1 fun v5 hv5 t1 => (wsc R (co_o1 [box b0p [(sl v0a), iv v4.2.1, iv v4.2.2]] fa_76 (zc pz some_refl) R fun w fp hw => c_spec_l02Any w fp b0p a_c0 v0a ((rdo_arg r0) w fp hw) v4.2.1 v4.2.2 hw.ow hv5) (fun _ => (zt (zc pk1 (zc pk1 (zc pk1 zn))))) R fun _ => (gdO t1 fun g1 t1 => (aq 9 R (po_ixr (rgo pk1) el_24 R R g1.1 g1.2) (zc pk1 (zc pk1 (zc pk1 zn))) R (a1 10 (ws_skipop R (so_own (x' := v5.1) tk_55 pk2 R R R R R R (ix_lt g1) R) (sts_past (by kernel_rfl)) ?_)))))))))))))))))
 exact ae (wjm _ x1 (mtE t1) (su2 R R) (zc pk2 (zc pk1 (zc pk1 so1))))
 refine wcr (wlq (pol R R) R (asg R R (wnt (wcO t1 R (fun h3 t1 => ?_) fun h3 t1 => ?_))))
 exact wcg (wlq (pof fo_26_1 R) R (wlq (v := (sl x1)) (plx tk_24 pk1 R R) R (gdO t1 fun g2 t1 => (wlq (po_cutr (l := 1) (h := v1.1.Cells.length) (rgo pk2) el_24 R (.inr ⟨_, R, R⟩) (.inl ⟨R, R⟩) g2.1 g2.2) R (wlq (pof fo_26_1 R) R (wls (sbx (cs' := [iv v1.1.Size, (sl (slh x1 1 v1.1.Cells.length (Rep.sz GCell)))]) tk_24 pk1 R R R R R R R) (wln (wjm _ (slh x1 1 v1.1.Cells.length (Rep.sz GCell)) (mtE t1) (su2 R R) (zc pz (zc pz (zc pk1 (zc (pick_cut pz g2.1 g2.2) zn))))))))))))
 exact wck (wjm _ x1 (mtE t1) (su2 R R) (zc pk1 (zc pz (zc pk1 so1))))
 intro j1 x2 hp
 obtain rfl : j1 = y1 := hp.symm
 refine wqb (wqt (wcr (wlq (v := .agg #[iv ((j1.1).Size), (sl x2)]) (plb tk_26 pz R R R) R (wls (sbx (cs' := [iv ((j1.1).Size), (sl x2)]) tk_26 pk2 R R R R R R R) (wnt (wct ?_))))))
 obtain rfl := oi t0
 exact wqc R tk_26 R pz R fun w hw => ⟨x2, R, hw.weak (zc pk3 (zc pk2 zn))⟩

theorem c_spec_BlockOk (w : World) (a_b : GBlock) (v0a : Hd) (r0 : rdF w (dm w []) (sl v0a) a_b.Cells) {r : Bool} (t0 : spec_BlockOk a_b = some r) : Calls Tryz.prog 23 #[.agg #[.int .i64 a_b.Size, (sl v0a)]] w fun e w' => e = .returned (.bool r) ∧ SH w [] [] w' := by
 refine cwc (args := [_]) Tryz.func23 R Tryz.ntmps23 R ?_
 unfold spec_BlockOk at t0
 refine wcr (wle (eo_box R R) R fun b1 => (asg R R (wnt (wcs (wcs (bdO t0 fun y1 t1 t0 => (wj (J := Bool) (X := Unit) (fun z => y1 = z) (fun z _ => [(1, ptr b1 0), (18, .bool z)]) (fun _ _ => [box b1 [iv a_b.Size, (sl v0a)]]) ?_ ?_)))))))
 refine wcg (wlq (pof fo_26_0 R) R (wlq (v := iv a_b.Size) (plx tk_3 pz R R) R (bdO t1 fun v1 hv1 t1 => (wlc (cz0 fa_22 R fun w hw => c_spec_l01In w a_b.Size 1 4 hv1) R fun _ => (wlq (po_not R) R (mv R R (wlo (t := 8) t1 R (fun h1 t1 => ?_) fun h1 t1 => ?_)))))))
 exact wgf (j := 4) R R R R R (wgf (j := 4) R R R R R (wgf (j := 4) R R R R R (wgf (j := 4) R R R R R (wgf (j := 4) R R R R R (wgf (j := 4) R R R R R (wgf (j := 4) R R R R R (wgf (j := 4) R R R R R (wgf (j := 4) R R R R R (wlq (pit R R) R (wln (wjm _ () (mtE t1) (su2 R R) so1)))))))))))
 exact wgn (j := 4) R R R (wlq (pof fo_26_1 R) R (wgn (j := 4) R R R (wlq (v := (sl v0a)) (plx tk_24 pz R R) R (wgn (j := 4) R R R (wlq (pln (rga r0) el_24 R) R (wgn (j := 4) R R R (wlq (pof fo_26_0 R) R (wgn (j := 4) R R R (wlq (v := iv a_b.Size) (plx tk_3 pz R R) R (wgn (j := 4) R R R (wlq (pof fo_26_0 R) R (wgn (j := 4) R R R (wlq (v := iv a_b.Size) (plx tk_3 pz R R) R (wgn (j := 4) R R R (wlq (po_mul R R) R (wgn (j := 4) R R R (wlq (po_neq R R) R (wlq (pif R R) R (wln (wjm _ () (mtE t1) (su2 R R) so1))))))))))))))))))))
 intro j1 _ hp
 obtain rfl : j1 = y1 := hp.symm
 refine wqt (wcO t0 R (fun h2 t0 => ?_) fun h2 t0 => ?_)
 refine wcr (asg R R (wnt (wct (wqr ?_))))
 obtain rfl := oi t0
 exact wq1 R R fun w hw => ⟨R, hw.weak zn⟩
 refine wck (wqt (wcs (wcr (asg R R (wnt (gdO t0 fun g1 t0 => (sqO t0 fun y1 l1 t0 => (wj (J := Unit) (X := Unit) (fun z => y1 = .inl z) (fun _ _ => []) (fun _ _ => []) ?_ ?_))))))))
 refine wcb (wcf (X := Unit) l1 (fun k1 s1 x1l => [(1, ptr b1 0), (3, iv ((k1 : Nat) : Int))]) (fun k1 s1 x1l => [box b1 [iv a_b.Size, (sl v0a)]]) () (su2 R R) so1 fun k1 s1 x1l hN1 l1 => ?_)
 by_cases hk1 : k1 < a_b.Cells.length
 refine fos l1 hk1 fun _ t1 l1 => ?_
 unfold spec_BlockOk_L1 at t1
 have c1 : (decide (((k1 : Nat) : Int) < ((a_b.Cells.length : Nat) : Int))) = true := ddt (by omega)
 refine wcs (wcr (mv R R (wlq (pof fo_26_1 R) R (wlq (v := (sl v0a)) (plx tk_24 pz R R) R (wlq (pln (rga r0) el_24 R) R (wlq (pls R R) R (wnt (wft R c1 (wck (wqt (wcs (wcb (wcr (wlq (pof fo_26_1 R) R (wlq (v := (sl v0a)) (plx tk_24 pz R R) R (mv R R (wlq (po_ixn (k := k1) (rga r0) el_24 R R hk1) R (wlq (v := .agg #[iv ((gx a_b.Cells k1).Split), iv ((gx a_b.Cells k1).A), iv ((gx a_b.Cells k1).B)]) (po_ldfs (rga r0) tk_55 R hk1 R R R) R (bdO t1 fun v2 hv2 t1 => (wlc (cz0 fa_42 R fun w hw => c_spec_CellOk w (gx a_b.Cells k1) hv2) R fun _ => (wlq (po_not R) R (wnt (wcO t1 R (fun h3 t1 => ?_) fun h3 t1 => ?_)))))))))))))))))))))))
 refine wcr (asg R R (wnt (wct (wbr (wqr (wqr (wbr (wqr (wqr ?_)))))))))
 replace t0 := lpR t0 l1 t1
 obtain rfl := oi t0
 exact wq1 R R fun w hw => ⟨R, hw.weak zn⟩
 refine wck (wqb (wqt (wcg (mv R R (wlq (po_inc R R (by omega)) R ?_)))))
 exact asg R R (wln (wq_rnd hk1 (stpN l1 t1) () (su2 R R) so1))
 have c1 : (decide (((k1 : Nat) : Int) < ((a_b.Cells.length : Nat) : Int))) = false := ddf (by omega)
 have en1 := foe l1 hk1
 exact wcs (wcr (mv R R (wlq (pof fo_26_1 R) R (wlq (v := (sl v0a)) (plx tk_24 pz R R) R (wlq (pln (rga r0) el_24 R) R (wlq (pls R R) R (wnt (wff R c1 (wcx (wqe (wqe (wbx (wjm _ () en1 yn zn)))))))))))))
 intro e1 _ hp
 replace t0 := sqE (j := e1) t0 hp
 refine wqt (wcr (asg R R (wnt (wct ?_))))
 obtain rfl := oi t0
 exact wq1 R R fun w hw => ⟨R, hw.weak zn⟩

theorem c_spec_l03Copy (w : World) (a_b : GBlock) (v0a : Hd) (r0 : rdF w (dm w []) (sl v0a) a_b.Cells) {r : GBlock} (t0 : spec_l03Copy a_b = some r) : Calls Tryz.prog 51 #[.agg #[.int .i64 a_b.Size, (sl v0a)]] w fun e w' => ∃ x : Hd, e = .returned (.agg #[.int .i64 r.Size, (sl x)]) ∧ SH w [] [ownF (sl x) r.Cells] w' := by
 refine cwc (args := [_]) Tryz.func51 R Tryz.ntmps51 R ?_
 unfold spec_l03Copy at t0
 refine wcr (wle (eo_box R R) R fun b1 => (wle (eal (cs := [iv 0, (sl hn)]) za_26) R fun b2 => (wnt (wcs (wcd [box b2 [iv 0, (sl hn)], box b1 [iv a_b.Size, (sl v0a)]] 7 mixed (aq 0 R (pof fo_26_0 R) so2 R (aq (v := iv a_b.Size) 1 R (plx tk_3 pk1 R R) so2 R (aq 3 R (pof fo_26_1 R) so2 R (aq (v := (sl v0a)) 4 R (plx tk_24 pk1 R R) so2 R (a1 2 (wse R (ebs R sb_24_0) (fun _ => (zt (zc pk1 (zc pk1 zn)))) R fun b3 => (a1 5 (gdO t0 fun g1 t0 => (wse R (eo_append (xs := ([] : List GCell)) (ys := a_b.Cells) ak_24 (pbo pz (n := 0) (xs := ([] : List GCell)) R R (by unfold maxLen; omega)) R R (slin_rd fun _ g => Rg.on (rga r0) g) g1) (fun _ => (zt (zc pk1 (zc pk1 zn)))) R fun x1 => ?_))))))))))))))
 refine aq 6 R (po_build R (bd_26_0_1 a_b.Size x1)) (zc pk1 (zc pk1 zn)) R (a1 7 (ws_skipop R (sbx (cs' := [iv a_b.Size, (sl x1)]) tk_26 pk1 R R R R R R R) (sts_past (by kernel_rfl)) ?_))
 refine ae (wqt (wct ?_))
 obtain rfl := oi t0
 exact wqc R tk_26 R pz R fun w hw => ⟨x1, R, hw.weak (zc pk1 zn)⟩

theorem c_spec_MirrorCell (w : World) (a_c : GCell) {r : GCell} (t0 : spec_MirrorCell a_c = some r) : Calls Tryz.prog 88 #[.agg #[.int .i64 a_c.Split, .int .i64 a_c.A, .int .i64 a_c.B]] w fun e w' => e = .returned (.agg #[.int .i64 r.Split, .int .i64 r.A, .int .i64 r.B]) ∧ SH w [] [] w' := by
 refine cwc (args := [_]) Tryz.func88 R Tryz.ntmps88 R ?_
 unfold spec_MirrorCell at t0
 refine wcr (wle (eo_box R R) R fun b1 => (wle (eal (cs := [iv 0, iv 0, iv 0]) za_55) R fun b2 => (wnt (wcs (wcr (wlq (v := .agg #[iv a_c.Split, iv a_c.A, iv a_c.B]) (plb tk_55 pk1 R R R) R (bdO t0 fun v1 hv1 t0 => (wlc (cz0 fa_42 R fun w hw => c_spec_CellOk w a_c hv1) R fun _ => (wlq (po_not R) R (wnt (wcO t0 R (fun h1 t0 => ?_) fun h1 t0 => ?_)))))))))))
 refine wcr (wlq (po_build R bd_55) R (wls (sbx (cs' := [iv 0, iv 0, iv 0]) tk_55 pz R R R R R R R) (wnt (wct (wqr ?_)))))
 obtain rfl := oi t0
 exact wqc R tk_55 R pz R fun w hw => ⟨R, hw.weak zn⟩
 refine wck (wqt (wcs (wcr (wlq (pof fo_55_0 R) R (wlq (v := iv a_c.Split) (plx tk_3 pk1 R R) R (wlq (pol R R) R (wnt (wcO t0 R (fun h2 t0 => ?_) fun h2 t0 => ?_))))))))
 refine wcr (wlq (v := .agg #[iv a_c.Split, iv a_c.A, iv a_c.B]) (plb tk_55 pk1 R R R) R (wls (sbx (cs' := [iv a_c.Split, iv a_c.A, iv a_c.B]) tk_55 pz R R R R R R R) (wnt (wct (wqr ?_)))))
 obtain rfl := oi t0
 exact wqc R tk_55 R pz R fun w hw => ⟨R, hw.weak zn⟩
 refine wck (wqt (wcr (wlq (pof fo_55_0 R) R (wlq (v := iv a_c.Split) (plx tk_3 pk1 R R) R (wlq (po_sub R R) R (wlq (pof fo_55_2 R) R (wlq (v := iv a_c.B) (plx tk_3 pk1 R R) R (wlq (pof fo_55_1 R) R (wlq (v := iv a_c.A) (plx tk_3 pk1 R R) R (wlq (po_build R (bd_55_0_1_2 (wr (3 - a_c.Split)) a_c.B a_c.A)) R (wls (sbx (cs' := [iv (wr (3 - a_c.Split)), iv a_c.B, iv a_c.A]) tk_55 pz R R R R R R R) (wnt (wct ?_)))))))))))))
 obtain rfl := oi t0
 exact wqc R tk_55 R pz R fun w hw => ⟨R, hw.weak zn⟩

theorem c_spec_MirrorBlock (w : World) (a_b : GBlock) (v0a : Hd) (r0 : rdF w (dm w []) (sl v0a) a_b.Cells) {r : GBlock} (t0 : spec_MirrorBlock a_b = some r) : Calls Tryz.prog 71 #[.agg #[.int .i64 a_b.Size, (sl v0a)]] w fun e w' => ∃ x : Hd, e = .returned (.agg #[.int .i64 r.Size, (sl x)]) ∧ SH w [] [ownF (sl x) r.Cells] w' := by
 refine cwc (args := [_]) Tryz.func71 R Tryz.ntmps71 R ?_
 unfold spec_MirrorBlock at t0
 refine wcr (wle (eo_box R R) R fun b1 => (wle (eal (cs := [iv 0, (sl hn)]) za_26) R fun b2 => (wnt (wcs (wcr (wlq (v := .agg #[iv a_b.Size, (sl v0a)]) (plb tk_26 pk1 R R R) R (bdO t0 fun v1 hv1 t0 => (wlc (cz0 fa_23 R fun w hw => c_spec_BlockOk w a_b v0a (ra r0 hw) hv1) R fun _ => (wlq (po_not R) R (wnt (wcO t0 R (fun h1 t0 => ?_) fun h1 t0 => ?_)))))))))))
 refine wcr (wlq (po_build R bd_26) R (wls (sbx (cs' := [iv 0, (sl hn)]) tk_26 pz R R R R R R R) (wnt (wct (wqr ?_)))))
 obtain rfl := oi t0
 exact wqc R tk_26 R pz R fun w hw => ⟨hn, R, hw.weak (zc pick_nil zn)⟩
 refine wck (wqt (wcr (wlq (pof fo_26_0 R) R (wlq (v := iv a_b.Size) (plx tk_3 pk1 R R) R (wlq (po_build R (bd_26_0 a_b.Size)) R (wle (eal (cs := [iv 0, (sl hn)]) za_26) R fun b3 => (wls (sbx (cs' := [iv a_b.Size, (sl hn)]) tk_26 pz R R R R R R R) (wnt (wcs (wcr (asg R R (wnt (gdO t0 fun g1 t0 => (lpO_inv t0 fun y1 l1 t0 => (wj (J := List GCell) (X := Hd) (fun z => y1 = z) (fun _ _ => [(2, ptr b2 0), (3, ptr b3 0)]) (fun z x => [box b3 [iv a_b.Size, (sl x)], box b2 [iv 0, (sl hn)], ownF (sl x) z]) ?_ ?_)))))))))))))))
 refine wcb (wcf (X := Hd) l1 (fun k1 s1 x1l => [(1, ptr b1 0), (2, ptr b2 0), (3, ptr b3 0), (4, iv ((k1 : Nat) : Int))]) (fun k1 s1 x1l => [box b3 [iv a_b.Size, (sl x1l)], box b2 [iv 0, (sl hn)], box b1 [iv a_b.Size, (sl v0a)], ownF (sl x1l) s1]) hn (su4 R R R R) (zc pz (zc pz (zc pz (zc pick_nil zn)))) fun k1 s1 x1l hN1 l1 => ?_)
 by_cases hk1 : k1 < (a_b.Size).toNat
 refine fos l1 hk1 fun _ t1 l1 => ?_
 unfold spec_MirrorBlock_L1 at t1
 have c1 : (decide (((k1 : Nat) : Int) < a_b.Size)) = true := ddt (by omega)
 refine wcs (wcr (mv R R (wlq (pof fo_26_0 R) R (wlq (v := iv a_b.Size) (plx tk_3 pk2 R R) R (wlq (pls R R) R (wnt (wft R c1 (wck (wqt (wcs (wcb (wcr (asg R R (wnt (lpO_inv t1 fun y2 l2 t1 => (wj (J := List GCell) (X := Hd) (fun z => y2 = z) (fun _ _ => [(1, ptr b1 0), (2, ptr b2 0), (3, ptr b3 0), (4, iv ((k1 : Nat) : Int))]) (fun z x => [box b3 [iv a_b.Size, (sl x)], box b2 [iv 0, (sl hn)], box b1 [iv a_b.Size, (sl v0a)], ownF (sl x) z]) ?_ ?_))))))))))))))))
 refine wcb (wcf (X := Hd) l2 (fun k2 s2 x2l => [(1, ptr b1 0), (2, ptr b2 0), (3, ptr b3 0), (4, iv ((k1 : Nat) : Int)), (5, iv ((k2 : Nat) : Int))]) (fun k2 s2 x2l => [box b3 [iv a_b.Size, (sl x2l)], box b2 [iv 0, (sl hn)], box b1 [iv a_b.Size, (sl v0a)], ownF (sl x2l) s2]) x1l (su5 R R R R R) so4 fun k2 s2 x2l hN2 l2 => ?_)
 by_cases hk2 : k2 < (a_b.Size).toNat
 refine fos l2 hk2 fun _ t2 l2 => ?_
 unfold spec_MirrorBlock_L2 at t2
 have c2 : (decide (((k2 : Nat) : Int) < a_b.Size)) = true := ddt (by omega)
 refine wcs (wcr (mv R R (wlq (pof fo_26_0 R) R (wlq (v := iv a_b.Size) (plx tk_3 pk2 R R) R (wlq (pls R R) R (wnt (wft R c2 (wck (wqt (wcs (wcb (wcd [box b3 [iv a_b.Size, (sl x2l)], box b2 [iv 0, (sl hn)], box b1 [iv a_b.Size, (sl v0a)]] 20 mixed (aq 0 R (pof fo_26_1 R) so3 R (aq (v := (sl x2l)) 1 R (plx tk_24 pz R R) so3 R (aq 2 R (pof fo_26_1 R) so3 R (aq (v := (sl v0a)) 3 R (plx tk_24 pk2 R R) so3 R (aq 4 R (pom R) so3 R (aq 5 R (pof fo_26_0 R) so3 R (aq (v := iv a_b.Size) 6 R (plx tk_3 pk2 R R) so3 R (aq 7 R (po_mul R R) so3 R (aq 8 R (pof fo_26_0 R) so3 R (aq (v := iv a_b.Size) 9 R (plx tk_3 pk2 R R) so3 R (aq 10 R (po_add R R) so3 R (aq 11 R (po_sub R R) so3 R (aq 12 R (pom R) so3 R (aq 13 R (po_sub R R) so3 R (gdO t2 fun g2 t2 => (aq 14 R (po_ixr (rga r0) el_24 R R g2.1 g2.2) so3 R (aq (v := .agg #[iv ((gx a_b.Cells (((wr ((wr ((wr ((wr (((k1 : Nat) : Int) * a_b.Size)) + a_b.Size)) - 1)) - ((k2 : Nat) : Int)))).toNat)).Split), iv ((gx a_b.Cells (((wr ((wr ((wr ((wr (((k1 : Nat) : Int) * a_b.Size)) + a_b.Size)) - 1)) - ((k2 : Nat) : Int)))).toNat)).A), iv ((gx a_b.Cells (((wr ((wr ((wr ((wr (((k1 : Nat) : Int) * a_b.Size)) + a_b.Size)) - 1)) - ((k2 : Nat) : Int)))).toNat)).B)]) 15 R (po_ldfs (rga r0) tk_55 R (ix_lt g2) R R R) so3 R (a1 16 (bdO t2 fun v2 hv2 t2 => (wsc R (cz0 fa_88 R fun w hw => c_spec_MirrorCell w (gx a_b.Cells (((wr ((wr ((wr ((wr (((k1 : Nat) : Int) * a_b.Size)) + a_b.Size)) - 1)) - ((k2 : Nat) : Int)))).toNat)) hv2) (fun _ => (zt so3)) R fun _ => (a1 17 (wse R (ebs R (sb_24_1 v2.Split v2.A v2.B)) (fun _ => (zt (zc pk1 (zc pk1 (zc pk1 zn))))) R fun b4 => (a1 18 (gdO t2 fun g3 t2 => (wse R (eo_append (xs := s2) (ys := ([v2] : List GCell)) ak_24 pk4 R R (slin_rd fun _ g => Rg.on (rgo (pbo pz (n := 1) (xs := ([v2] : List GCell)) R R (by unfold maxLen; omega))) g) g3) (fun _ => (zt (zc pk2 (zc pk2 (zc pk2 zn))))) R fun x3 => ?_)))))))))))))))))))))))))))))))))))))
 refine aq 19 R (pof fo_26_1 R) (zc pk2 (zc pk2 (zc pk2 zn))) R (a1 20 (ws_skipop R (sbx (cs' := [iv a_b.Size, (sl x3)]) tk_24 pk2 R R R R R R R) (sts_past (by kernel_rfl)) ?_))
 refine ae (wqb (wqt (wcg (mv R R (wlq (po_inc R R (by omega)) R ?_)))))
 exact asg R R (wln (wq_rnd hk2 (stpN l2 t2) x3 (su5 R R R R R) (zc pz (zc pk2 (zc pk2 so1)))))
 have c2 : (decide (((k2 : Nat) : Int) < a_b.Size)) = false := ddf (by omega)
 have en1 := foe l2 hk2
 exact wcs (wcr (mv R R (wlq (pof fo_26_0 R) R (wlq (v := iv a_b.Size) (plx tk_3 pk2 R R) R (wlq (pls R R) R (wnt (wff R c2 (wcx (wqe (wqe (wbx (wjm _ x2l (Sum.inl.inj en1) (su4 R R R R) so4))))))))))))
 intro e2 x2 hp
 obtain rfl : e2 = y2 := hp.symm
 refine wqb (wqt (wcg (mv R R (wlq (po_inc R R (by omega)) R ?_))))
 exact asg R R (wln (wq_rnd hk1 (stpN l1 t1) x2 (su4 R R R R) so4))
 have c1 : (decide (((k1 : Nat) : Int) < a_b.Size)) = false := ddf (by omega)
 have en2 := foe l1 hk1
 exact wcs (wcr (mv R R (wlq (pof fo_26_0 R) R (wlq (v := iv a_b.Size) (plx tk_3 pk2 R R) R (wlq (pls R R) R (wnt (wff R c1 (wcx (wqe (wqe (wbx (wjm _ x1l (Sum.inl.inj en2) (su2 R R) (zc pz (zc pz (zc pk1 zn)))))))))))))))
 intro e1 x1 hp
 obtain rfl : e1 = y1 := hp.symm
 refine wqt (wcr (wlq (v := .agg #[iv a_b.Size, (sl x1)]) (plb tk_26 pz R R R) R (wls (sbx (cs' := [iv a_b.Size, (sl x1)]) tk_26 pk1 R R R R R R R) (wnt (wct ?_)))))
 obtain rfl := oi t0
 exact wqc R tk_26 R pz R fun w hw => ⟨x1, R, hw.weak (zc pk2 zn)⟩

theorem c_spec_TurnCell (w : World) (a_c : GCell) {r : GCell} (t0 : spec_TurnCell a_c = some r) : Calls Tryz.prog 89 #[.agg #[.int .i64 a_c.Split, .int .i64 a_c.A, .int .i64 a_c.B]] w fun e w' => e = .returned (.agg #[.int .i64 r.Split, .int .i64 r.A, .int .i64 r.B]) ∧ SH w [] [] w' := by
 refine cwc (args := [_]) Tryz.func89 R Tryz.ntmps89 R ?_
 unfold spec_TurnCell at t0
 refine wcr (wle (eo_box R R) R fun b1 => (wle (eal (cs := [iv 0, iv 0, iv 0]) za_55) R fun b2 => (wnt (wcs (wcr (wlq (v := .agg #[iv a_c.Split, iv a_c.A, iv a_c.B]) (plb tk_55 pk1 R R R) R (bdO t0 fun v1 hv1 t0 => (wlc (cz0 fa_42 R fun w hw => c_spec_CellOk w a_c hv1) R fun _ => (wlq (po_not R) R (wnt (wcO t0 R (fun h1 t0 => ?_) fun h1 t0 => ?_)))))))))))
 refine wcr (wlq (po_build R bd_55) R (wls (sbx (cs' := [iv 0, iv 0, iv 0]) tk_55 pz R R R R R R R) (wnt (wct (wqr ?_)))))
 obtain rfl := oi t0
 exact wqc R tk_55 R pz R fun w hw => ⟨R, hw.weak zn⟩
 refine wck (wqt (wcs (wcr (wlq (pof fo_55_0 R) R (wlq (v := iv a_c.Split) (plx tk_3 pk1 R R) R (wnt (wcb (wcr (wlq (pol R R) R (asg R R (wnt (wcO t0 R (fun h2 t0 => ?_) fun h2 t0 => ?_))))))))))))
 refine wcr (wlq (pof fo_55_2 R) R (wlq (v := iv a_c.B) (plx tk_3 pk1 R R) R (wlq (pof fo_55_1 R) R (wlq (v := iv a_c.A) (plx tk_3 pk1 R R) R (wlq (po_build R (bd_55_0_1_2 2 a_c.B a_c.A)) R (wls (sbx (cs' := [iv 2, iv a_c.B, iv a_c.A]) tk_55 pz R R R R R R R) (wnt (wct (wbr (wqr ?_))))))))))
 obtain rfl := oi t0
 exact wqc R tk_55 R pz R fun w hw => ⟨R, hw.weak zn⟩
 refine wcr (wlq (pol R R) R (asg R R (wnt (wcO t0 R (fun h3 t0 => ?_) fun h3 t0 => ?_))))
 refine wcr (wlq (pof fo_55_1 R) R (wlq (v := iv a_c.A) (plx tk_3 pk1 R R) R (wlq (pof fo_55_2 R) R (wlq (v := iv a_c.B) (plx tk_3 pk1 R R) R (wlq (po_build R (bd_55_0_1_2 1 a_c.A a_c.B)) R (wls (sbx (cs' := [iv 1, iv a_c.A, iv a_c.B]) tk_55 pz R R R R R R R) (wnt (wct (wbr (wqr ?_))))))))))
 obtain rfl := oi t0
 exact wqc R tk_55 R pz R fun w hw => ⟨R, hw.weak zn⟩
 refine wck (wqb (wqt (wcr (wlq (v := .agg #[iv a_c.Split, iv a_c.A, iv a_c.B]) (plb tk_55 pk1 R R R) R (wls (sbx (cs' := [iv a_c.Split, iv a_c.A, iv a_c.B]) tk_55 pz R R R R R R R) (wnt (wct ?_)))))))
 obtain rfl := oi t0
 exact wqc R tk_55 R pz R fun w hw => ⟨R, hw.weak zn⟩

theorem c_spec_TurnBlock (w : World) (a_b : GBlock) (v0a : Hd) (r0 : rdF w (dm w []) (sl v0a) a_b.Cells) {r : GBlock} (t0 : spec_TurnBlock a_b = some r) : Calls Tryz.prog 72 #[.agg #[.int .i64 a_b.Size, (sl v0a)]] w fun e w' => ∃ x : Hd, e = .returned (.agg #[.int .i64 r.Size, (sl x)]) ∧ SH w [] [ownF (sl x) r.Cells] w' := by
 refine cwc (args := [_]) Tryz.func72 R Tryz.ntmps72 R ?_
 unfold spec_TurnBlock at t0
 refine wcr (wle (eo_box R R) R fun b1 => (wle (eal (cs := [iv 0, (sl hn)]) za_26) R fun b2 => (wnt (wcs (wcr (wlq (v := .agg #[iv a_b.Size, (sl v0a)]) (plb tk_26 pk1 R R R) R (bdO t0 fun v1 hv1 t0 => (wlc (cz0 fa_23 R fun w hw => c_spec_BlockOk w a_b v0a (ra r0 hw) hv1) R fun _ => (wlq (po_not R) R (wnt (wcO t0 R (fun h1 t0 => ?_) fun h1 t0 => ?_)))))))))))
 refine wcr (wlq (po_build R bd_26) R (wls (sbx (cs' := [iv 0, (sl hn)]) tk_26 pz R R R R R R R) (wnt (wct (wqr ?_)))))
 obtain rfl := oi t0
 exact wqc R tk_26 R pz R fun w hw => ⟨hn, R, hw.weak (zc pick_nil zn)⟩
 refine wck (wqt (wcr (wlq (pof fo_26_0 R) R (wlq (v := iv a_b.Size) (plx tk_3 pk1 R R) R (wlq (po_build R (bd_26_0 a_b.Size)) R (wle (eal (cs := [iv 0, (sl hn)]) za_26) R fun b3 => (wls (sbx (cs' := [iv a_b.Size, (sl hn)]) tk_26 pz R R R R R R R) (wnt (wcs (wcr (asg R R (wnt (gdO t0 fun g1 t0 => (lpO_inv t0 fun y1 l1 t0 => (wj (J := List GCell) (X := Hd) (fun z => y1 = z) (fun _ _ => [(2, ptr b2 0), (3, ptr b3 0)]) (fun z x => [box b3 [iv a_b.Size, (sl x)], box b2 [iv 0, (sl hn)], ownF (sl x) z]) ?_ ?_)))))))))))))))
 refine wcb (wcf (X := Hd) l1 (fun k1 s1 x1l => [(1, ptr b1 0), (2, ptr b2 0), (3, ptr b3 0), (4, iv ((k1 : Nat) : Int))]) (fun k1 s1 x1l => [box b3 [iv a_b.Size, (sl x1l)], box b2 [iv 0, (sl hn)], box b1 [iv a_b.Size, (sl v0a)], ownF (sl x1l) s1]) hn (su4 R R R R) (zc pz (zc pz (zc pz (zc pick_nil zn)))) fun k1 s1 x1l hN1 l1 => ?_)
 by_cases hk1 : k1 < (a_b.Size).toNat
 refine fos l1 hk1 fun _ t1 l1 => ?_
 unfold spec_TurnBlock_L1 at t1
 have c1 : (decide (((k1 : Nat) : Int) < a_b.Size)) = true := ddt (by omega)
 refine wcs (wcr (mv R R (wlq (pof fo_26_0 R) R (wlq (v := iv a_b.Size) (plx tk_3 pk2 R R) R (wlq (pls R R) R (wnt (wft R c1 (wck (wqt (wcs (wcb (wcr (asg R R (wnt (lpO_inv t1 fun y2 l2 t1 => (wj (J := List GCell) (X := Hd) (fun z => y2 = z) (fun _ _ => [(1, ptr b1 0), (2, ptr b2 0), (3, ptr b3 0), (4, iv ((k1 : Nat) : Int))]) (fun z x => [box b3 [iv a_b.Size, (sl x)], box b2 [iv 0, (sl hn)], box b1 [iv a_b.Size, (sl v0a)], ownF (sl x) z]) ?_ ?_))))))))))))))))
 refine wcb (wcf (X := Hd) l2 (fun k2 s2 x2l => [(1, ptr b1 0), (2, ptr b2 0), (3, ptr b3 0), (4, iv ((k1 : Nat) : Int)), (5, iv ((k2 : Nat) : Int))]) (fun k2 s2 x2l => [box b3 [iv a_b.Size, (sl x2l)], box b2 [iv 0, (sl hn)], box b1 [iv a_b.Size, (sl v0a)], ownF (sl x2l) s2]) x1l (su5 R R R R R) so4 fun k2 s2 x2l hN2 l2 => ?_)
 by_cases hk2 : k2 < (a_b.Size).toNat
 refine fos l2 hk2 fun _ t2 l2 => ?_
 unfold spec_TurnBlock_L2 at t2
 have c2 : (decide (((k2 : Nat) : Int) < a_b.Size)) = true := ddt (by omega)
 refine wcs (wcr (mv R R (wlq (pof fo_26_0 R) R (wlq (v := iv a_b.Size) (plx tk_3 pk2 R R) R (wlq (pls R R) R (wnt (wft R c2 (wck (wqt (wcs (wcb (wcd [box b3 [iv a_b.Size, (sl x2l)], box b2 [iv 0, (sl hn)], box b1 [iv a_b.Size, (sl v0a)]] 20 mixed (aq 0 R (pof fo_26_1 R) so3 R (aq (v := (sl x2l)) 1 R (plx tk_24 pz R R) so3 R (aq 2 R (pof fo_26_1 R) so3 R (aq (v := (sl v0a)) 3 R (plx tk_24 pk2 R R) so3 R (aq 4 R (pof fo_26_0 R) so3 R (aq (v := iv a_b.Size) 5 R (plx tk_3 pk2 R R) so3 R (aq 6 R (po_sub R R) so3 R (aq 7 R (pom R) so3 R (aq 8 R (po_sub R R) so3 R (aq 9 R (pof fo_26_0 R) so3 R (aq (v := iv a_b.Size) 10 R (plx tk_3 pk2 R R) so3 R (aq 11 R (po_mul R R) so3 R (aq 12 R (pom R) so3 R (aq 13 R (po_add R R) so3 R (gdO t2 fun g2 t2 => (aq 14 R (po_ixr (rga r0) el_24 R R g2.1 g2.2) so3 R (aq (v := .agg #[iv ((gx a_b.Cells (((wr ((wr ((wr ((wr (a_b.Size - 1)) - ((k2 : Nat) : Int))) * a_b.Size)) + ((k1 : Nat) : Int)))).toNat)).Split), iv ((gx a_b.Cells (((wr ((wr ((wr ((wr (a_b.Size - 1)) - ((k2 : Nat) : Int))) * a_b.Size)) + ((k1 : Nat) : Int)))).toNat)).A), iv ((gx a_b.Cells (((wr ((wr ((wr ((wr (a_b.Size - 1)) - ((k2 : Nat) : Int))) * a_b.Size)) + ((k1 : Nat) : Int)))).toNat)).B)]) 15 R (po_ldfs (rga r0) tk_55 R (ix_lt g2) R R R) so3 R (a1 16 (bdO t2 fun v2 hv2 t2 => (wsc R (cz0 fa_89 R fun w hw => c_spec_TurnCell w (gx a_b.Cells (((wr ((wr ((wr ((wr (a_b.Size - 1)) - ((k2 : Nat) : Int))) * a_b.Size)) + ((k1 : Nat) : Int)))).toNat)) hv2) (fun _ => (zt so3)) R fun _ => (a1 17 (wse R (ebs R (sb_24_1 v2.Split v2.A v2.B)) (fun _ => (zt (zc pk1 (zc pk1 (zc pk1 zn))))) R fun b4 => (a1 18 (gdO t2 fun g3 t2 => (wse R (eo_append (xs := s2) (ys := ([v2] : List GCell)) ak_24 pk4 R R (slin_rd fun _ g => Rg.on (rgo (pbo pz (n := 1) (xs := ([v2] : List GCell)) R R (by unfold maxLen; omega))) g) g3) (fun _ => (zt (zc pk2 (zc pk2 (zc pk2 zn))))) R fun x3 => ?_)))))))))))))))))))))))))))))))))))))
 refine aq 19 R (pof fo_26_1 R) (zc pk2 (zc pk2 (zc pk2 zn))) R (a1 20 (ws_skipop R (sbx (cs' := [iv a_b.Size, (sl x3)]) tk_24 pk2 R R R R R R R) (sts_past (by kernel_rfl)) ?_))
 refine ae (wqb (wqt (wcg (mv R R (wlq (po_inc R R (by omega)) R ?_)))))
 exact asg R R (wln (wq_rnd hk2 (stpN l2 t2) x3 (su5 R R R R R) (zc pz (zc pk2 (zc pk2 so1)))))
 have c2 : (decide (((k2 : Nat) : Int) < a_b.Size)) = false := ddf (by omega)
 have en1 := foe l2 hk2
 exact wcs (wcr (mv R R (wlq (pof fo_26_0 R) R (wlq (v := iv a_b.Size) (plx tk_3 pk2 R R) R (wlq (pls R R) R (wnt (wff R c2 (wcx (wqe (wqe (wbx (wjm _ x2l (Sum.inl.inj en1) (su4 R R R R) so4))))))))))))
 intro e2 x2 hp
 obtain rfl : e2 = y2 := hp.symm
 refine wqb (wqt (wcg (mv R R (wlq (po_inc R R (by omega)) R ?_))))
 exact asg R R (wln (wq_rnd hk1 (stpN l1 t1) x2 (su4 R R R R) so4))
 have c1 : (decide (((k1 : Nat) : Int) < a_b.Size)) = false := ddf (by omega)
 have en2 := foe l1 hk1
 exact wcs (wcr (mv R R (wlq (pof fo_26_0 R) R (wlq (v := iv a_b.Size) (plx tk_3 pk2 R R) R (wlq (pls R R) R (wnt (wff R c1 (wcx (wqe (wqe (wbx (wjm _ x1l (Sum.inl.inj en2) (su2 R R) (zc pz (zc pz (zc pk1 zn)))))))))))))))
 intro e1 x1 hp
 obtain rfl : e1 = y1 := hp.symm
 refine wqt (wcr (wlq (v := .agg #[iv a_b.Size, (sl x1)]) (plb tk_26 pz R R R) R (wls (sbx (cs' := [iv a_b.Size, (sl x1)]) tk_26 pk1 R R R R R R R) (wnt (wct ?_)))))
 obtain rfl := oi t0
 exact wqc R tk_26 R pz R fun w hw => ⟨x1, R, hw.weak (zc pk2 zn)⟩

theorem c_spec_SeenFrom (w : World) (a_b : GBlock) (v0a : Hd) (r0 : rdF w (dm w []) (sl v0a) a_b.Cells) (a_k : Int) {r : GBlock} (t0 : spec_SeenFrom a_b a_k = some r) : Calls Tryz.prog 46 #[.agg #[.int .i64 a_b.Size, (sl v0a)], .int .i64 a_k] w fun e w' => ∃ x : Hd, e = .returned (.agg #[.int .i64 r.Size, (sl x)]) ∧ SH w [] [ownF (sl x) r.Cells] w' := by
 refine cwc (args := [_, _]) Tryz.func46 R Tryz.ntmps46 R ?_
 unfold spec_SeenFrom at t0
 refine wcr (wle (eo_box R R) R fun b1 => (wle (eal (cs := [iv 0, (sl hn)]) za_26) R fun b2 => (wnt (wcs (wcs (bdO t0 fun y1 t1 t0 => (wj (J := Bool) (X := Unit) (fun z => y1 = z) (fun z _ => [(1, iv a_k), (2, ptr b1 0), (4, ptr b2 0), (14, .bool z)]) (fun _ _ => [box b2 [iv 0, (sl hn)], box b1 [iv a_b.Size, (sl v0a)]]) ?_ ?_)))))))
 refine wcg (wlq (v := .agg #[iv a_b.Size, (sl v0a)]) (plb tk_26 pk1 R R R) R (bdO t1 fun v1 hv1 t1 => (wlc (cz0 fa_23 R fun w hw => c_spec_BlockOk w a_b v0a (ra r0 hw) hv1) R fun _ => (wlq (po_not R) R (mv R R (wlo (t := 10) t1 R (fun h1 t1 => ?_) fun h1 t1 => ?_))))))
 exact wgf (j := 3) R R R R R (wgf (j := 3) R R R R R (wgf (j := 3) R R R R R (wlq (pit R R) R (wln (wjm _ () (mtE t1) (su4 R R R R) so2)))))
 exact wgn (j := 3) R R R (mv R R (bdO t1 fun v2 hv2 t1 => (wgn (j := 3) R R R (wlc (cz0 fa_22 R fun w hw => c_spec_l01In w a_k 0 7 hv2) R (fun _ => (wgn (j := 3) R R R (wlq (po_not R) R (wlq (pif R R) R (wln (wjm _ () (mtE t1) (su4 R R R R) so2))))))))))
 intro j1 _ hp
 obtain rfl : j1 = y1 := hp.symm
 refine wqt (wcO t0 R (fun h2 t0 => ?_) fun h2 t0 => ?_)
 refine wcr (wlq (po_build R bd_26) R (wls (sbx (cs' := [iv 0, (sl hn)]) tk_26 pz R R R R R R R) (wnt (wct (wqr ?_)))))
 obtain rfl := oi t0
 exact wqc R tk_26 R pz R fun w hw => ⟨hn, R, hw.weak (zc pick_nil zn)⟩
 refine wck (wqt (wcr (wlq (v := .agg #[iv a_b.Size, (sl v0a)]) (plb tk_26 pk1 R R R) R (bdO t0 fun v3 hv3 t0 => (wlc (cz1 fa_51 R fun w hw => c_spec_l03Copy w a_b v0a (ra r0 hw) hv3) R fun x2 => (wle (eal (cs := [iv 0, (sl hn)]) za_26) R fun b3 => (wls (sbx (cs' := [iv v3.Size, (sl x2)]) tk_26 pz R R R R R R R) (wnt (wcs (wcr (mv R R (wlq (po_geq R R) R (wnt (bdO t0 fun y1 t1 t0 => (wj (J := GBlock) (X := Hd) (fun z => y1 = z) (fun _ _ => [(1, iv a_k), (4, ptr b2 0), (5, ptr b3 0)]) (fun z x => [box b3 [iv ((z).Size), (sl x)], box b2 [iv 0, (sl hn)], ownF (sl x) ((z).Cells)]) ?_ ?_)))))))))))))))
 refine wcO t1 R (fun h3 t1 => ?_) fun h3 t1 => ?_
 exact wcg (wlq (v := .agg #[iv a_b.Size, (sl v0a)]) (plb tk_26 pk3 R R R) R (bdO t1 fun v4 hv4 t1 => (wlc (cz1 fa_71 R fun w hw => c_spec_MirrorBlock w a_b v0a (ra r0 hw) hv4) R fun x4 => (wls (sbx (cs' := [iv v4.Size, (sl x4)]) tk_26 pk1 R R R R R R R) (wln (wjm _ x4 (mtE t1) (su3 R R R) (zc pz (zc pk2 so1))))))))
 exact wck (wjm _ x2 (mtE t1) (su3 R R R) (zc pz (zc pk1 so1)))
 intro j2 x3 hp
 obtain rfl : j2 = y1 := hp.symm
 refine wqt (wcs (wcr (asg R R (wnt (gdO t0 fun g1 t0 => (lpO_inv t0 fun y1 l1 t0 => (wj (J := Int × (List GCell)) (X := Hd) (fun z => y1 = z) (fun _ _ => [(4, ptr b2 0), (5, ptr b3 0)]) (fun z x => [box b3 [iv z.1, (sl x)], box b2 [iv 0, (sl hn)], ownF (sl x) z.2]) ?_ ?_)))))))
 refine wcb (wcf (X := Hd) l1 (fun k1 s1 x1l => [(1, iv a_k), (4, ptr b2 0), (5, ptr b3 0), (6, iv ((k1 : Nat) : Int))]) (fun k1 s1 x1l => [box b3 [iv s1.1, (sl x1l)], box b2 [iv 0, (sl hn)], ownF (sl x1l) s1.2]) x3 (su4 R R R R) so3 fun k1 s1 x1l hN1 l1 => ?_)
 by_cases hk1 : k1 < ((a_k.tmod 4)).toNat
 refine fos l1 hk1 fun _ t1 l1 => ?_
 unfold spec_SeenFrom_L1 at t1
 have c1 : (decide (((k1 : Nat) : Int) < (a_k.tmod 4))) = true := ddt (by omega)
 refine wcs (wcr (mv R R (mv R R (wlq (po_rem R R (by decide)) R ?_))))
 refine wlq (pls R R) R (wnt (wft R c1 (wck (wqt (wcs (wcb (wcg (wlq (v := .agg #[iv s1.1, (sl x1l)]) (plb tk_26 pz R R R) R (bdO t1 fun v5 hv5 t1 => (wlc (cz1 fa_72 R fun w hw => c_spec_TurnBlock w (GBlock.mk s1.1 s1.2) x1l (Rg.on (rgo pk2) hw) hv5) R fun x6 => (wls (sbx (cs' := [iv v5.Size, (sl x6)]) tk_26 pk1 R R R R R R R) (wln (wqb (wqt (wcg (mv R R (wlq (po_inc R R (by omega)) R ?_)))))))))))))))))
 exact asg R R (wln (wq_rnd hk1 (stpN l1 t1) x6 (su4 R R R R) (zc pz (zc pk1 so1))))
 have c1 : (decide (((k1 : Nat) : Int) < (a_k.tmod 4))) = false := ddf (by omega)
 have en1 := foe l1 hk1
 refine wcs (wcr (mv R R (mv R R (wlq (po_rem R R (by decide)) R ?_))))
 exact wlq (pls R R) R (wnt (wff R c1 (wcx (wqe (wqe (wbx (wjm _ x1l (Sum.inl.inj en1) (su2 R R) so3)))))))
 intro e1 x5 hp
 obtain rfl : e1 = y1 := hp.symm
 refine wqt (wcr (wlq (v := .agg #[iv e1.1, (sl x5)]) (plb tk_26 pz R R R) R (wls (sbx (cs' := [iv e1.1, (sl x5)]) tk_26 pk1 R R R R R R R) (wnt (wct ?_)))))
 obtain rfl := oi t0
 exact wqc R tk_26 R pz R fun w hw => ⟨x5, R, hw.weak (zc pk2 zn)⟩

theorem c_spec_l06Same (w : World)  {r : List Int} (t0 : spec_l06Same = some r) : Calls Tryz.prog 73 #[] w fun e w' => ∃ x : Hd, e = .returned ((sl x)) ∧ SH w [] [ownF (sl x) r] w' := by
 refine cwc (args := []) Tryz.func73 R Tryz.ntmps73 R ?_
 unfold spec_l06Same at t0
 refine wcr (asg R R (wnt (wcr (wle (ebs R sb_38_0) R fun b1 => (asg R R (wnt (wcs (wcr (asg R R (wnt (lpO_inv t0 fun y1 l1 t0 => (wj (J := List Int) (X := Hd) (fun z => y1 = z) (fun _ x => [(1, (sl x))]) (fun z x => [ownF (sl x) z]) ?_ ?_))))))))))))
 refine wcb (wcf (X := Hd) l1 (fun k1 s1 x1l => [(1, (sl x1l)), (2, iv ((k1 : Nat) : Int))]) (fun k1 s1 x1l => [ownF (sl x1l) s1]) (⟨some ⟨b1, 0, none⟩, 0, 0⟩ : Hd) (su2 R R) (zc (pbo pz (n := 0) (xs := ([] : List Int)) R R (by unfold maxLen; omega)) zn) fun k1 s1 x1l hN1 l1 => ?_)
 by_cases hk1 : k1 < 6
 refine fos l1 hk1 fun _ t1 l1 => ?_
 unfold spec_l06Same_L1 at t1
 have c1 : (decide (((k1 : Nat) : Int) < 6)) = true := ddt (by omega)
 refine wcs (wcr (mv R R (wlq (pls R R) R (wnt (wft R c1 (wck (wqt (wcs (wcb (wcg (mv R R (mv R R (wle (ebs R (sb_38_1 ((k1 : Nat) : Int))) R fun b2 => (gdO t1 fun g1 t1 => (wle (eo_append (xs := s1) (ys := ([((k1 : Nat) : Int)] : List Int)) ak_38 pk1 R R (slin_rd fun _ g => Rg.on (rgo (pbo pz (n := 1) (xs := ([((k1 : Nat) : Int)] : List Int)) R R (by unfold maxLen; omega))) g) g1) R fun x2 => ?_)))))))))))))))
 refine asg R R (wln (wqb (wqt (wcg (mv R R (wlq (po_inc R R (by omega)) R ?_))))))
 exact asg R R (wln (wq_rnd hk1 (stpN l1 t1) x2 (su2 R R) so1))
 have c1 : (decide (((k1 : Nat) : Int) < 6)) = false := ddf (by omega)
 have en1 := foe l1 hk1
 exact wcs (wcr (mv R R (wlq (pls R R) R (wnt (wff R c1 (wcx (wqe (wqe (wbx (wjm _ x1l (Sum.inl.inj en1) (su1 R) so1))))))))))
 intro e1 x1 hp
 obtain rfl : e1 = y1 := hp.symm
 refine wqt (wcr (mv R R (asg R R (wnt (wct ?_)))))
 obtain rfl := oi t0
 exact wq1 R R fun w hw => ⟨x1, R, hw.weak so1⟩

theorem c_spec_l06List (w : World) (fp : List Nat) (b0p : Nat) (a_c0 : List UInt8) (v0a : Hd) (r0 : rdF w (dm w fp) (sl v0a) a_c0) (a_c1 : Int) (a_c2 : Int) (o : Ow w [box b0p [(sl v0a), .int .i64 a_c1, .int .i64 a_c2]] fp) {r : (List Int) × Int × Int} (t0 : spec_l06List a_c0 a_c1 a_c2 = some r) : Calls Tryz.prog 50 #[ptr b0p 0] w fun e w' => ∃ x : Hd, e = .returned ((sl x)) ∧ SH w fp [ownF (sl x) r.1, box b0p [(sl v0a), .int .i64 r.2.1, .int .i64 r.2.2]] w' := by
 refine calls_of_wc_own (args := [_]) o Tryz.func50 R Tryz.ntmps50 R ?_
 unfold spec_l06List at t0
 refine wcr (asg R R (wnt (wcr (bdO t0 fun v1 hv1 t0 => (wlc (cz1 fa_73 R fun w hw => c_spec_l06Same w hv1) R fun x1 => (asg R R (wnt (wcs (wcr (mv R R (bdO t0 fun v2 hv2 t0 => (wlc (co_o1 [box b0p [(sl v0a), iv a_c1, iv a_c2]] fa_31 (zc pk1 some_refl) R fun w fp hw => c_spec_l01Below w fp b0p a_c0 v0a ((rdo_arg r0) w fp hw) a_c1 a_c2 6 hw.ow hv2) R fun _ => (asg R R (wnt (wlO_inv t0 fun y1 l1 t0 => (wj (J := (List Int) × Int × Int × Int) (X := Unit) (fun z => y1 = z) (fun _ _ => [(0, ptr b0p 0), (3, (sl x1))]) (fun z _ => [box b0p [(sl v0a), iv z.2.2.1, iv z.2.2.2], ownF (sl x1) z.1]) ?_ ?_))))))))))))))))
 refine wcb (wc_whO (X := Unit) l1 (fun s1 x1l => [(0, ptr b0p 0), (3, (sl x1)), (4, iv s1.2.1)]) (fun s1 x1l => [box b0p [(sl v0a), iv s1.2.2.1, iv s1.2.2.2], ownF (sl x1) s1.1]) () (su3 R R R) so2 fun m1 s1 x1l l1 => (whO_step l1 fun _ t1 l1 => ?_))
 unfold spec_l06List_L1 at t1
 refine wcs (wcr (mv R R (wlq (po_gtr R R) R (wnt (wcO t1 R (fun h1 t1 => ?_) fun h1 t1 => ?_)))))
 refine wck (wqt (wcs (wcb (wcr (mv R R (bdO t1 fun v3 hv3 t1 => (wlc (co_o1 [box b0p [(sl v0a), iv s1.2.2.1, iv s1.2.2.2]] fa_31 (zc pz some_refl) R fun w fp hw => c_spec_l01Below w fp b0p a_c0 v0a ((rdo_arg r0) w fp hw) s1.2.2.1 s1.2.2.2 6 hw.ow hv3) R fun _ => (asg R R (wnt (wcr (mv R R (bdO t1 fun v4 hv4 t1 => (wlc (co_o1 [box b0p [(sl v0a), iv v3.2.1, iv v3.2.2]] fa_31 (zc pz some_refl) R fun w fp hw => c_spec_l01Below w fp b0p a_c0 v0a ((rdo_arg r0) w fp hw) v3.2.1 v3.2.2 6 hw.ow hv4) R fun _ => (asg R R (wnt (wcr (mv R R (mv R R (gdO t1 fun g1 t1 => (wlq (po_ixr (rgo pk1) el_38 R R g1.1 g1.2) R (wlq (v := iv (gx s1.1 ((v3.1).toNat))) (po_ldf (rgo pk1) tk_3 R (ix_lt g1) R) R (asg R R (wnt (wcr (mv R R (mv R R (mv R R (mv R R (gdO t1 fun g2 t1 => (wlq (po_ixr (rgo pk1) el_38 R R g2.1 g2.2) R (wlq (v := iv (gx s1.1 ((v4.1).toNat))) (po_ldf (rgo pk1) tk_3 R (ix_lt g2) R) R (wlq (po_ixr (rgo pk1) el_38 R R g1.1 g1.2) R (wls (so_own (x' := (gx s1.1 ((v4.1).toNat))) tk_3 pk1 R R R R R R (ix_lt g1) R) (wnt (wcg (mv R R (mv R R (mv R R (gdO t1 fun g3 t1 => ?_)))))))))))))))))))))))))))))))))))))))
 exact wlq (po_ixr (rgo pz) el_38 R R g3.1 g3.2) R (wls (so_own (x' := (gx s1.1 ((v3.1).toNat))) tk_3 pz R R R R R R (ix_lt g3) R) (wln (wqb (wqt (wcg (mv R R (wlq (po_sub R R) R (asg R R (wln (wq_rndw (stwN l1 t1) () (su3 R R R) (zc pk1 so1)))))))))))
 exact wcx (wqe (wqe (wbx (wjm _ () (Sum.inl.inj (stwB l1 t1)) (su2 R R) so2))))
 intro e1 _ hp
 obtain rfl : e1 = y1 := hp.symm
 refine wqt (wcs (wcr (mv R R (bdO t0 fun v5 hv5 t0 => (wlc (co_o1 [box b0p [(sl v0a), iv e1.2.2.1, iv e1.2.2.2]] fa_31 (zc pz some_refl) R fun w fp hw => c_spec_l01Below w fp b0p a_c0 v0a ((rdo_arg r0) w fp hw) e1.2.2.1 e1.2.2.2 10 hw.ow hv5) R fun _ => (wnt (wcb (wcr (wlq (pol R R) R (asg R R (wnt (bdO t0 fun y1 t1 t0 => (wj (J := (List Int) × Gl01Cur) (X := Hd) (fun z => y1 = z) (fun _ x => [(3, (sl x))]) (fun z x => [box b0p [(sl v0a), iv ((z.2).i), iv ((z.2).h)], ownF (sl x) z.1]) ?_ ?_)))))))))))))
 refine wcO t1 R (fun h2 t1 => ?_) fun h2 t1 => ?_
 refine wcg (mv R R (mv R R (bdO t1 fun v6 hv6 t1 => (wlc (co_o1 [box b0p [(sl v0a), iv v5.2.1, iv v5.2.2]] fa_31 (zc pz some_refl) R fun w fp hw => c_spec_l01Below w fp b0p a_c0 v0a ((rdo_arg r0) w fp hw) v5.2.1 v5.2.2 6 hw.ow hv6) R fun _ => (mv R R (wle (ebs (qs := [(0, iv (-1)), (1, iv 0), (2, iv 5), (3, iv 6)]) R (sb_38_4 (-1) 0 5 6)) R fun b1 => (bdO t1 fun v7 hv7 t1 => (wlc (co_o1 [box b0p [(sl v0a), iv v6.2.1, iv v6.2.2]] fa_32 (zc pk1 some_refl) R fun w fp hw => c_spec_l01PickInt w fp b0p a_c0 v0a ((rdo_arg r0) w fp hw) v6.2.1 v6.2.2 ([(-1), 0, 5, 6] : List Int) (⟨some ⟨b1, 0, none⟩, 4, 4⟩ : Hd) ((rdo_own (pbo pz (n := 4) (xs := ([(-1), 0, 5, 6] : List Int)) R R (by unfold maxLen; omega))) w fp hw) hw.ow hv7) R fun _ => ?_))))))))
 exact gdO t1 fun g4 t1 => wlq (po_ixr (rgo pk2) el_38 R R g4.1 g4.2) R (wls (so_own (x' := v7.1) tk_3 pk2 R R R R R R (ix_lt g4) R) (wln (wjm _ x1 (mtE t1) (su1 R) (zc pk1 so1))))
 refine wcr (wlq (pol R R) R (asg R R (wnt (wcO t1 R (fun h3 t1 => ?_) fun h3 t1 => ?_))))
 exact wcg (mv R R (gdO t1 fun g5 t1 => (wlq (po_cutr (l := 1) (h := e1.1.length) (rgo pk1) el_38 R (.inr ⟨_, R, R⟩) (.inl ⟨R, R⟩) g5.1 g5.2) R (asg R R (wln (wjm _ (slh x1 1 e1.1.length (Rep.sz Int)) (mtE t1) (su1 R) (zc pz (zc (pick_cut pz g5.1 g5.2) zn))))))))
 exact wck (wjm _ x1 (mtE t1) (su1 R) so2)
 intro j1 x3 hp
 obtain rfl : j1 = y1 := hp.symm
 refine wqb (wqt (wcr (mv R R (asg R R (wnt (wct ?_))))))
 obtain rfl := oi t0
 exact wq1 R R fun w hw => ⟨x3, R, hw.weak (zc pk1 so1)⟩

theorem c_spec_ListOk (w : World) (a_l : List Int) (v0a : Hd) (r0 : rdF w (dm w []) (sl v0a) a_l) {r : Bool} (t0 : spec_ListOk a_l = some r) : Calls Tryz.prog 69 #[(sl v0a)] w fun e w' => e = .returned (.bool r) ∧ SH w [] [] w' := by
 refine cwc (args := [_]) Tryz.func69 R Tryz.ntmps69 R ?_
 unfold spec_ListOk at t0
 refine wcr (asg R R (wnt (wcs (wcr (asg R R (wnt (gdO t0 fun g1 t0 => (sqO t0 fun y1 l1 t0 => (wj (J := Unit) (X := Unit) (fun z => y1 = .inl z) (fun _ _ => [(0, (sl v0a))]) (fun _ _ => []) ?_ ?_)))))))))
 refine wcb (wcf (X := Unit) l1 (fun k1 s1 x1l => [(0, (sl v0a)), (3, iv ((k1 : Nat) : Int))]) (fun k1 s1 x1l => []) () (su2 R R) zn fun k1 s1 x1l hN1 l1 => ?_)
 by_cases hk1 : k1 < a_l.length
 refine fos l1 hk1 fun _ t1 l1 => ?_
 unfold spec_ListOk_L1 at t1
 have c1 : (decide (((k1 : Nat) : Int) < ((a_l.length : Nat) : Int))) = true := ddt (by omega)
 refine wcs (wcr (mv R R (mv R R (wlq (pln (rga r0) el_38 R) R (wlq (pls R R) R (wnt (wft R c1 (wck (wqt (wcs (wcb (wcr (mv R R (mv R R (wlq (po_ixn (k := k1) (rga r0) el_38 R R hk1) R (wlq (v := iv (gx a_l k1)) (po_ldf (rga r0) tk_3 R hk1 R) R (bdO t1 fun v1 hv1 t1 => (wlc (cz0 fa_22 R fun w hw => c_spec_l01In w (gx a_l k1) 0 5 hv1) R fun _ => (wlq (po_not R) R (wnt (wcO t1 R (fun h1 t1 => ?_) fun h1 t1 => ?_)))))))))))))))))))))
 refine wcr (asg R R (wnt (wct (wbr (wqr (wqr (wbr (wqr (wqr ?_)))))))))
 replace t0 := lpR t0 l1 t1
 obtain rfl := oi t0
 exact wq1 R R fun w hw => ⟨R, hw.weak zn⟩
 refine wck (wqb (wqt (wcg (mv R R (wlq (po_inc R R (by omega)) R ?_)))))
 exact asg R R (wln (wq_rnd hk1 (stpN l1 t1) () (su2 R R) zn))
 have c1 : (decide (((k1 : Nat) : Int) < ((a_l.length : Nat) : Int))) = false := ddf (by omega)
 have en1 := foe l1 hk1
 exact wcs (wcr (mv R R (mv R R (wlq (pln (rga r0) el_38 R) R (wlq (pls R R) R (wnt (wff R c1 (wcx (wqe (wqe (wbx (wjm _ () en1 (su1 R) zn))))))))))))
 intro e1 _ hp
 replace t0 := sqE (j := e1) t0 hp
 refine wqt (wcr (mv R R (wlq (pln (rga r0) el_38 R) R (wlq (pol R R) R (asg R R (wnt (wct ?_)))))))
 obtain rfl := oi t0
 exact wq1 R R fun w hw => ⟨R, hw.weak zn⟩

theorem c_spec_ExchangeCell (w : World) (a_c : GCell) (a_l : List Int) (v0a : Hd) (r0 : rdF w (dm w []) (sl v0a) a_l) {r : GCell} (t0 : spec_ExchangeCell a_c a_l = some r) : Calls Tryz.prog 70 #[.agg #[.int .i64 a_c.Split, .int .i64 a_c.A, .int .i64 a_c.B], (sl v0a)] w fun e w' => e = .returned (.agg #[.int .i64 r.Split, .int .i64 r.A, .int .i64 r.B]) ∧ SH w [] [] w' := by
 refine cwc (args := [_, _]) Tryz.func70 R Tryz.ntmps70 R ?_
 unfold spec_ExchangeCell at t0
 refine wcr (wle (eo_box R R) R fun b1 => (wle (eal (cs := [iv 0, iv 0, iv 0]) za_55) R fun b2 => (wnt (wcs (wcs (bdO t0 fun y1 t1 t0 => (wj (J := Bool) (X := Unit) (fun z => y1 = z) (fun z _ => [(1, (sl v0a)), (2, ptr b1 0), (4, ptr b2 0), (12, .bool z)]) (fun _ _ => [box b2 [iv 0, iv 0, iv 0], box b1 [iv a_c.Split, iv a_c.A, iv a_c.B]]) ?_ ?_)))))))
 refine wcg (wlq (v := .agg #[iv a_c.Split, iv a_c.A, iv a_c.B]) (plb tk_55 pk1 R R R) R (bdO t1 fun v1 hv1 t1 => (wlc (cz0 fa_42 R fun w hw => c_spec_CellOk w a_c hv1) R fun _ => (wlq (po_not R) R (mv R R (wlo (t := 8) t1 R (fun h1 t1 => ?_) fun h1 t1 => ?_))))))
 exact wgf (j := 3) R R R R R (wgf (j := 3) R R R R R (wgf (j := 3) R R R R R (wlq (pit R R) R (wln (wjm _ () (mtE t1) (su4 R R R R) so2)))))
 exact wgn (j := 3) R R R (mv R R (bdO t1 fun v2 hv2 t1 => (wgn (j := 3) R R R (wlc (cz0 fa_69 R fun w hw => c_spec_ListOk w a_l v0a (ra r0 hw) hv2) R (fun _ => (wgn (j := 3) R R R (wlq (po_not R) R (wlq (pif R R) R (wln (wjm _ () (mtE t1) (su4 R R R R) so2))))))))))
 intro j1 _ hp
 obtain rfl : j1 = y1 := hp.symm
 refine wqt (wcO t0 R (fun h2 t0 => ?_) fun h2 t0 => ?_)
 refine wcr (wlq (po_build R bd_55) R (wls (sbx (cs' := [iv 0, iv 0, iv 0]) tk_55 pz R R R R R R R) (wnt (wct (wqr ?_)))))
 obtain rfl := oi t0
 exact wqc R tk_55 R pz R fun w hw => ⟨R, hw.weak zn⟩
 refine wck (wqt (wcs (wcd [box b2 [iv 0, iv 0, iv 0], box b1 [iv a_c.Split, iv a_c.A, iv a_c.B]] 13 mixed (aq 0 R (pof fo_55_0 R) so2 R (aq (v := iv a_c.Split) 1 R (plx tk_3 pk1 R R) so2 R (aq 2 R (pom R) so2 R (aq 3 R (pof fo_55_1 R) so2 R (aq (v := iv a_c.A) 4 R (plx tk_3 pk1 R R) so2 R (gdO t0 fun g1 t0 => (aq 5 R (po_ixr (rga r0) el_38 R R g1.1 g1.2) so2 R (aq (v := iv (gx a_l ((a_c.A).toNat))) 6 R (po_ldf (rga r0) tk_3 R (ix_lt g1) R) so2 R (aq 7 R (pom R) so2 R (aq 8 R (pof fo_55_2 R) so2 R (aq (v := iv a_c.B) 9 R (plx tk_3 pk1 R R) so2 R (gdO t0 fun g2 t0 => (aq 10 R (po_ixr (rga r0) el_38 R R g2.1 g2.2) so2 R (aq (v := iv (gx a_l ((a_c.B).toNat))) 11 R (po_ldf (rga r0) tk_3 R (ix_lt g2) R) so2 R (a1 12 (bdO t0 fun v3 hv3 t0 => (wsc R (cz0 fa_68 R fun w hw => c_spec_SplitCell w a_c.Split (gx a_l ((a_c.A).toNat)) (gx a_l ((a_c.B).toNat)) hv3) (fun _ => (zt so2)) R fun _ => (a1 13 (ws_skipop R (sbx (cs' := [iv v3.Split, iv v3.A, iv v3.B]) tk_55 pz R R R R R R R) (sts_past (by kernel_rfl)) ?_))))))))))))))))))))))
 refine ae (wqt (wct ?_))
 obtain rfl := oi t0
 exact wqc R tk_55 R pz R fun w hw => ⟨R, hw.weak zn⟩

theorem c_spec_ExchangeBlock (w : World) (a_b : GBlock) (v0a : Hd) (r0 : rdF w (dm w []) (sl v0a) a_b.Cells) (a_l : List Int) (v1a : Hd) (r1 : rdF w (dm w []) (sl v1a) a_l) {r : GBlock × Bool} (t0 : spec_ExchangeBlock a_b a_l = some r) : Calls Tryz.prog 45 #[.agg #[.int .i64 a_b.Size, (sl v0a)], (sl v1a)] w fun e w' => ∃ x : Hd, e = .returned (.tuple #[.agg #[.int .i64 r.1.Size, (sl x)], .bool r.2]) ∧ SH w [] [ownF (sl x) r.1.Cells] w' := by
 refine cwc (args := [_, _]) Tryz.func45 R Tryz.ntmps45 R ?_
 unfold spec_ExchangeBlock at t0
 refine wcr (wle (eo_box R R) R fun b1 => (wle (eal (cs := [iv 0, (sl hn)]) za_26) R fun b2 => (asg R R (wnt (wcs (wcs (bdO t0 fun y1 t1 t0 => (wj (J := Bool) (X := Unit) (fun z => y1 = z) (fun z _ => [(1, (sl v1a)), (2, ptr b1 0), (4, ptr b2 0), (15, .bool z)]) (fun _ _ => [box b2 [iv 0, (sl hn)], box b1 [iv a_b.Size, (sl v0a)]]) ?_ ?_))))))))
 refine wcg (wlq (v := .agg #[iv a_b.Size, (sl v0a)]) (plb tk_26 pk1 R R R) R (bdO t1 fun v1 hv1 t1 => (wlc (cz0 fa_23 R fun w hw => c_spec_BlockOk w a_b v0a (ra r0 hw) hv1) R fun _ => (wlq (po_not R) R (mv R R (wlo (t := 11) t1 R (fun h1 t1 => ?_) fun h1 t1 => ?_))))))
 exact wgf (j := 3) R R R R R (wgf (j := 3) R R R R R (wgf (j := 3) R R R R R (wlq (pit R R) R (wln (wjm _ () (mtE t1) (su4 R R R R) so2)))))
 exact wgn (j := 3) R R R (mv R R (bdO t1 fun v2 hv2 t1 => (wgn (j := 3) R R R (wlc (cz0 fa_69 R fun w hw => c_spec_ListOk w a_l v1a (ra r1 hw) hv2) R (fun _ => (wgn (j := 3) R R R (wlq (po_not R) R (wlq (pif R R) R (wln (wjm _ () (mtE t1) (su4 R R R R) so2))))))))))
 intro j1 _ hp
 obtain rfl : j1 = y1 := hp.symm
 refine wqt (wcO t0 R (fun h2 t0 => ?_) fun h2 t0 => ?_)
 refine wcr (wlq (v := .agg #[iv a_b.Size, (sl v0a)]) (plb tk_26 pk1 R R R) R (bdO t0 fun v3 hv3 t0 => (wlc (cz1 fa_51 R fun w hw => c_spec_l03Copy w a_b v0a (ra r0 hw) hv3) R fun x2 => (wls (sbx (cs' := [iv v3.Size, (sl x2)]) tk_26 pk1 R R R R R R R) (asg R R (wnt (wct (wqr ?_))))))))
 obtain rfl := oi t0
 exact wq_retc1 R tk_26 R R pz R fun w hw => ⟨x2, R, hw.weak (zc pk1 zn)⟩
 refine wck (wqt (wcr (wlq (pof fo_26_0 R) R (wlq (v := iv a_b.Size) (plx tk_3 pk1 R R) R (wlq (po_build R (bd_26_0 a_b.Size)) R (wle (eal (cs := [iv 0, (sl hn)]) za_26) R fun b3 => (wls (sbx (cs' := [iv a_b.Size, (sl hn)]) tk_26 pz R R R R R R R) (wnt (wcs (wcr (asg R R (wnt (gdO t0 fun g1 t0 => (lpO_inv t0 fun y1 l1 t0 => (wj (J := List GCell) (X := Hd) (fun z => y1 = z) (fun _ _ => [(4, ptr b2 0), (6, ptr b3 0)]) (fun z x => [box b3 [iv a_b.Size, (sl x)], box b2 [iv 0, (sl hn)], ownF (sl x) z]) ?_ ?_)))))))))))))))
 refine wcb (wcf (X := Hd) l1 (fun k1 s1 x1l => [(1, (sl v1a)), (2, ptr b1 0), (4, ptr b2 0), (6, ptr b3 0), (7, iv ((k1 : Nat) : Int))]) (fun k1 s1 x1l => [box b3 [iv a_b.Size, (sl x1l)], box b2 [iv 0, (sl hn)], box b1 [iv a_b.Size, (sl v0a)], ownF (sl x1l) s1]) hn (su5 R R R R R) (zc pz (zc pz (zc pz (zc pick_nil zn)))) fun k1 s1 x1l hN1 l1 => ?_)
 by_cases hk1 : k1 < a_b.Cells.length
 refine fos l1 hk1 fun _ t1 l1 => ?_
 unfold spec_ExchangeBlock_L1 at t1
 have c1 : (decide (((k1 : Nat) : Int) < ((a_b.Cells.length : Nat) : Int))) = true := ddt (by omega)
 refine wcs (wcr (mv R R (wlq (pof fo_26_1 R) R (wlq (v := (sl v0a)) (plx tk_24 pk2 R R) R (wlq (pln (rga r0) el_24 R) R (wlq (pls R R) R (wnt (wft R c1 (wck (wqt (wcs (wcb (wcd [box b3 [iv a_b.Size, (sl x1l)], box b2 [iv 0, (sl hn)], box b1 [iv a_b.Size, (sl v0a)]] 12 mixed (aq 0 R (pof fo_26_1 R) so3 R (aq (v := (sl x1l)) 1 R (plx tk_24 pz R R) so3 R (aq 2 R (pof fo_26_1 R) so3 R (aq (v := (sl v0a)) 3 R (plx tk_24 pk2 R R) so3 R (aq 4 R (pom R) so3 R (aq 5 R (po_ixn (k := k1) (rga r0) el_24 R R hk1) so3 R (aq (v := .agg #[iv ((gx a_b.Cells k1).Split), iv ((gx a_b.Cells k1).A), iv ((gx a_b.Cells k1).B)]) 6 R (po_ldfs (rga r0) tk_55 R hk1 R R R) so3 R (aq 7 R (pom R) so3 R (a1 8 (bdO t1 fun v4 hv4 t1 => (wsc R (cz0 fa_70 R fun w hw => c_spec_ExchangeCell w (gx a_b.Cells k1) a_l v1a (ra r1 hw) hv4) (fun _ => (zt so3)) R fun _ => (a1 9 (wse R (ebs R (sb_24_1 v4.Split v4.A v4.B)) (fun _ => (zt (zc pk1 (zc pk1 (zc pk1 zn))))) R fun b4 => (a1 10 (gdO t1 fun g2 t1 => (wse R (eo_append (xs := s1) (ys := ([v4] : List GCell)) ak_24 pk4 R R (slin_rd fun _ g => Rg.on (rgo (pbo pz (n := 1) (xs := ([v4] : List GCell)) R R (by unfold maxLen; omega))) g) g2) (fun _ => (zt (zc pk2 (zc pk2 (zc pk2 zn))))) R fun x4 => ?_)))))))))))))))))))))))))))))
 refine aq 11 R (pof fo_26_1 R) (zc pk2 (zc pk2 (zc pk2 zn))) R (a1 12 (ws_skipop R (sbx (cs' := [iv a_b.Size, (sl x4)]) tk_24 pk2 R R R R R R R) (sts_past (by kernel_rfl)) ?_))
 refine ae (wqb (wqt (wcg (mv R R (wlq (po_inc R R (by omega)) R ?_)))))
 exact asg R R (wln (wq_rnd hk1 (stpN l1 t1) x4 (su5 R R R R R) (zc pz (zc pk2 (zc pk2 so1)))))
 have c1 : (decide (((k1 : Nat) : Int) < ((a_b.Cells.length : Nat) : Int))) = false := ddf (by omega)
 have en1 := foe l1 hk1
 exact wcs (wcr (mv R R (wlq (pof fo_26_1 R) R (wlq (v := (sl v0a)) (plx tk_24 pk2 R R) R (wlq (pln (rga r0) el_24 R) R (wlq (pls R R) R (wnt (wff R c1 (wcx (wqe (wqe (wbx (wjm _ x1l (Sum.inl.inj en1) (su2 R R) (zc pz (zc pz (zc pk1 zn))))))))))))))))
 intro e1 x3 hp
 obtain rfl : e1 = y1 := hp.symm
 refine wqt (wcr (wlq (v := .agg #[iv a_b.Size, (sl x3)]) (plb tk_26 pz R R R) R (wls (sbx (cs' := [iv a_b.Size, (sl x3)]) tk_26 pk1 R R R R R R R) (asg R R (wnt (wct ?_))))))
 obtain rfl := oi t0
 exact wq_retc1 R tk_26 R R pz R fun w hw => ⟨x3, R, hw.weak (zc pk2 zn)⟩

theorem c_spec_l01Once (w : World) (fp : List Nat) (b0p : Nat) (a_c0 : List UInt8) (v0a : Hd) (r0 : rdF w (dm w fp) (sl v0a) a_c0) (a_c1 : Int) (a_c2 : Int) (a_n : Int) (o : Ow w [box b0p [(sl v0a), .int .i64 a_c1, .int .i64 a_c2]] fp) {r : Bool × Int × Int} (t0 : spec_l01Once a_c0 a_c1 a_c2 a_n = some r) : Calls Tryz.prog 44 #[ptr b0p 0, .int .i64 a_n] w fun e w' => ∃ _x : Unit, e = .returned (.bool r.1) ∧ SH w fp [box b0p [(sl v0a), .int .i64 r.2.1, .int .i64 r.2.2]] w' := by
 refine calls_of_wc_own (args := [_, _]) o Tryz.func44 R Tryz.ntmps44 R ?_
 unfold spec_l01Once at t0
 refine wcr (asg R R (wnt (wcr (mv R R (mv R R (bdO t0 fun v1 hv1 t0 => (wlc (co_o1 [box b0p [(sl v0a), iv a_c1, iv a_c2]] fa_31 (zc pz some_refl) R fun w fp hw => c_spec_l01Below w fp b0p a_c0 v0a ((rdo_arg r0) w fp hw) a_c1 a_c2 a_n hw.ow hv1) R fun _ => (wlq (pol R R) R (asg R R (wnt (wct ?_)))))))))))
 obtain rfl := oi t0
 exact wq1 R R fun w hw => ⟨(), R, hw.weak so1⟩

theorem c_spec_l29Pair (w : World) (fp : List Nat) (b0p : Nat) (a_c0 : List UInt8) (v0a : Hd) (r0 : rdF w (dm w fp) (sl v0a) a_c0) (a_c1 : Int) (a_c2 : Int) (o : Ow w [box b0p [(sl v0a), .int .i64 a_c1, .int .i64 a_c2]] fp) {r : GBlock × GBlock × Int × Int} (t0 : spec_l29Pair a_c0 a_c1 a_c2 = some r) : Calls Tryz.prog 30 #[ptr b0p 0] w fun e w' => ∃ x : Hd × Hd, e = .returned (.tuple #[.agg #[.int .i64 r.1.Size, (sl x.1)], .agg #[.int .i64 r.2.1.Size, (sl x.2)]]) ∧ SH w fp [ownF (sl x.1) r.1.Cells, ownF (sl x.2) r.2.1.Cells, box b0p [(sl v0a), .int .i64 r.2.2.1, .int .i64 r.2.2.2]] w' := by
 refine calls_of_wc_own (args := [_]) o Tryz.func30 R Tryz.ntmps30 R ?_
 unfold spec_l29Pair at t0
 refine wcr (wle (eal (cs := [iv 0, (sl hn)]) za_26) R fun b1 => (wle (eal (cs := [iv 0, (sl hn)]) za_26) R fun b2 => (wnt (wcr (mv R R (bdO t0 fun v1 hv1 t0 => (wlc (co_o2 [box b0p [(sl v0a), iv a_c1, iv a_c2]] fa_49 (zc pk2 some_refl) R fun w fp hw => c_spec_l03Any w fp b0p a_c0 v0a ((rdo_arg r0) w fp hw) a_c1 a_c2 hw.ow hv1) R fun x1 => (wle (eal (cs := [iv 0, (sl hn)]) za_26) R fun b3 => (wls (sbx (cs' := [iv v1.1.Size, (sl x1)]) tk_26 pz R R R R R R R) (wnt (wcs (wcr (mv R R (bdO t0 fun v2 hv2 t0 => (wlc (co_o1 [box b0p [(sl v0a), iv v1.2.1, iv v1.2.2]] fa_31 (zc pk2 some_refl) R fun w fp hw => c_spec_l01Below w fp b0p a_c0 v0a ((rdo_arg r0) w fp hw) v1.2.1 v1.2.2 4 hw.ow hv2) R fun _ => (wnt (wcb (wcr (wlq (pol R R) R (asg R R (wnt (wcO t0 R (fun h1 t0 => ?_) fun h1 t0 => ?_))))))))))))))))))))))
 refine wcs (bdO t0 fun v3 hv3 t0 => (bdO t0 fun v4 hv4 t0 => (wcj (X := Hd) (fun _ => True) (fun z => [(2, ptr b1 0), (3, ptr b2 0)]) (fun z => [box b2 [iv v4.Size, (sl z)], box b1 [iv v1.1.Size, (sl x1)], ownF (sl z) v4.Cells, box b0p [(sl v0a), iv v3.2.1, iv v3.2.2], ownF (sl x1) v1.1.Cells]) ?_ ?_)))
 refine wcd [box b3 [iv v1.1.Size, (sl x1)], ownF (sl x1) v1.1.Cells, box b2 [iv 0, (sl hn)], box b1 [iv 0, (sl hn)]] 5 mixed (aq (v := .agg #[iv v1.1.Size, (sl x1)]) 0 R (plb tk_26 pz R R R) (zc pk1 (zc pk1 (zc pk1 (zc pk1 zn)))) R (wa_2 (i := 1) (j := 2) (by kernel_rfl) ?_ ?_))
 refine ws_pure (v := .agg #[iv v1.1.Size, (sl x1)]) R (plb tk_26 pk1 R R R) (zt (zc pk1 (zc pk1 (zc pk1 (zc pk1 zn))))) R (a1 2 (ws_pure R (pom R) (zt (zc pk1 (zc pk1 (zc pk1 (zc pk1 zn))))) R (a1 3 (wsc R (co_o1 [box b0p [(sl v0a), iv v2.2.1, iv v2.2.2]] fa_31 (zc pz some_refl) R fun w fp hw => c_spec_l01Below w fp b0p a_c0 v0a ((rdo_arg r0) w fp hw) v2.2.1 v2.2.2 8 hw.ow hv3) (fun _ => (zt (zc pk1 (zc pk1 (zc pk1 (zc pk1 zn)))))) R fun _ => (a1 4 (wsc R (cz1 fa_46 R fun w hw => c_spec_SeenFrom w v1.1 x1 (Rg.on (rgo pk2) hw) v3.1 hv4) (fun _ => (zt (zc pk2 (zc pk2 (zc pk2 (zc pk2 zn)))))) R fun x2 => (a1 5 (ws_skipop R (sbx (cs' := [iv v1.1.Size, (sl x1)]) tk_26 pk5 R R R R R R R) (sts_past (by kernel_rfl)) ?_))))))))
 refine a1 6 (ws_skipop R (sbx (cs' := [iv v4.Size, (sl x2)]) tk_26 pk5 R R R R R R R) (sts_past (by kernel_rfl)) ?_)
 exact ae (wqm x2 trivial (su2 R R) (zc pz (zc pz (zc pz (zc pz (zc pk1 zn))))))
 refine ws_pure R (pom R) (zt (zc pk1 (zc pk1 (zc pk1 (zc pk1 zn))))) R (wa_2 (i := 1) (j := 3) (by kernel_rfl) ?_ ?_)
 refine ws_pure (v := .agg #[iv v1.1.Size, (sl x1)]) R (plb tk_26 pk1 R R R) (zt (zc pk1 (zc pk1 (zc pk1 (zc pk1 zn))))) R (a1 3 (wsc R (co_o1 [box b0p [(sl v0a), iv v2.2.1, iv v2.2.2]] fa_31 (zc pz some_refl) R fun w fp hw => c_spec_l01Below w fp b0p a_c0 v0a ((rdo_arg r0) w fp hw) v2.2.1 v2.2.2 8 hw.ow hv3) (fun _ => (zt (zc pk1 (zc pk1 (zc pk1 (zc pk1 zn)))))) R fun _ => (a1 4 (wsc R (cz1 fa_46 R fun w hw => c_spec_SeenFrom w v1.1 x1 (Rg.on (rgo pk2) hw) v3.1 hv4) (fun _ => (zt (zc pk2 (zc pk2 (zc pk2 (zc pk2 zn)))))) R fun x3 => (a1 5 (ws_skipop R (sbx (cs' := [iv v1.1.Size, (sl x1)]) tk_26 pk5 R R R R R R R) (sts_past (by kernel_rfl)) ?_))))))
 refine a1 6 (ws_skipop R (sbx (cs' := [iv v4.Size, (sl x3)]) tk_26 pk5 R R R R R R R) (sts_past (by kernel_rfl)) ?_)
 exact ae (wqm x3 trivial (su2 R R) (zc pz (zc pz (zc pz (zc pz (zc pk1 zn))))))
 refine wsc R (co_o1 [box b0p [(sl v0a), iv v2.2.1, iv v2.2.2]] fa_31 (zc pz some_refl) R fun w fp hw => c_spec_l01Below w fp b0p a_c0 v0a ((rdo_arg r0) w fp hw) v2.2.1 v2.2.2 8 hw.ow hv3) (fun _ => (zt (zc pk1 (zc pk1 (zc pk1 (zc pk1 zn)))))) R fun _ => a1 1 (ws_pure (v := .agg #[iv v1.1.Size, (sl x1)]) R (plb tk_26 pk1 R R R) (zt (zc pk1 (zc pk1 (zc pk1 (zc pk1 zn))))) R (a1 4 (wsc R (cz1 fa_46 R fun w hw => c_spec_SeenFrom w v1.1 x1 (Rg.on (rgo pk2) hw) v3.1 hv4) (fun _ => (zt (zc pk2 (zc pk2 (zc pk2 (zc pk2 zn)))))) R fun x4 => (a1 5 (ws_skipop R (sbx (cs' := [iv v1.1.Size, (sl x1)]) tk_26 pk5 R R R R R R R) (sts_past (by kernel_rfl)) ?_)))))
 refine a1 6 (ws_skipop R (sbx (cs' := [iv v4.Size, (sl x4)]) tk_26 pk5 R R R R R R R) (sts_past (by kernel_rfl)) ?_)
 exact ae (wqm x4 trivial (su2 R R) (zc pz (zc pz (zc pz (zc pz (zc pk1 zn))))))
 intro x5 _
 refine wqt (wct (wbr (wqr ?_)))
 obtain rfl := oi t0
 exact wq_retcc R tk_26 tk_26 R R pk1 pz R R fun w hw => ⟨(x1, x5), R, hw.weak (zc pk4 (zc pk2 (zc pk2 zn)))⟩
 refine wcr (wlq (pol R R) R (asg R R (wnt (wcO t0 R (fun h2 t0 => ?_) fun h2 t0 => ?_))))
 refine wcs (bdO t0 fun v5 hv5 t0 => (bdO t0 fun v6 hv6 t0 => (bdO t0 fun v7 hv7 t0 => (bdO t0 fun v8 hv8 t0 => (wcj (X := Nat × Hd) (fun _ => True) (fun z => [(2, ptr b1 0), (3, ptr b2 0), (4, ptr b3 0), (5, ptr z.1 0)]) (fun z => [box z.1 [iv v8.1.Size, (sl z.2)], ownF (sl z.2) v8.1.Cells, box b0p [(sl v0a), iv v7.2.1, iv v7.2.2], box b3 [iv v1.1.Size, (sl x1)], ownF (sl x1) v1.1.Cells, box b2 [iv 0, (sl hn)], box b1 [iv 0, (sl hn)]]) ?_ ?_)))))
 refine wcd [box b3 [iv v1.1.Size, (sl x1)], ownF (sl x1) v1.1.Cells, box b2 [iv 0, (sl hn)], box b1 [iv 0, (sl hn)]] 13 mixed (aq (v := .agg #[iv v1.1.Size, (sl x1)]) 0 R (plb tk_26 pz R R R) (zc pk1 (zc pk1 (zc pk1 (zc pk1 zn)))) R (aq 1 R (pom R) (zc pk1 (zc pk1 (zc pk1 (zc pk1 zn)))) R (aq 4 R (pom R) (zc pk1 (zc pk1 (zc pk1 (zc pk1 zn)))) R (wa_2 (i := 2) (j := 10) (by kernel_rfl) ?_ ?_))))
 refine wsc R (co_o1 [box b0p [(sl v0a), iv v2.2.1, iv v2.2.2]] fa_31 (zc pz some_refl) R fun w fp hw => c_spec_l01Below w fp b0p a_c0 v0a ((rdo_arg r0) w fp hw) v2.2.1 v2.2.2 8 hw.ow hv5) (fun _ => (zt (zc pk1 (zc pk1 (zc pk1 (zc pk1 zn)))))) R fun _ => wa_2 (i := 3) (j := 10) (by kernel_rfl) ?_ ?_
 refine wsc R (cz1 fa_46 R fun w hw => c_spec_SeenFrom w v1.1 x1 (Rg.on (rgo pk2) hw) v5.1 hv6) (fun _ => (zt (zc pk2 (zc pk2 (zc pk2 (zc pk2 zn)))))) R fun x6 => wa_2 (i := 5) (j := 10) (by kernel_rfl) ?_ ?_
 refine wsc R (co_o2 [box b0p [(sl v0a), iv v5.2.1, iv v5.2.2]] fa_50 (zc pk1 some_refl) R fun w fp hw => c_spec_l06List w fp b0p a_c0 v0a ((rdo_arg r0) w fp hw) v5.2.1 v5.2.2 hw.ow hv7) (fun _ => (zt (zc pk3 (zc pk3 (zc pk3 (zc pk3 zn)))))) R fun x7 => wa_2 (i := 6) (j := 10) (by kernel_rfl) ?_ ?_
 exact wsc R (cz1 fa_45 R fun w hw => c_spec_ExchangeBlock w v6 x6 (Rg.on (rgo pk2) hw) v7.1 x7 (Rg.on (rgo pz) hw) hv8) (fun _ => (zt (zc pk4 (zc pk4 (zc pk4 (zc pk4 zn)))))) R fun x8 => aq 7 R (pom R) (zc pk4 (zc pk4 (zc pk4 (zc pk4 zn)))) R (aq 8 R (pex R R) (zc pk4 (zc pk4 (zc pk4 (zc pk4 zn)))) R (aq 9 R (pex R R) (zc pk4 (zc pk4 (zc pk4 (zc pk4 zn)))) R (a1 10 (wse R (eal (cs := [iv 0, (sl hn)]) za_26) (fun _ => (zt (zc pk5 (zc pk5 (zc pk5 (zc pk5 zn)))))) R fun b4 => (a1 11 (ws_skipop R (sbx (cs' := [iv v8.1.Size, (sl x8)]) tk_26 pz R R R R R R R) (zt (zc pk5 (zc pk5 (zc pk5 (zc pk5 zn))))) (aq 12 R (po_assign R) (zc pk5 (zc pk5 (zc pk5 (zc pk5 zn)))) R (ae (wqm (b4, x8) trivial (su4 R R R R) (zc pz (zc pz (zc pk1 (zc pk2 (zc pk2 (zc pk2 (zc pk2 zn))))))))))))))))
 exact wse R (eal (cs := [iv 0, (sl hn)]) za_26) (fun _ => (zt (zc pk4 (zc pk4 (zc pk4 (zc pk4 zn)))))) R fun b5 => a1 6 (wsc R (cz1 fa_45 R fun w hw => c_spec_ExchangeBlock w v6 x6 (Rg.on (rgo pk3) hw) v7.1 x7 (Rg.on (rgo pk1) hw) hv8) (fun _ => (zt (zc pk5 (zc pk5 (zc pk5 (zc pk5 zn)))))) R fun x9 => (aq 7 R (pom R) (zc pk5 (zc pk5 (zc pk5 (zc pk5 zn)))) R (aq 8 R (pex R R) (zc pk5 (zc pk5 (zc pk5 (zc pk5 zn)))) R (aq 9 R (pex R R) (zc pk5 (zc pk5 (zc pk5 (zc pk5 zn)))) R (a1 11 (ws_skipop R (sbx (cs' := [iv v8.1.Size, (sl x9)]) tk_26 pk1 R R R R R R R) (zt (zc pk5 (zc pk5 (zc pk5 (zc pk5 zn))))) (aq 12 R (po_assign R) (zc pk5 (zc pk5 (zc pk5 (zc pk5 zn)))) R (ae (wqm (b5, x9) trivial (su4 R R R R) (zc pz (zc pz (zc pk1 (zc pk2 (zc pk2 (zc pk2 (zc pk2 zn))))))))))))))))
 exact wse R (eal (cs := [iv 0, (sl hn)]) za_26) (fun _ => (zt (zc pk3 (zc pk3 (zc pk3 (zc pk3 zn)))))) R fun b6 => a1 5 (wsc R (co_o2 [box b0p [(sl v0a), iv v5.2.1, iv v5.2.2]] fa_50 (zc pk2 some_refl) R fun w fp hw => c_spec_l06List w fp b0p a_c0 v0a ((rdo_arg r0) w fp hw) v5.2.1 v5.2.2 hw.ow hv7) (fun _ => (zt (zc pk4 (zc pk4 (zc pk4 (zc pk4 zn)))))) R fun x10 => (a1 6 (wsc R (cz1 fa_45 R fun w hw => c_spec_ExchangeBlock w v6 x6 (Rg.on (rgo pk3) hw) v7.1 x10 (Rg.on (rgo pz) hw) hv8) (fun _ => (zt (zc pk5 (zc pk5 (zc pk5 (zc pk5 zn)))))) R fun x11 => (aq 7 R (pom R) (zc pk5 (zc pk5 (zc pk5 (zc pk5 zn)))) R (aq 8 R (pex R R) (zc pk5 (zc pk5 (zc pk5 (zc pk5 zn)))) R (aq 9 R (pex R R) (zc pk5 (zc pk5 (zc pk5 (zc pk5 zn)))) R (a1 11 (ws_skipop R (sbx (cs' := [iv v8.1.Size, (sl x11)]) tk_26 pk3 R R R R R R R) (zt (zc pk5 (zc pk5 (zc pk5 (zc pk5 zn))))) (aq 12 R (po_assign R) (zc pk5 (zc pk5 (zc pk5 (zc pk5 zn)))) R (ae (wqm (b6, x11) trivial (su4 R R R R) (zc pz (zc pz (zc pk1 (zc pk2 (zc pk2 (zc pk2 (zc pk2 zn))))))))))))))))))
 exact wse R (eal (cs := [iv 0, (sl hn)]) za_26) (fun _ => (zt (zc pk2 (zc pk2 (zc pk2 (zc pk2 zn)))))) R fun b7 => a1 3 (wsc R (cz1 fa_46 R fun w hw => c_spec_SeenFrom w v1.1 x1 (Rg.on (rgo pk3) hw) v5.1 hv6) (fun _ => (zt (zc pk3 (zc pk3 (zc pk3 (zc pk3 zn)))))) R fun x12 => (a1 5 (wsc R (co_o2 [box b0p [(sl v0a), iv v5.2.1, iv v5.2.2]] fa_50 (zc pk2 some_refl) R fun w fp hw => c_spec_l06List w fp b0p a_c0 v0a ((rdo_arg r0) w fp hw) v5.2.1 v5.2.2 hw.ow hv7) (fun _ => (zt (zc pk4 (zc pk4 (zc pk4 (zc pk4 zn)))))) R fun x13 => (a1 6 (wsc R (cz1 fa_45 R fun w hw => c_spec_ExchangeBlock w v6 x12 (Rg.on (rgo pk2) hw) v7.1 x13 (Rg.on (rgo pz) hw) hv8) (fun _ => (zt (zc pk5 (zc pk5 (zc pk5 (zc pk5 zn)))))) R fun x14 => (aq 7 R (pom R) (zc pk5 (zc pk5 (zc pk5 (zc pk5 zn)))) R (aq 8 R (pex R R) (zc pk5 (zc pk5 (zc pk5 (zc pk5 zn)))) R (aq 9 R (pex R R) (zc pk5 (zc pk5 (zc pk5 (zc pk5 zn)))) R (a1 11 (ws_skipop R (sbx (cs' := [iv v8.1.Size, (sl x14)]) tk_26 pk4 R R R R R R R) (zt (zc pk5 (zc pk5 (zc pk5 (zc pk5 zn))))) (aq 12 R (po_assign R) (zc pk5 (zc pk5 (zc pk5 (zc pk5 zn)))) R (ae (wqm (b7, x14) trivial (su4 R R R R) (zc pz (zc pz (zc pk1 (zc pk2 (zc pk2 (zc pk2 (zc pk2 zn))))))))))))))))))))
 exact wse R (eal (cs := [iv 0, (sl hn)]) za_26) (fun _ => (zt (zc pk2 (zc pk2 (zc pk2 (zc pk2 zn)))))) R fun b8 => a1 2 (wsc R (co_o1 [box b0p [(sl v0a), iv v2.2.1, iv v2.2.2]] fa_31 (zc pk1 some_refl) R fun w fp hw => c_spec_l01Below w fp b0p a_c0 v0a ((rdo_arg r0) w fp hw) v2.2.1 v2.2.2 8 hw.ow hv5) (fun _ => (zt (zc pk2 (zc pk2 (zc pk2 (zc pk2 zn)))))) R fun _ => (a1 3 (wsc R (cz1 fa_46 R fun w hw => c_spec_SeenFrom w v1.1 x1 (Rg.on (rgo pk3) hw) v5.1 hv6) (fun _ => (zt (zc pk3 (zc pk3 (zc pk3 (zc pk3 zn)))))) R fun x15 => (a1 5 (wsc R (co_o2 [box b0p [(sl v0a), iv v5.2.1, iv v5.2.2]] fa_50 (zc pk1 some_refl) R fun w fp hw => c_spec_l06List w fp b0p a_c0 v0a ((rdo_arg r0) w fp hw) v5.2.1 v5.2.2 hw.ow hv7) (fun _ => (zt (zc pk4 (zc pk4 (zc pk4 (zc pk4 zn)))))) R fun x16 => (a1 6 (wsc R (cz1 fa_45 R fun w hw => c_spec_ExchangeBlock w v6 x15 (Rg.on (rgo pk2) hw) v7.1 x16 (Rg.on (rgo pz) hw) hv8) (fun _ => (zt (zc pk5 (zc pk5 (zc pk5 (zc pk5 zn)))))) R fun x17 => (aq 7 R (pom R) (zc pk5 (zc pk5 (zc pk5 (zc pk5 zn)))) R (aq 8 R (pex R R) (zc pk5 (zc pk5 (zc pk5 (zc pk5 zn)))) R (aq 9 R (pex R R) (zc pk5 (zc pk5 (zc pk5 (zc pk5 zn)))) R (a1 11 (ws_skipop R (sbx (cs' := [iv v8.1.Size, (sl x17)]) tk_26 pk4 R R R R R R R) (zt (zc pk5 (zc pk5 (zc pk5 (zc pk5 zn))))) (aq 12 R (po_assign R) (zc pk5 (zc pk5 (zc pk5 (zc pk5 zn)))) R (ae (wqm (b8, x17) trivial (su4 R R R R) (zc pz (zc pz (zc pk1 (zc pk2 (zc pk2 (zc pk2 (zc pk2 zn))))))))))))))))))))))
 intro x18 _
 refine wqt (wcs (wcj (X := Unit) (fun _ => True) (fun _ => [(2, ptr b1 0), (3, ptr b2 0)]) (fun _ => [box b2 [iv v8.1.Size, (sl x18.2)], box b1 [iv v1.1.Size, (sl x1)], ownF (sl x18.2) v8.1.Cells, box b0p [(sl v0a), iv v7.2.1, iv v7.2.2], ownF (sl x1) v1.1.Cells]) ?_ ?_))
 refine wcd [box x18.1 [iv v8.1.Size, (sl x18.2)], ownF (sl x18.2) v8.1.Cells, box b0p [(sl v0a), iv v7.2.1, iv v7.2.2], box b3 [iv v1.1.Size, (sl x1)], ownF (sl x1) v1.1.Cells, box b2 [iv 0, (sl hn)], box b1 [iv 0, (sl hn)]] 2 mixed (aq (v := .agg #[iv v1.1.Size, (sl x1)]) 0 R (plb tk_26 pk3 R R R) so7 R (wa_2 (i := 1) (j := 2) (by kernel_rfl) ?_ ?_))
 refine ws_pure (v := .agg #[iv v8.1.Size, (sl x18.2)]) R (plb tk_26 pz R R R) (zt so7) R (a1 2 (ws_skipop R (sbx (cs' := [iv v1.1.Size, (sl x1)]) tk_26 pk6 R R R R R R R) (sts_past (by kernel_rfl)) ?_))
 refine a1 3 (ws_skipop R (sbx (cs' := [iv v8.1.Size, (sl x18.2)]) tk_26 pk6 R R R R R R R) (sts_past (by kernel_rfl)) ?_)
 exact ae (wqm () trivial (su2 R R) (zc pz (zc pz (zc pk1 (zc pk1 (zc pk2 zn))))))
 refine ws_skipop R (sbx (cs' := [iv v1.1.Size, (sl x1)]) tk_26 pk6 R R R R R R R) (sts_past (by kernel_rfl)) ?_
 refine a1 1 (ws_pure (v := .agg #[iv v8.1.Size, (sl x18.2)]) R (plb tk_26 pk1 R R R) (sts_past (by kernel_rfl)) R ?_)
 refine a1 3 (ws_skipop R (sbx (cs' := [iv v8.1.Size, (sl x18.2)]) tk_26 pk6 R R R R R R R) (sts_past (by kernel_rfl)) ?_)
 exact ae (wqm () trivial (su2 R R) (zc pz (zc pz (zc pk1 (zc pk1 (zc pk2 zn))))))
 intro _ _
 refine wqt (wct (wbr (wqr ?_)))
 obtain rfl := oi t0
 exact wq_retcc R tk_26 tk_26 R R pk1 pz R R fun w hw => ⟨(x1, x18.2), R, hw.weak (zc pk4 (zc pk2 (zc pk2 zn)))⟩
 refine wcr (wlq (pol R R) R (asg R R (wnt (wcO t0 R (fun h3 t0 => ?_) fun h3 t0 => ?_))))
 refine wcr (wlq (v := .agg #[iv v1.1.Size, (sl x1)]) (plb tk_26 pk1 R R R) R (bdO t0 fun v9 hv9 t0 => (wlc (cz1 fa_51 R fun w hw => c_spec_l03Copy w v1.1 x1 (Rg.on (rgo pk2) hw) hv9) R fun x20 => (wle (eal (cs := [iv 0, (sl hn)]) za_26) R fun b9 => (wls (sbx (cs' := [iv v9.Size, (sl x20)]) tk_26 pz R R R R R R R) (wnt (wcs (wcr (asg R R (wnt (gdO t0 fun g1 t0 => (wc_hl (rgo pk1) fun hl1 => (lpO_inv t0 fun y1 l1 t0 => (wj (J := (List GCell) × Int × Int) (X := Unit) (fun z => y1 = z) (fun _ _ => [(2, ptr b1 0), (3, ptr b2 0), (4, ptr b3 0), (7, ptr b9 0)]) (fun z _ => [box b9 [iv v9.Size, (sl x20)], ownF (sl x20) z.1, box b0p [(sl v0a), iv z.2.1, iv z.2.2], box b3 [iv v1.1.Size, (sl x1)], ownF (sl x1) v1.1.Cells, box b2 [iv 0, (sl hn)], box b1 [iv 0, (sl hn)]]) ?_ ?_))))))))))))))
 refine wcb (wcf (X := Unit) l1 (fun k1 s1 x1l => [(0, ptr b0p 0), (2, ptr b1 0), (3, ptr b2 0), (4, ptr b3 0), (7, ptr b9 0), (8, iv ((k1 : Nat) : Int))]) (fun k1 s1 x1l => [box b9 [iv v9.Size, (sl x20)], ownF (sl x20) s1.1, box b0p [(sl v0a), iv s1.2.1, iv s1.2.2], box b3 [iv v1.1.Size, (sl x1)], ownF (sl x1) v1.1.Cells, box b2 [iv 0, (sl hn)], box b1 [iv 0, (sl hn)]]) () (su6 R R R R R R) so7 fun k1 s1 x1l hN1 l1 => (wc_hl (rgo pk1) fun hl2 => ?_))
 by_cases hk1 : k1 < v9.Cells.length
 refine fos l1 hk1 fun _ t1 l1 => ?_
 unfold spec_l29Pair_L1 at t1
 have c1 : (decide (((k1 : Nat) : Int) < ((s1.1.length : Nat) : Int))) = true := ddt (by omega)
 have hq1 : k1 < s1.1.length := by omega
 refine wcs (wcr (mv R R (wlq (pof fo_26_1 R) R (wlq (v := (sl x20)) (plx tk_24 pz R R) R (wlq (pln (rgo pk1) el_24 R) R (wlq (pls R R) R (wnt (wft R c1 (wck (wqt (wcs (wcb (wcr (mv R R (bdO t1 fun v10 hv10 t1 => (wlc (co_o1 [box b0p [(sl v0a), iv s1.2.1, iv s1.2.2]] fa_44 (zc pk2 some_refl) R fun w fp hw => c_spec_l01Once w fp b0p a_c0 v0a ((rdo_arg r0) w fp hw) s1.2.1 s1.2.2 2 hw.ow hv10) R fun _ => (wnt (bdO t1 fun y2 t2 t1 => (wj (J := Gl01Cur × (List GCell)) (X := Unit) (fun z => y2 = z) (fun _ _ => [(0, ptr b0p 0), (2, ptr b1 0), (3, ptr b2 0), (4, ptr b3 0), (7, ptr b9 0), (8, iv ((k1 : Nat) : Int))]) (fun z _ => [box b0p [(sl v0a), iv ((z.1).i), iv ((z.1).h)], box b9 [iv v9.Size, (sl x20)], box b3 [iv v1.1.Size, (sl x1)], box b2 [iv 0, (sl hn)], box b1 [iv 0, (sl hn)], ownF (sl x20) z.2, ownF (sl x1) v1.1.Cells]) ?_ ?_)))))))))))))))))))
 refine wcO t2 R (fun h4 t2 => ?_) fun h4 t2 => ?_
 exact wcr (mv R R (bdO t2 fun v11 hv11 t2 => (wlc (co_o1 [box b0p [(sl v0a), iv v10.2.1, iv v10.2.2]] fa_43 (zc pz some_refl) R fun w fp hw => c_spec_l02Cell w fp b0p a_c0 v0a ((rdo_arg r0) w fp hw) v10.2.1 v10.2.2 hw.ow hv11) R fun _ => (wle (eal (cs := [iv 0, iv 0, iv 0]) za_55) R fun b10 => (wls (sbx (cs' := [iv v11.1.Split, iv v11.1.A, iv v11.1.B]) tk_55 pz R R R R R R R) (wnt (wcg (wlq (pof fo_26_1 R) R (wlq (v := (sl x20)) (plx tk_24 pk2 R R) R (mv R R (wlq (v := .agg #[iv v11.1.Split, iv v11.1.A, iv v11.1.B]) (plb tk_55 pz R R R) R (wlq (po_ixn (k := k1) (rgo pk3) el_24 R R hq1) R (wls (so_own (x' := v11.1) tk_55 pk3 R R R R R R hq1 R) (wln (wjm _ () (mtE t2) (su6 R R R R R R) (zc pk2 (zc pk2 (zc pk2 (zc pk3 (zc pk3 (zc pz (zc pk1 zn))))))))))))))))))))))
 exact wck (wjm _ () (mtE t2) (su6 R R R R R R) (zc pz (zc pz (zc pk1 (zc pk2 (zc pk2 so2))))))
 intro j1 _ hp
 obtain rfl : j1 = y2 := hp.symm
 refine wqb (wqt (wcg (mv R R (wlq (po_inc R R (by omega)) R ?_))))
 exact asg R R (wln (wq_rnd hk1 (stpN l1 t1) () (su6 R R R R R R) (zc pk1 (zc pk4 (zc pz (zc pz (zc pk2 so2)))))))
 have c1 : (decide (((k1 : Nat) : Int) < ((s1.1.length : Nat) : Int))) = false := ddf (by omega)
 have en1 := foe l1 hk1
 exact wcs (wcr (mv R R (wlq (pof fo_26_1 R) R (wlq (v := (sl x20)) (plx tk_24 pz R R) R (wlq (pln (rgo pk1) el_24 R) R (wlq (pls R R) R (wnt (wff R c1 (wcx (wqe (wqe (wbx (wjm _ () (Sum.inl.inj en1) (su4 R R R R) so7)))))))))))))
 intro e1 _ hp
 obtain rfl : e1 = y1 := hp.symm
 refine wqt (wcs (wcj (X := Unit) (fun _ => True) (fun _ => [(2, ptr b1 0), (3, ptr b2 0)]) (fun _ => [box b2 [iv v9.Size, (sl x20)], box b1 [iv v1.1.Size, (sl x1)], ownF (sl x20) e1.1, box b0p [(sl v0a), iv e1.2.1, iv e1.2.2], ownF (sl x1) v1.1.Cells]) ?_ ?_))
 refine wcd [box b9 [iv v9.Size, (sl x20)], ownF (sl x20) e1.1, box b0p [(sl v0a), iv e1.2.1, iv e1.2.2], box b3 [iv v1.1.Size, (sl x1)], ownF (sl x1) v1.1.Cells, box b2 [iv 0, (sl hn)], box b1 [iv 0, (sl hn)]] 2 mixed (aq (v := .agg #[iv v1.1.Size, (sl x1)]) 0 R (plb tk_26 pk3 R R R) so7 R (wa_2 (i := 1) (j := 2) (by kernel_rfl) ?_ ?_))
 refine ws_pure (v := .agg #[iv v9.Size, (sl x20)]) R (plb tk_26 pz R R R) (zt so7) R (a1 2 (ws_skipop R (sbx (cs' := [iv v1.1.Size, (sl x1)]) tk_26 pk6 R R R R R R R) (sts_past (by kernel_rfl)) ?_))
 refine a1 3 (ws_skipop R (sbx (cs' := [iv v9.Size, (sl x20)]) tk_26 pk6 R R R R R R R) (sts_past (by kernel_rfl)) ?_)
 exact ae (wqm () trivial (su2 R R) (zc pz (zc pz (zc pk1 (zc pk1 (zc pk2 zn))))))
 refine ws_skipop R (sbx (cs' := [iv v1.1.Size, (sl x1)]) tk_26 pk6 R R R R R R R) (sts_past (by kernel_rfl)) ?_
 refine a1 1 (ws_pure (v := .agg #[iv v9.Size, (sl x20)]) R (plb tk_26 pk1 R R R) (sts_past (by kernel_rfl)) R ?_)
 refine a1 3 (ws_skipop R (sbx (cs' := [iv v9.Size, (sl x20)]) tk_26 pk6 R R R R R R R) (sts_past (by kernel_rfl)) ?_)
 exact ae (wqm () trivial (su2 R R) (zc pz (zc pz (zc pk1 (zc pk1 (zc pk2 zn))))))
 intro _ _
 refine wqt (wct (wbr (wqr ?_)))
 obtain rfl := oi t0
 exact wq_retcc R tk_26 tk_26 R R pk1 pz R R fun w hw => ⟨(x1, x20), R, hw.weak (zc pk4 (zc pk2 (zc pk2 zn)))⟩
 refine wck (wqb (wqt (wcs (wcd [box b3 [iv v1.1.Size, (sl x1)], ownF (sl x1) v1.1.Cells, box b2 [iv 0, (sl hn)], box b1 [iv 0, (sl hn)]] 3 mixed (aq (v := .agg #[iv v1.1.Size, (sl x1)]) 0 R (plb tk_26 pz R R R) (zc pk1 (zc pk1 (zc pk1 (zc pk1 zn)))) R (a1 1 (ws_pure R (pom R) (zt (zc pk1 (zc pk1 (zc pk1 (zc pk1 zn))))) R (a1 2 (bdO t0 fun v12 hv12 t0 => (wsc R (co_o2 [box b0p [(sl v0a), iv v2.2.1, iv v2.2.2]] fa_49 (zc pz some_refl) R fun w fp hw => c_spec_l03Any w fp b0p a_c0 v0a ((rdo_arg r0) w fp hw) v2.2.1 v2.2.2 hw.ow hv12) (fun _ => (zt (zc pk2 (zc pk2 (zc pk2 (zc pk2 zn)))))) R fun x24 => (a1 3 (ws_skipop R (sbx (cs' := [iv v1.1.Size, (sl x1)]) tk_26 pk5 R R R R R R R) (sts_past (by kernel_rfl)) ?_))))))))))))
 refine a1 4 (ws_skipop R (sbx (cs' := [iv v12.1.Size, (sl x24)]) tk_26 pk5 R R R R R R R) (sts_past (by kernel_rfl)) ?_)
 refine ae (wqt (wct ?_))
 obtain rfl := oi t0
 exact wq_retcc R tk_26 tk_26 R R pk1 pz R R fun w hw => ⟨(x1, x24), R, hw.weak (zc pk5 (zc pk2 (zc pk2 zn)))⟩

theorem c_spec_l30Pair (w : World) (fp : List Nat) (b0p : Nat) (a_c0 : List UInt8) (v0a : Hd) (r0 : rdF w (dm w fp) (sl v0a) a_c0) (a_c1 : Int) (a_c2 : Int) (o : Ow w [box b0p [(sl v0a), .int .i64 a_c1, .int .i64 a_c2]] fp) {r : GEntry × GEntry × Int × Int} (t0 : spec_l30Pair a_c0 a_c1 a_c2 = some r) : Calls Tryz.prog 15 #[ptr b0p 0] w fun e w' => ∃ x : Hd × Hd, e = .returned (.tuple #[.agg #[.int .i64 r.1.Owner, .int .i64 r.1.Day, .int .i64 r.1.Block.Size, (sl x.1)], .agg #[.int .i64 r.2.1.Owner, .int .i64 r.2.1.Day, .int .i64 r.2.1.Block.Size, (sl x.2)]]) ∧ SH w fp [ownF (sl x.1) r.1.Block.Cells, ownF (sl x.2) r.2.1.Block.Cells, box b0p [(sl v0a), .int .i64 r.2.2.1, .int .i64 r.2.2.2]] w' := by
 refine calls_of_wc_own (args := [_]) o Tryz.func15 R Tryz.ntmps15 R ?_
 unfold spec_l30Pair at t0
 refine wcr (wle (eal (cs := [iv 0, iv 0, iv 0, (sl hn)]) za_28) R fun b1 => (wle (eal (cs := [iv 0, iv 0, iv 0, (sl hn)]) za_28) R fun b2 => (wnt (wcr (mv R R (bdO t0 fun v1 hv1 t0 => (wlc (co_o3 [box b0p [(sl v0a), iv a_c1, iv a_c2]] fa_30 (zc pk2 some_refl) R fun w fp hw => c_spec_l29Pair w fp b0p a_c0 v0a ((rdo_arg r0) w fp hw) a_c1 a_c2 hw.ow hv1) R fun x1 => (mv R R (wlq (pex R R) R (wlq (pex R R) R (wle (eal (cs := [iv 0, (sl hn)]) za_26) R fun b3 => (wle (eal (cs := [iv 0, (sl hn)]) za_26) R fun b4 => (wls (sbx (cs' := [iv v1.1.Size, (sl x1.1)]) tk_26 pk1 R R R R R R R) (wls (sbx (cs' := [iv v1.2.1.Size, (sl x1.2)]) tk_26 pk1 R R R R R R R) (wnt (wcs (bdO t0 fun v2 hv2 t0 => (bdO t0 fun v3 hv3 t0 => (wcj (X := Nat) (fun _ => True) (fun z => [(0, ptr b0p 0), (2, ptr b1 0), (3, ptr b2 0), (5, ptr b4 0), (6, ptr z 0)]) (fun z => [box z [iv v2.1, iv v3.1, iv v1.1.Size, (sl x1.1)], box b0p [(sl v0a), iv v3.2.1, iv v3.2.2], box b4 [iv v1.2.1.Size, (sl x1.2)], ownF (sl x1.1) v1.1.Cells, ownF (sl x1.2) v1.2.1.Cells, box b2 [iv 0, iv 0, iv 0, (sl hn)], box b1 [iv 0, iv 0, iv 0, (sl hn)]]) ?_ ?_)))))))))))))))))))
 refine wcd [box b4 [iv v1.2.1.Size, (sl x1.2)], box b3 [iv v1.1.Size, (sl x1.1)], ownF (sl x1.1) v1.1.Cells, ownF (sl x1.2) v1.2.1.Cells, box b2 [iv 0, iv 0, iv 0, (sl hn)], box b1 [iv 0, iv 0, iv 0, (sl hn)]] 7 mixed (aq 0 R (pom R) (zc pz (zc pz (zc pz (zc pz (zc pk1 (zc pk1 zn)))))) R (aq 2 R (pom R) (zc pz (zc pz (zc pz (zc pz (zc pk1 (zc pk1 zn)))))) R (aq (v := .agg #[iv v1.1.Size, (sl x1.1)]) 4 R (plb tk_26 pk1 R R R) (zc pz (zc pz (zc pz (zc pz (zc pk1 (zc pk1 zn)))))) R (wa_2 (i := 1) (j := 6) (by kernel_rfl) ?_ ?_))))
 refine wsc R (co_o1 [box b0p [(sl v0a), iv v1.2.2.1, iv v1.2.2.2]] fa_31 (zc pk4 some_refl) R fun w fp hw => c_spec_l01Below w fp b0p a_c0 v0a ((rdo_arg r0) w fp hw) v1.2.2.1 v1.2.2.2 4 hw.ow hv2) (fun _ => (zt (zc pk1 (zc pk1 (zc pk1 (zc pk1 (zc pk1 (zc pk1 zn)))))))) R fun _ => wa_2 (i := 3) (j := 6) (by kernel_rfl) ?_ ?_
 refine wsc R (co_o1 [box b0p [(sl v0a), iv v2.2.1, iv v2.2.2]] fa_31 (zc pz some_refl) R fun w fp hw => c_spec_l01Below w fp b0p a_c0 v0a ((rdo_arg r0) w fp hw) v2.2.1 v2.2.2 50 hw.ow hv3) (fun _ => (zt (zc pk1 (zc pk1 (zc pk1 (zc pk1 (zc pk1 (zc pk1 zn)))))))) R fun _ => aq 5 R (po_build R (bd_28_0_1_2 v2.1 v3.1 v1.1.Size x1.1)) (zc pk1 (zc pk1 (zc pk1 (zc pk1 (zc pk1 (zc pk1 zn)))))) R (a1 6 (wse R (eal (cs := [iv 0, iv 0, iv 0, (sl hn)]) za_28) (fun _ => (zt (zc pk2 (zc pk2 (zc pk2 (zc pk2 (zc pk2 (zc pk2 zn)))))))) R fun b5 => (a1 7 (ws_skipop R (sbx (cs' := [iv v2.1, iv v3.1, iv v1.1.Size, (sl x1.1)]) tk_28 pz R R R R R R R) (sts_past (by kernel_rfl)) ?_))))
 exact ae (wqm b5 trivial (su5 R R R R R) (zc pz (zc pz (zc pz (zc pk1 (zc pk1 (zc pk1 (zc pk1 zn))))))))
 refine wse R (eal (cs := [iv 0, iv 0, iv 0, (sl hn)]) za_28) (fun _ => (zt (zc pk2 (zc pk2 (zc pk2 (zc pk2 (zc pk2 (zc pk2 zn)))))))) R fun b6 => a1 3 (wsc R (co_o1 [box b0p [(sl v0a), iv v2.2.1, iv v2.2.2]] fa_31 (zc pk1 some_refl) R fun w fp hw => c_spec_l01Below w fp b0p a_c0 v0a ((rdo_arg r0) w fp hw) v2.2.1 v2.2.2 50 hw.ow hv3) (fun _ => (zt (zc pk2 (zc pk2 (zc pk2 (zc pk2 (zc pk2 (zc pk2 zn)))))))) R fun _ => (aq 5 R (po_build R (bd_28_0_1_2 v2.1 v3.1 v1.1.Size x1.1)) (zc pk2 (zc pk2 (zc pk2 (zc pk2 (zc pk2 (zc pk2 zn)))))) R (a1 7 (ws_skipop R (sbx (cs' := [iv v2.1, iv v3.1, iv v1.1.Size, (sl x1.1)]) tk_28 pk1 R R R R R R R) (sts_past (by kernel_rfl)) ?_))))
 exact ae (wqm b6 trivial (su5 R R R R R) (zc pz (zc pz (zc pz (zc pk1 (zc pk1 (zc pk1 (zc pk1 zn))))))))
 refine wse R (eal (cs := [iv 0, iv 0, iv 0, (sl hn)]) za_28) (fun _ => (zt (zc pk1 (zc pk1 (zc pk1 (zc pk1 (zc pk2 (zc pk2 zn)))))))) R fun b7 => a1 1 (wsc R (co_o1 [box b0p [(sl v0a), iv v1.2.2.1, iv v1.2.2.2]] fa_31 (zc pk5 some_refl) R fun w fp hw => c_spec_l01Below w fp b0p a_c0 v0a ((rdo_arg r0) w fp hw) v1.2.2.1 v1.2.2.2 4 hw.ow hv2) (fun _ => (zt (zc pk2 (zc pk2 (zc pk2 (zc pk2 (zc pk2 (zc pk2 zn)))))))) R fun _ => (a1 3 (wsc R (co_o1 [box b0p [(sl v0a), iv v2.2.1, iv v2.2.2]] fa_31 (zc pz some_refl) R fun w fp hw => c_spec_l01Below w fp b0p a_c0 v0a ((rdo_arg r0) w fp hw) v2.2.1 v2.2.2 50 hw.ow hv3) (fun _ => (zt (zc pk2 (zc pk2 (zc pk2 (zc pk2 (zc pk2 (zc pk2 zn)))))))) R fun _ => (aq 5 R (po_build R (bd_28_0_1_2 v2.1 v3.1 v1.1.Size x1.1)) (zc pk2 (zc pk2 (zc pk2 (zc pk2 (zc pk2 (zc pk2 zn)))))) R (a1 7 (ws_skipop R (sbx (cs' := [iv v2.1, iv v3.1, iv v1.1.Size, (sl x1.1)]) tk_28 pk1 R R R R R R R) (sts_past (by kernel_rfl)) ?_))))))
 exact ae (wqm b7 trivial (su5 R R R R R) (zc pz (zc pz (zc pz (zc pk1 (zc pk1 (zc pk1 (zc pk1 zn))))))))
 intro x2 _
 refine wqt (wcs (bdO t0 fun v4 hv4 t0 => (bdO t0 fun v5 hv5 t0 => (wcj (X := Nat) (fun _ => True) (fun z => [(0, ptr b0p 0), (2, ptr b1 0), (3, ptr b2 0), (6, ptr x2 0), (7, ptr z 0)]) (fun z => [box z [iv v4.1, iv v5.1, iv v1.2.1.Size, (sl x1.2)], box b0p [(sl v0a), iv v5.2.1, iv v5.2.2], box x2 [iv v2.1, iv v3.1, iv v1.1.Size, (sl x1.1)], ownF (sl x1.1) v1.1.Cells, ownF (sl x1.2) v1.2.1.Cells, box b2 [iv 0, iv 0, iv 0, (sl hn)], box b1 [iv 0, iv 0, iv 0, (sl hn)]]) ?_ ?_))))
 refine wcd [box x2 [iv v2.1, iv v3.1, iv v1.1.Size, (sl x1.1)], box b4 [iv v1.2.1.Size, (sl x1.2)], ownF (sl x1.1) v1.1.Cells, ownF (sl x1.2) v1.2.1.Cells, box b2 [iv 0, iv 0, iv 0, (sl hn)], box b1 [iv 0, iv 0, iv 0, (sl hn)]] 7 mixed (aq 0 R (pom R) (zc pz (zc pk1 (zc pk1 (zc pk1 (zc pk1 (zc pk1 zn)))))) R (aq 2 R (pom R) (zc pz (zc pk1 (zc pk1 (zc pk1 (zc pk1 (zc pk1 zn)))))) R (aq (v := .agg #[iv v1.2.1.Size, (sl x1.2)]) 4 R (plb tk_26 pk1 R R R) (zc pz (zc pk1 (zc pk1 (zc pk1 (zc pk1 (zc pk1 zn)))))) R (wa_2 (i := 1) (j := 6) (by kernel_rfl) ?_ ?_))))
 refine wsc R (co_o1 [box b0p [(sl v0a), iv v3.2.1, iv v3.2.2]] fa_31 (zc pk1 some_refl) R fun w fp hw => c_spec_l01Below w fp b0p a_c0 v0a ((rdo_arg r0) w fp hw) v3.2.1 v3.2.2 4 hw.ow hv4) (fun _ => (zt (zc pk1 (zc pk1 (zc pk1 (zc pk1 (zc pk1 (zc pk1 zn)))))))) R fun _ => wa_2 (i := 3) (j := 6) (by kernel_rfl) ?_ ?_
 refine wsc R (co_o1 [box b0p [(sl v0a), iv v4.2.1, iv v4.2.2]] fa_31 (zc pz some_refl) R fun w fp hw => c_spec_l01Below w fp b0p a_c0 v0a ((rdo_arg r0) w fp hw) v4.2.1 v4.2.2 50 hw.ow hv5) (fun _ => (zt (zc pk1 (zc pk1 (zc pk1 (zc pk1 (zc pk1 (zc pk1 zn)))))))) R fun _ => aq 5 R (po_build R (bd_28_0_1_2 v4.1 v5.1 v1.2.1.Size x1.2)) (zc pk1 (zc pk1 (zc pk1 (zc pk1 (zc pk1 (zc pk1 zn)))))) R (a1 6 (wse R (eal (cs := [iv 0, iv 0, iv 0, (sl hn)]) za_28) (fun _ => (zt (zc pk2 (zc pk2 (zc pk2 (zc pk2 (zc pk2 (zc pk2 zn)))))))) R fun b8 => (a1 7 (ws_skipop R (sbx (cs' := [iv v4.1, iv v5.1, iv v1.2.1.Size, (sl x1.2)]) tk_28 pz R R R R R R R) (sts_past (by kernel_rfl)) ?_))))
 exact ae (wqm b8 trivial (su5 R R R R R) (zc pz (zc pz (zc pz (zc pk1 (zc pk1 (zc pk1 (zc pk1 zn))))))))
 refine wse R (eal (cs := [iv 0, iv 0, iv 0, (sl hn)]) za_28) (fun _ => (zt (zc pk2 (zc pk2 (zc pk2 (zc pk2 (zc pk2 (zc pk2 zn)))))))) R fun b9 => a1 3 (wsc R (co_o1 [box b0p [(sl v0a), iv v4.2.1, iv v4.2.2]] fa_31 (zc pk1 some_refl) R fun w fp hw => c_spec_l01Below w fp b0p a_c0 v0a ((rdo_arg r0) w fp hw) v4.2.1 v4.2.2 50 hw.ow hv5) (fun _ => (zt (zc pk2 (zc pk2 (zc pk2 (zc pk2 (zc pk2 (zc pk2 zn)))))))) R fun _ => (aq 5 R (po_build R (bd_28_0_1_2 v4.1 v5.1 v1.2.1.Size x1.2)) (zc pk2 (zc pk2 (zc pk2 (zc pk2 (zc pk2 (zc pk2 zn)))))) R (a1 7 (ws_skipop R (sbx (cs' := [iv v4.1, iv v5.1, iv v1.2.1.Size, (sl x1.2)]) tk_28 pk1 R R R R R R R) (sts_past (by kernel_rfl)) ?_))))
 exact ae (wqm b9 trivial (su5 R R R R R) (zc pz (zc pz (zc pz (zc pk1 (zc pk1 (zc pk1 (zc pk1 zn))))))))
 refine wse R (eal (cs := [iv 0, iv 0, iv 0, (sl hn)]) za_28) (fun _ => (zt (zc pk1 (zc pk2 (zc pk2 (zc pk2 (zc pk2 (zc pk2 zn)))))))) R fun b10 => a1 1 (wsc R (co_o1 [box b0p [(sl v0a), iv v3.2.1, iv v3.2.2]] fa_31 (zc pk2 some_refl) R fun w fp hw => c_spec_l01Below w fp b0p a_c0 v0a ((rdo_arg r0) w fp hw) v3.2.1 v3.2.2 4 hw.ow hv4) (fun _ => (zt (zc pk2 (zc pk2 (zc pk2 (zc pk2 (zc pk2 (zc pk2 zn)))))))) R fun _ => (a1 3 (wsc R (co_o1 [box b0p [(sl v0a), iv v4.2.1, iv v4.2.2]] fa_31 (zc pz some_refl) R fun w fp hw => c_spec_l01Below w fp b0p a_c0 v0a ((rdo_arg r0) w fp hw) v4.2.1 v4.2.2 50 hw.ow hv5) (fun _ => (zt (zc pk2 (zc pk2 (zc pk2 (zc pk2 (zc pk2 (zc pk2 zn)))))))) R fun _ => (aq 5 R (po_build R (bd_28_0_1_2 v4.1 v5.1 v1.2.1.Size x1.2)) (zc pk2 (zc pk2 (zc pk2 (zc pk2 (zc pk2 (zc pk2 zn)))))) R (a1 7 (ws_skipop R (sbx (cs' := [iv v4.1, iv v5.1, iv v1.2.1.Size, (sl x1.2)]) tk_28 pk1 R R R R R R R) (sts_past (by kernel_rfl)) ?_))))))
 exact ae (wqm b10 trivial (su5 R R R R R) (zc pz (zc pz (zc pz (zc pk1 (zc pk1 (zc pk1 (zc pk1 zn))))))))
 intro x3 _
 refine wqt (wcs (wcr (mv R R (bdO t0 fun v6 hv6 t0 => (wlc (co_o1 [box b0p [(sl v0a), iv v5.2.1, iv v5.2.2]] fa_31 (zc pk1 some_refl) R fun w fp hw => c_spec_l01Below w fp b0p a_c0 v0a ((rdo_arg r0) w fp hw) v5.2.1 v5.2.2 12 hw.ow hv6) R fun _ => (wnt (wcb (wcr (wlq (pol R R) R (asg R R (wnt (bdO t0 fun y1 t1 t0 => (wj (J := Int × Gl01Cur × Int) (X := Unit) (fun z => y1 = z) (fun _ _ => [(2, ptr b1 0), (3, ptr b2 0), (6, ptr x2 0), (7, ptr x3 0)]) (fun z _ => [box x2 [iv z.1, iv v3.1, iv v1.1.Size, (sl x1.1)], box b0p [(sl v0a), iv ((z.2.1).i), iv ((z.2.1).h)], box x3 [iv v4.1, iv z.2.2, iv v1.2.1.Size, (sl x1.2)], box b2 [iv 0, iv 0, iv 0, (sl hn)], box b1 [iv 0, iv 0, iv 0, (sl hn)], ownF (sl x1.1) v1.1.Cells, ownF (sl x1.2) v1.2.1.Cells]) ?_ ?_)))))))))))))
 refine wcO t1 R (fun h1 t1 => ?_) fun h1 t1 => ?_
 refine wcg (mv R R (wle (ebs R (sb_38_3 (-1) 99 100)) R fun b11 => (bdO t1 fun v7 hv7 t1 => (wlc (co_o1 [box b0p [(sl v0a), iv v6.2.1, iv v6.2.2]] fa_32 (zc pk1 some_refl) R fun w fp hw => c_spec_l01PickInt w fp b0p a_c0 v0a ((rdo_arg r0) w fp hw) v6.2.1 v6.2.2 ([(-1), 99, 100] : List Int) (⟨some ⟨b11, 0, none⟩, 3, 3⟩ : Hd) ((rdo_own (pbo pz (n := 3) (xs := ([(-1), 99, 100] : List Int)) R R (by unfold maxLen; omega))) w fp hw) hw.ow hv7) R fun _ => ?_))))
 exact wlq (pof fo_28_0 R) R (wls (sbx (cs' := [iv v7.1, iv v3.1, iv v1.1.Size, (sl x1.1)]) tk_3 pk3 R R R R R R R) (wln (wjm _ () (mtE t1) (su4 R R R R) (zc pz (zc pz (zc pk1 (zc pk3 (zc pk3 (zc pk1 (zc pk1 zn))))))))))
 refine wcr (wlq (pol R R) R (asg R R (wnt (wcO t1 R (fun h2 t1 => ?_) fun h2 t1 => ?_))))
 refine wcg (mv R R (wle (ebs R (sb_38_3 (-1) 9999 10000)) R fun b12 => (bdO t1 fun v8 hv8 t1 => (wlc (co_o1 [box b0p [(sl v0a), iv v6.2.1, iv v6.2.2]] fa_32 (zc pk1 some_refl) R fun w fp hw => c_spec_l01PickInt w fp b0p a_c0 v0a ((rdo_arg r0) w fp hw) v6.2.1 v6.2.2 ([(-1), 9999, 10000] : List Int) (⟨some ⟨b12, 0, none⟩, 3, 3⟩ : Hd) ((rdo_own (pbo pz (n := 3) (xs := ([(-1), 9999, 10000] : List Int)) R R (by unfold maxLen; omega))) w fp hw) hw.ow hv8) R fun _ => ?_))))
 exact wlq (pof fo_28_1 R) R (wls (sbx (cs' := [iv v4.1, iv v8.1, iv v1.2.1.Size, (sl x1.2)]) tk_3 pk2 R R R R R R R) (wln (wjm _ () (mtE t1) (su4 R R R R) (zc pk3 (zc pk1 (zc pz (zc pk3 (zc pk3 (zc pk1 (zc pk1 zn))))))))))
 exact wck (wjm _ () (mtE t1) (su4 R R R R) (zc pk2 (zc pz (zc pz (zc pk2 (zc pk2 so2))))))
 intro j1 _ hp
 obtain rfl : j1 = y1 := hp.symm
 refine wqb (wqt (wcs (wcj (X := Unit) (fun _ => True) (fun _ => [(2, ptr b1 0), (3, ptr b2 0)]) (fun _ => [box b2 [iv v4.1, iv j1.2.2, iv v1.2.1.Size, (sl x1.2)], box b1 [iv j1.1, iv v3.1, iv v1.1.Size, (sl x1.1)], box b0p [(sl v0a), iv ((j1.2.1).i), iv ((j1.2.1).h)], ownF (sl x1.1) v1.1.Cells, ownF (sl x1.2) v1.2.1.Cells]) ?_ ?_)))
 refine wcd [box x2 [iv j1.1, iv v3.1, iv v1.1.Size, (sl x1.1)], box b0p [(sl v0a), iv ((j1.2.1).i), iv ((j1.2.1).h)], box x3 [iv v4.1, iv j1.2.2, iv v1.2.1.Size, (sl x1.2)], box b2 [iv 0, iv 0, iv 0, (sl hn)], box b1 [iv 0, iv 0, iv 0, (sl hn)], ownF (sl x1.1) v1.1.Cells, ownF (sl x1.2) v1.2.1.Cells] 2 mixed (aq (v := .agg #[iv j1.1, iv v3.1, iv v1.1.Size, (sl x1.1)]) 0 R (plb tk_28 pz R R R) so7 R (wa_2 (i := 1) (j := 2) (by kernel_rfl) ?_ ?_))
 refine ws_pure (v := .agg #[iv v4.1, iv j1.2.2, iv v1.2.1.Size, (sl x1.2)]) R (plb tk_28 pk2 R R R) (zt so7) R (a1 2 (ws_skipop R (sbx (cs' := [iv j1.1, iv v3.1, iv v1.1.Size, (sl x1.1)]) tk_28 pk4 R R R R R R R) (sts_past (by kernel_rfl)) ?_))
 refine a1 3 (ws_skipop R (sbx (cs' := [iv v4.1, iv j1.2.2, iv v1.2.1.Size, (sl x1.2)]) tk_28 pk4 R R R R R R R) (sts_past (by kernel_rfl)) ?_)
 exact ae (wqm () trivial (su2 R R) (zc pz (zc pz (zc pk1 (zc pk2 (zc pk2 zn))))))
 refine ws_skipop R (sbx (cs' := [iv j1.1, iv v3.1, iv v1.1.Size, (sl x1.1)]) tk_28 pk4 R R R R R R R) (sts_past (by kernel_rfl)) ?_
 refine a1 1 (ws_pure (v := .agg #[iv v4.1, iv j1.2.2, iv v1.2.1.Size, (sl x1.2)]) R (plb tk_28 pk3 R R R) (sts_past (by kernel_rfl)) R ?_)
 refine a1 3 (ws_skipop R (sbx (cs' := [iv v4.1, iv j1.2.2, iv v1.2.1.Size, (sl x1.2)]) tk_28 pk4 R R R R R R R) (sts_past (by kernel_rfl)) ?_)
 exact ae (wqm () trivial (su2 R R) (zc pz (zc pz (zc pk1 (zc pk2 (zc pk2 zn))))))
 intro _ _
 refine wqt (wct ?_)
 obtain rfl := oi t0
 exact wq_retcc R tk_28 tk_28 R R pk1 pz R R fun w hw => ⟨(x1.1, x1.2), R, hw.weak (zc pk3 (zc pk3 (zc pk2 zn)))⟩

theorem c_spec_DrawVerdictOn (w : World) (a_code : List UInt8) (v0a : Hd) (r0 : rdF w (dm w []) (sl v0a) a_code) {r : GEntry × GEntry} (t0 : spec_DrawVerdictOn a_code = some r) : Calls Tryz.prog 5 #[(sl v0a)] w fun e w' => ∃ x : Hd × Hd, e = .returned (.tuple #[.agg #[.int .i64 r.1.Owner, .int .i64 r.1.Day, .int .i64 r.1.Block.Size, (sl x.1)], .agg #[.int .i64 r.2.Owner, .int .i64 r.2.Day, .int .i64 r.2.Block.Size, (sl x.2)]]) ∧ SH w [] [ownF (sl x.1) r.1.Block.Cells, ownF (sl x.2) r.2.Block.Cells] w' := by
 refine cwc (args := [_]) Tryz.func5 R Tryz.ntmps5 R ?_
 unfold spec_DrawVerdictOn at t0
 refine wcr (wle (eal (cs := [iv 0, iv 0, iv 0, (sl hn)]) za_28) R fun b1 => (wle (eal (cs := [iv 0, iv 0, iv 0, (sl hn)]) za_28) R fun b2 => (wnt (wcr (mv R R (bdO t0 fun v1 hv1 t0 => (wlc (cz1 fa_16 R fun w hw => c_spec_l01New w a_code v0a (ra r0 hw) hv1) R fun x1 => (bdO t0 fun v2 hv2 t0 => (wlc (co_o3 [box x1 [(sl v0a), iv v1.1, iv v1.2]] fa_15 (zc pz some_refl) R fun w fp hw => c_spec_l30Pair w fp x1 a_code v0a ((rdo_arg r0) w fp hw) v1.1 v1.2 hw.ow hv2) R fun x2 => (mv R R (wlq (pex R R) R (wlq (pex R R) R (wle (eal (cs := [iv 0, iv 0, iv 0, (sl hn)]) za_28) R fun b3 => (wle (eal (cs := [iv 0, iv 0, iv 0, (sl hn)]) za_28) R fun b4 => (wls (sbx (cs' := [iv v2.1.Owner, iv v2.1.Day, iv v2.1.Block.Size, (sl x2.1)]) tk_28 pk1 R R R R R R R) (wls (sbx (cs' := [iv v2.2.1.Owner, iv v2.2.1.Day, iv v2.2.1.Block.Size, (sl x2.2)]) tk_28 pk1 R R R R R R R) (wnt (wcs (wcj (X := Unit) (fun _ => True) (fun _ => [(2, ptr b1 0), (3, ptr b2 0)]) (fun _ => [box b2 [iv v2.2.1.Owner, iv v2.2.1.Day, iv v2.2.1.Block.Size, (sl x2.2)], box b1 [iv v2.1.Owner, iv v2.1.Day, iv v2.1.Block.Size, (sl x2.1)], ownF (sl x2.1) v2.1.Block.Cells, ownF (sl x2.2) v2.2.1.Block.Cells]) ?_ ?_)))))))))))))))))))
 refine wcd [box b4 [iv v2.2.1.Owner, iv v2.2.1.Day, iv v2.2.1.Block.Size, (sl x2.2)], box b3 [iv v2.1.Owner, iv v2.1.Day, iv v2.1.Block.Size, (sl x2.1)], ownF (sl x2.1) v2.1.Block.Cells, ownF (sl x2.2) v2.2.1.Block.Cells, box x1 [(sl v0a), iv v2.2.2.1, iv v2.2.2.2], box b2 [iv 0, iv 0, iv 0, (sl hn)], box b1 [iv 0, iv 0, iv 0, (sl hn)]] 2 mixed (aq (v := .agg #[iv v2.1.Owner, iv v2.1.Day, iv v2.1.Block.Size, (sl x2.1)]) 0 R (plb tk_28 pk1 R R R) so7 R (wa_2 (i := 1) (j := 2) (by kernel_rfl) ?_ ?_))
 refine ws_pure (v := .agg #[iv v2.2.1.Owner, iv v2.2.1.Day, iv v2.2.1.Block.Size, (sl x2.2)]) R (plb tk_28 pz R R R) (zt so7) R (a1 2 (ws_skipop R (sbx (cs' := [iv v2.1.Owner, iv v2.1.Day, iv v2.1.Block.Size, (sl x2.1)]) tk_28 pk6 R R R R R R R) (sts_past (by kernel_rfl)) ?_))
 refine a1 3 (ws_skipop R (sbx (cs' := [iv v2.2.1.Owner, iv v2.2.1.Day, iv v2.2.1.Block.Size, (sl x2.2)]) tk_28 pk6 R R R R R R R) (sts_past (by kernel_rfl)) ?_)
 exact ae (wqm () trivial (su2 R R) (zc pz (zc pz (zc pk2 (zc pk2 zn)))))
 refine ws_skipop R (sbx (cs' := [iv v2.1.Owner, iv v2.1.Day, iv v2.1.Block.Size, (sl x2.1)]) tk_28 pk6 R R R R R R R) (sts_past (by kernel_rfl)) ?_
 refine a1 1 (ws_pure (v := .agg #[iv v2.2.1.Owner, iv v2.2.1.Day, iv v2.2.1.Block.Size, (sl x2.2)]) R (plb tk_28 pk1 R R R) (sts_past (by kernel_rfl)) R ?_)
 refine a1 3 (ws_skipop R (sbx (cs' := [iv v2.2.1.Owner, iv v2.2.1.Day, iv v2.2.1.Block.Size, (sl x2.2)]) tk_28 pk6 R R R R R R R) (sts_past (by kernel_rfl)) ?_)
 exact ae (wqm () trivial (su2 R R) (zc pz (zc pz (zc pk2 (zc pk2 zn)))))
 intro _ _
 refine wqt (wct ?_)
 obtain rfl := oi t0
 exact wq_retcc R tk_28 tk_28 R R pk1 pz R R fun w hw => ⟨(x2.1, x2.2), R, hw.weak (zc pk2 (zc pk2 zn))⟩

theorem c_impl_within (w : World) (a_n : Int) (a_a : Int) (a_b : Int) {r : Bool} (t0 : impl_within a_n a_a a_b = some r) : Calls Tryz.prog 27 #[.int .i64 a_n, .int .i64 a_a, .int .i64 a_b] w fun e w' => e = .returned (.bool r) ∧ SH w [] [] w' := by
 refine cwc (args := [_, _, _]) Tryz.func27 R Tryz.ntmps27 R ?_
 unfold impl_within at t0
 refine wcr (asg R R (wnt (wcs (wcj (X := Unit) (fun _ => True) (fun _ => [(6, .bool ((decide (a_n ≥ a_a)) && (decide (a_n ≤ a_b))))]) (fun _ => []) ?_ ?_))))
 refine wcg (mv R R (mv R R (wlq (po_geq R R) R (mv R R (wl_fork (t := 10) R (fun h1 => ?_) fun h1 => ?_)))))
 exact wgn (j := 3) R R R (mv R R (wgn (j := 3) R R R (mv R R (wgn (j := 3) R R R (wlq (po_leq R R) R (wlq (pit R R) R (asg R R (wln (wqm () trivial (sub_b R (by rw [h1]; rfl) yn) zn)))))))))
 exact wgf (j := 3) R R R R R (wgf (j := 3) R R R R R (wgf (j := 3) R R R R R (wlq (pif R R) R (asg R R (wln (wqm () trivial (sub_b R (by rw [h1]; rfl) yn) zn))))))
 intro _ _
 refine wqt (wct ?_)
 obtain rfl := oi t0
 exact wq1 R R fun w hw => ⟨R, hw.weak zn⟩

theorem c_impl_isColor (w : World) (a_a : Int) {r : Bool} (t0 : impl_isColor a_a = some r) : Calls Tryz.prog 74 #[.int .i64 a_a] w fun e w' => e = .returned (.bool r) ∧ SH w [] [] w' := by
 refine cwc (args := [_]) Tryz.func74 R Tryz.ntmps74 R ?_
 unfold impl_isColor at t0
 refine wcr (asg R R (wnt (wcr (mv R R (bdO t0 fun v1 hv1 t0 => (wlc (cz0 fa_27 R fun w hw => c_impl_within w a_a 0 5 hv1) R fun _ => (asg R R (wnt (wct ?_)))))))))
 obtain rfl := oi t0
 exact wq1 R R fun w hw => ⟨R, hw.weak zn⟩

theorem c_impl_CellOk (w : World) (a_c : GCell) {r : Bool} (t0 : impl_CellOk a_c = some r) : Calls Tryz.prog 48 #[.agg #[.int .i64 a_c.Split, .int .i64 a_c.A, .int .i64 a_c.B]] w fun e w' => e = .returned (.bool r) ∧ SH w [] [] w' := by
 refine cwc (args := [_]) Tryz.func48 R Tryz.ntmps48 R ?_
 unfold impl_CellOk at t0
 refine wcr (wle (eo_box R R) R fun b1 => (asg R R (wnt (wcs (bdO t0 fun y1 t1 t0 => (wj (J := Bool) (X := Unit) (fun z => y1 = z) (fun z _ => [(2, .bool z)]) (fun _ _ => []) ?_ ?_))))))
 refine wcg (wlq (pof fo_55_0 R) R (wlq (v := iv a_c.Split) (plx tk_3 pz R R) R (bdO t1 fun v1 hv1 t1 => (wlc (cz0 fa_27 R fun w hw => c_impl_within w a_c.Split 0 2 hv1) R fun _ => (mv R R (wlo (t := 6) t1 R (fun h1 t1 => ?_) fun h1 t1 => ?_))))))
 refine wgn (j := 3) R R R (wlq (pof fo_55_1 R) R (wgn (j := 3) R R R (wlq (v := iv a_c.A) (plx tk_3 pz R R) R (bdO t1 fun v2 hv2 t1 => (wgn (j := 3) R R R (wlc (cz0 fa_74 R fun w hw => c_impl_isColor w a_c.A hv2) R (fun _ => (wlq (pit R R) R (mv R R (wlo (t := 11) t1 R (fun h2 t1 => ?_) fun h2 t1 => ?_))))))))))
 refine wgn (j := 8) R R R (wlq (pof fo_55_2 R) R (wgn (j := 8) R R R (wlq (v := iv a_c.B) (plx tk_3 pz R R) R (bdO t1 fun v3 hv3 t1 => (wgn (j := 8) R R R (wlc (cz0 fa_74 R fun w hw => c_impl_isColor w a_c.B hv3) R (fun _ => (wlq (pit R R) R (mv R R (wlo (t := 16) t1 R (fun h3 t1 => ?_) fun h3 t1 => ?_))))))))))
 exact wgn (j := 13) R R R (wlq (pof fo_55_0 R) R (wgn (j := 13) R R R (wlq (v := iv a_c.Split) (plx tk_3 pz R R) R (wgn (j := 13) R R R (wlq (pol R R) R (wgn (j := 13) R R R (wlq (pof fo_55_1 R) R (wgn (j := 13) R R R (wlq (v := iv a_c.A) (plx tk_3 pz R R) R (wgn (j := 13) R R R (wlq (pof fo_55_2 R) R (wgn (j := 13) R R R (wlq (v := iv a_c.B) (plx tk_3 pz R R) R (wgn (j := 13) R R R (wlq (pol R R) R (wgn (j := 13) R R R (wlq (po_eql_bool ub_4 R R) R (wlq (pit R R) R (asg R R (wln (wjm _ () (mtE t1) (su1 R) zn)))))))))))))))))))))
 exact wgf (j := 13) R R R R R (wgf (j := 13) R R R R R (wgf (j := 13) R R R R R (wgf (j := 13) R R R R R (wgf (j := 13) R R R R R (wgf (j := 13) R R R R R (wgf (j := 13) R R R R R (wgf (j := 13) R R R R R (wgf (j := 13) R R R R R (wlq (pif R R) R (asg R R (wln (wjm _ () (mtE t1) (su1 R) zn))))))))))))
 exact wgf (j := 8) R R R R R (wgf (j := 8) R R R R R (wgf (j := 8) R R R R R (wlq (pif R R) R (mv R R (wgf (j := 13) R R R R R (wgf (j := 13) R R R R R (wgf (j := 13) R R R R R (wgf (j := 13) R R R R R (wgf (j := 13) R R R R R (wgf (j := 13) R R R R R (wgf (j := 13) R R R R R (wgf (j := 13) R R R R R (wgf (j := 13) R R R R R (wlq (pif R R) R (asg R R (wln (wjm _ () (mtE t1) (su1 R) zn)))))))))))))))))
 exact wgf (j := 3) R R R R R (wgf (j := 3) R R R R R (wgf (j := 3) R R R R R (wlq (pif R R) R (mv R R (wgf (j := 8) R R R R R (wgf (j := 8) R R R R R (wgf (j := 8) R R R R R (wlq (pif R R) R (mv R R (wgf (j := 13) R R R R R (wgf (j := 13) R R R R R (wgf (j := 13) R R R R R (wgf (j := 13) R R R R R (wgf (j := 13) R R R R R (wgf (j := 13) R R R R R (wgf (j := 13) R R R R R (wgf (j := 13) R R R R R (wgf (j := 13) R R R R R (wlq (pif R R) R (asg R R (wln (wjm _ () (mtE t1) (su1 R) zn))))))))))))))))))))))
 intro j1 _ hp
 obtain rfl : j1 = y1 := hp.symm
 refine wqt (wct ?_)
 obtain rfl := oi t0
 exact wq1 R R fun w hw => ⟨R, hw.weak zn⟩

end Go.Proofs.YtgbcpjffnkiabaaGreatDoor
