/-
 Each Go function computes its Lean function (part 1).
-/
import Derived.Test.YtjfjbgihojiijaaGreatDoorLibs
namespace Go.Proofs.YtjfjbgihojiijaaGreatDoor
open Go Go.RowKit Go.Proofs
set_option maxRecDepth 100000

theorem c_laws_big (w : World) (a_code : List UInt8) (v0a : Hd) (r0 : rdF w (dm w []) (sl v0a) a_code) {r : Bool} (t0 : laws_big a_code = some r) : Calls Tryz.prog 4 #[(sl v0a)] w fun e w' => e = .returned (.bool r) ∧ SH w [] [] w' := by
 refine cwc (args := [_]) Tryz.func4 R Tryz.ntmps4 R ?_
 unfold laws_big at t0
 refine wcr (asg R R (wnt (wcr (mv R R (wlq (pln (rga r0) el_22 R) R (wlq (po_gtr R R) R (asg R R (wnt (wct ?_)))))))))
 obtain rfl := oi t0
 exact wq1 R R fun w hw => ⟨R, hw.weak zn⟩

theorem c_spec_l01New (w : World) (a_code : List UInt8) (v0a : Hd) (r0 : rdF w (dm w []) (sl v0a) a_code) {r : Int × Int} (t0 : spec_l01New a_code = some r) : Calls Tryz.prog 8 #[(sl v0a)] w fun e w' => ∃ x : Nat, e = .returned (ptr x 0) ∧ SH w [] [box x [(sl v0a), .int .i64 r.1, .int .i64 r.2]] w' := by
 refine cwc (args := [_]) Tryz.func8 R Tryz.ntmps8 R ?_
 unfold spec_l01New at t0
 refine wcr (asg R R (wnt (wcr (mv R R (wlq (pln (rga r0) el_22 R) R (wlq (po_add R R) R (asg R R (wnt (wcs (wcr (asg R R (wnt (gdO t0 fun g1 t0 => (lpO_inv t0 fun y1 l1 t0 => (wj (J := Int) (X := Unit) (fun z => y1 = z) (fun z _ => [(0, (sl v0a)), (3, iv z)]) (fun _ _ => []) ?_ ?_)))))))))))))))
 refine wcb (wcf (X := Unit) l1 (fun k1 s1 x1l => [(0, (sl v0a)), (3, iv s1), (4, iv ((k1 : Nat) : Int))]) (fun k1 s1 x1l => []) () (su3 R R R) zn fun k1 s1 x1l hN1 l1 => ?_)
 by_cases hk1 : k1 < a_code.length
 refine fos l1 hk1 fun _ t1 l1 => ?_
 unfold spec_l01New_L1 at t1
 have c1 : (decide (((k1 : Nat) : Int) < ((a_code.length : Nat) : Int))) = true := ddt (by omega)
 refine wcs (wcr (mv R R (mv R R (wlq (pln (rga r0) el_22 R) R (wlq (pls R R) R (mv R R (wl_know (t := 12) R c1 (wgn (j := 4) R R R (mv R R (wgn (j := 4) R R R (wlq (pls R R) R (wlq (pit R R) R (wnt (wcO t1 R (fun h1 t1 => ?_) fun h1 t1 => ?_))))))))))))))
 refine wck (wqt (wcs (wcb (wcg (mv R R (wlq (po_mul R R) R (mv R R (mv R R (wlq (po_ixn (k := k1) (rga r0) el_22 R R hk1) R (wlq (v := .int .u8 ((gx a_code k1).toNat : Int)) (po_ldf (rga r0) tk_5 R hk1 R) R (wlq (po_u8int isU8_5 isInt_3 R) R (wlq (po_add R R) R (wlq (po_add R R) R (wlq (po_and R R) R (asg R R (wln (wqb (wqt (wcg (mv R R (wlq (po_inc R R (by omega)) R ?_)))))))))))))))))))))
 exact asg R R (wln (wq_rnd hk1 (stpN l1 t1) () (su3 R R R) zn))
 exact wcx (wqe (wqe (wbx (wjm _ () (Sum.inl.inj (stpB l1 t1)) (su2 R R) zn))))
 have c1 : (decide (((k1 : Nat) : Int) < ((a_code.length : Nat) : Int))) = false := ddf (by omega)
 have en1 := foe l1 hk1
 exact wcs (wcr (mv R R (mv R R (wlq (pln (rga r0) el_22 R) R (wlq (pls R R) R (mv R R (wl_know (t := 12) R c1 (wgf (j := 4) R R R R R (wgf (j := 4) R R R R R (wlq (pif R R) R (wnt (wff R R (wcx (wqe (wqe (wbx (wjm _ () (Sum.inl.inj en1) (su2 R R) zn)))))))))))))))))
 intro e1 _ hp
 obtain rfl : e1 = y1 := hp.symm
 refine wqt (wcr (mv R R (mv R R (wlq (po_build R (bd_53_0_2 v0a e1)) R (wle (eo_box R R) R fun b1 => (asg R R (wnt (wct ?_))))))))
 obtain rfl := oi t0
 exact wq1 R R fun w hw => ⟨b1, R, hw.weak so1⟩

theorem c_spec_l01Byte (w : World) (fp : List Nat) (b0p : Nat) (a_c0 : List UInt8) (v0a : Hd) (r0 : rdF w (dm w fp) (sl v0a) a_c0) (a_c1 : Int) (a_c2 : Int) (o : Ow w [box b0p [(sl v0a), .int .i64 a_c1, .int .i64 a_c2]] fp) {r : Int × Int × Int} (t0 : spec_l01Byte a_c0 a_c1 a_c2 = some r) : Calls Tryz.prog 33 #[ptr b0p 0] w fun e w' => ∃ _x : Unit, e = .returned (.int .i64 r.1) ∧ SH w fp [box b0p [(sl v0a), .int .i64 r.2.1, .int .i64 r.2.2]] w' := by
 refine calls_of_wc_own (args := [_]) o Tryz.func33 R Tryz.ntmps33 R ?_
 unfold spec_l01Byte at t0
 refine wcr (asg R R (wnt (wcr (mv R R (mv R R (wlq (po_nilCheck R) R (wlq (pof fo_53_2 R) R (wlq (v := iv a_c2) (plx tk_3 pz R R) R (wlq (po_mul R R) R (wlq (po_add R R) R (wlq (po_nilCheck R) R (wlq (pof fo_53_2 R) R (wls (sbx (cs' := [(sl v0a), iv a_c1, iv (wr ((wr (a_c2 * 6364136223846793005)) + 1442695040888963407))]) tk_3 pz R R R R R R R) (wnt (wcs (wcd [box b0p [(sl v0a), iv a_c1, iv (wr ((wr (a_c2 * 6364136223846793005)) + 1442695040888963407))]] 13 mixed (aq 0 R (pom R) so1 R (aq 1 R (po_nilCheck R) so1 R (aq 2 R (pof fo_53_2 R) so1 R (aq (v := iv (wr ((wr (a_c2 * 6364136223846793005)) + 1442695040888963407))) 3 R (plx tk_3 pz R R) so1 R (aq 4 R (po_shr R R (by decide)) so1 R ?_)))))))))))))))))))))
 refine aq 5 R (pom R) so1 R (aq 6 R (po_nilCheck R) so1 R (aq 7 R (pof fo_53_2 R) so1 R (aq (v := iv (wr ((wr (a_c2 * 6364136223846793005)) + 1442695040888963407))) 8 R (plx tk_3 pz R R) so1 R (aq 9 R (po_shr R R (by decide)) so1 R ?_))))
 refine aq 10 R (po_xor R R) so1 R (aq 11 R (po_and R R) so1 R (aq 12 R (po_assign R) so1 R (ae (wqt (wcs (wcs (wcd [box b0p [(sl v0a), iv a_c1, iv (wr ((wr (a_c2 * 6364136223846793005)) + 1442695040888963407))]] 10 mixed (aq 0 R (pom R) so1 R (aq 1 R (po_nilCheck R) so1 R (aq 2 R (pof fo_53_1 R) so1 R (aq (v := iv a_c1) 3 R (plx tk_3 pz R R) so1 R (aq 4 R (pom R) so1 R (aq 5 R (po_nilCheck R) so1 R (aq 6 R (pof fo_53_0 R) so1 R (aq (v := (sl v0a)) 7 R (plx tk_22 pz R R) so1 R (aq 8 R (pln (rga r0) el_22 R) so1 R (aq 9 R (pls R R) so1 R (ae (wqt (bdO t0 fun y1 t1 t0 => (wj (J := Int × Int) (X := Unit) (fun z => y1 = z) (fun z _ => [(3, iv z.1)]) (fun z _ => [box b0p [(sl v0a), iv z.2, iv (wr ((wr (a_c2 * 6364136223846793005)) + 1442695040888963407))]]) ?_ ?_)))))))))))))))))))))
 refine wcO t1 R (fun h1 t1 => ?_) fun h1 t1 => ?_
 exact wcs (wcd [box b0p [(sl v0a), iv a_c1, iv (wr ((wr (a_c2 * 6364136223846793005)) + 1442695040888963407))]] 15 mixed (aq 0 R (pom R) so1 R (aq 1 R (pom R) so1 R (aq 2 R (po_nilCheck R) so1 R (aq 3 R (pof fo_53_0 R) so1 R (aq (v := (sl v0a)) 4 R (plx tk_22 pz R R) so1 R (aq 5 R (pom R) so1 R (aq 6 R (po_nilCheck R) so1 R (aq 7 R (pof fo_53_1 R) so1 R (aq (v := iv a_c1) 8 R (plx tk_3 pz R R) so1 R (gdO t1 fun g1 t1 => (aq 9 R (po_ixr (rga r0) el_22 R R g1.1 g1.2) so1 R (aq (v := .int .u8 ((gx a_c0 ((a_c1).toNat)).toNat : Int)) 10 R (po_ldf (rga r0) tk_5 R (ix_lt g1) R) so1 R (aq 11 R (po_u8int isU8_5 isInt_3 R) so1 R (aq 12 R (po_add R R) so1 R (aq 13 R (po_and R R) so1 R (aq 14 R (po_assign R) so1 R (ae (wqt (wcg (mv R R (mv R R (wlq (po_nilCheck R) R (wlq (pof fo_53_1 R) R (wlq (v := iv a_c1) (plx tk_3 pz R R) R (wlq (po_add R R) R (wlq (po_nilCheck R) R (wlq (pof fo_53_1 R) R (wls (sbx (cs' := [(sl v0a), iv (wr (a_c1 + 1)), iv (wr ((wr (a_c2 * 6364136223846793005)) + 1442695040888963407))]) tk_3 pz R R R R R R R) (wln (wjm _ () (mtE t1) (su1 R) so1)))))))))))))))))))))))))))))))
 exact wck (wjm _ () (mtE t1) (su1 R) so1)
 intro j1 _ hp
 obtain rfl : j1 = y1 := hp.symm
 refine wqt (wcr (mv R R (asg R R (wnt (wct ?_)))))
 obtain rfl := oi t0
 exact wq1 R R fun w hw => ⟨(), R, hw.weak so1⟩

theorem c_spec_l01Below (w : World) (fp : List Nat) (b0p : Nat) (a_c0 : List UInt8) (v0a : Hd) (r0 : rdF w (dm w fp) (sl v0a) a_c0) (a_c1 : Int) (a_c2 : Int) (a_n : Int) (o : Ow w [box b0p [(sl v0a), .int .i64 a_c1, .int .i64 a_c2]] fp) {r : Int × Int × Int} (t0 : spec_l01Below a_c0 a_c1 a_c2 a_n = some r) : Calls Tryz.prog 20 #[ptr b0p 0, .int .i64 a_n] w fun e w' => ∃ _x : Unit, e = .returned (.int .i64 r.1) ∧ SH w fp [box b0p [(sl v0a), .int .i64 r.2.1, .int .i64 r.2.2]] w' := by
 refine calls_of_wc_own (args := [_, _]) o Tryz.func20 R Tryz.ntmps20 R ?_
 unfold spec_l01Below at t0
 refine wcr (asg R R (wnt (wcs (wcr (mv R R (wlq (po_leq R R) R (wnt (wcO t0 R (fun h1 t0 => ?_) fun h1 t0 => ?_))))))))
 refine wcr (asg R R (wnt (wct (wqr ?_))))
 obtain rfl := oi t0
 exact wq1 R R fun w hw => ⟨(), R, hw.weak so1⟩
 refine wck (wqt (wcs (wcr (mv R R (wlq (po_leq R R) R (wnt (wcO t0 R (fun h2 t0 => ?_) fun h2 t0 => ?_)))))))
 refine wcr (mv R R (bdO t0 fun v1 hv1 t0 => (wlc (co_o1 [box b0p [(sl v0a), iv a_c1, iv a_c2]] fa_33 (zc pz some_refl) R fun w fp hw => c_spec_l01Byte w fp b0p a_c0 v0a ((rdo_arg r0) w fp hw) a_c1 a_c2 hw.ow hv1) R fun _ => (mv R R (gdO t0 fun g1 t0 => (wlq (po_rem R R g1) R (asg R R (wnt (wct (wqr ?_))))))))))
 obtain rfl := oi t0
 exact wq1 R R fun w hw => ⟨(), R, hw.weak so1⟩
 refine wck (wqt (wcr (mv R R (bdO t0 fun v2 hv2 t0 => (wlc (co_o1 [box b0p [(sl v0a), iv a_c1, iv a_c2]] fa_33 (zc pz some_refl) R fun w fp hw => c_spec_l01Byte w fp b0p a_c0 v0a ((rdo_arg r0) w fp hw) a_c1 a_c2 hw.ow hv2) R fun _ => (asg R R (wnt (wcr (mv R R (bdO t0 fun v3 hv3 t0 => (wlc (co_o1 [box b0p [(sl v0a), iv v2.2.1, iv v2.2.2]] fa_33 (zc pz some_refl) R fun w fp hw => c_spec_l01Byte w fp b0p a_c0 v0a ((rdo_arg r0) w fp hw) v2.2.1 v2.2.2 hw.ow hv3) R fun _ => (asg R R (wnt (wcr (mv R R (bdO t0 fun v4 hv4 t0 => (wlc (co_o1 [box b0p [(sl v0a), iv v3.2.1, iv v3.2.2]] fa_33 (zc pz some_refl) R fun w fp hw => c_spec_l01Byte w fp b0p a_c0 v0a ((rdo_arg r0) w fp hw) v3.2.1 v3.2.2 hw.ow hv4) R fun _ => (asg R R (wnt (wcr (mv R R (bdO t0 fun v5 hv5 t0 => (wlc (co_o1 [box b0p [(sl v0a), iv v4.2.1, iv v4.2.2]] fa_33 (zc pz some_refl) R fun w fp hw => c_spec_l01Byte w fp b0p a_c0 v0a ((rdo_arg r0) w fp hw) v4.2.1 v4.2.2 hw.ow hv5) R fun _ => (asg R R (wnt (wcr (mv R R (wlq (po_mul R R) R (mv R R (wlq (po_mul R R) R (wlq (po_add R R) R (mv R R (wlq (po_mul R R) R (wlq (po_add R R) R (mv R R (wlq (po_add R R) R (mv R R (gdO t0 fun g2 t0 => (wlq (po_rem R R g2) R ?_)))))))))))))))))))))))))))))))))))))))
 refine asg R R (wnt (wct ?_))
 obtain rfl := oi t0
 exact wq1 R R fun w hw => ⟨(), R, hw.weak so1⟩

theorem c_spec_l01Once (w : World) (fp : List Nat) (b0p : Nat) (a_c0 : List UInt8) (v0a : Hd) (r0 : rdF w (dm w fp) (sl v0a) a_c0) (a_c1 : Int) (a_c2 : Int) (a_n : Int) (o : Ow w [box b0p [(sl v0a), .int .i64 a_c1, .int .i64 a_c2]] fp) {r : Bool × Int × Int} (t0 : spec_l01Once a_c0 a_c1 a_c2 a_n = some r) : Calls Tryz.prog 17 #[ptr b0p 0, .int .i64 a_n] w fun e w' => ∃ _x : Unit, e = .returned (.bool r.1) ∧ SH w fp [box b0p [(sl v0a), .int .i64 r.2.1, .int .i64 r.2.2]] w' := by
 refine calls_of_wc_own (args := [_, _]) o Tryz.func17 R Tryz.ntmps17 R ?_
 unfold spec_l01Once at t0
 refine wcr (asg R R (wnt (wcr (mv R R (mv R R (bdO t0 fun v1 hv1 t0 => (wlc (co_o1 [box b0p [(sl v0a), iv a_c1, iv a_c2]] fa_20 (zc pz some_refl) R fun w fp hw => c_spec_l01Below w fp b0p a_c0 v0a ((rdo_arg r0) w fp hw) a_c1 a_c2 a_n hw.ow hv1) R fun _ => (wlq (pol R R) R (asg R R (wnt (wct ?_)))))))))))
 obtain rfl := oi t0
 exact wq1 R R fun w hw => ⟨(), R, hw.weak so1⟩

theorem c_spec_l01In (w : World) (a_x : Int) (a_least : Int) (a_most : Int) {r : Bool} (t0 : spec_l01In a_x a_least a_most = some r) : Calls Tryz.prog 58 #[.int .i64 a_x, .int .i64 a_least, .int .i64 a_most] w fun e w' => e = .returned (.bool r) ∧ SH w [] [] w' := by
 refine cwc (args := [_, _, _]) Tryz.func58 R Tryz.ntmps58 R ?_
 unfold spec_l01In at t0
 refine wcr (asg R R (wnt (wcs (wcj (X := Unit) (fun _ => True) (fun _ => [(6, .bool ((decide (a_x ≥ a_least)) && (decide (a_x ≤ a_most))))]) (fun _ => []) ?_ ?_))))
 refine wcg (mv R R (mv R R (wlq (po_geq R R) R (mv R R (wl_fork (t := 10) R (fun h1 => ?_) fun h1 => ?_)))))
 exact wgn (j := 3) R R R (mv R R (wgn (j := 3) R R R (mv R R (wgn (j := 3) R R R (wlq (po_leq R R) R (wlq (pit R R) R (asg R R (wln (wqm () trivial (sub_b R (by rw [h1]; rfl) yn) zn)))))))))
 exact wgf (j := 3) R R R R R (wgf (j := 3) R R R R R (wgf (j := 3) R R R R R (wlq (pif R R) R (asg R R (wln (wqm () trivial (sub_b R (by rw [h1]; rfl) yn) zn))))))
 intro _ _
 refine wqt (wct ?_)
 obtain rfl := oi t0
 exact wq1 R R fun w hw => ⟨R, hw.weak zn⟩

theorem c_spec_MembersOk (w : World) (a_list : List GMember) (v0a : Hd) (r0 : rdF w (dm w []) (sl v0a) a_list) {r : Bool} (t0 : spec_MembersOk a_list = some r) : Calls Tryz.prog 55 #[(sl v0a)] w fun e w' => e = .returned (.bool r) ∧ SH w [] [] w' := by
 refine cwc (args := [_]) Tryz.func55 R Tryz.ntmps55 R ?_
 unfold spec_MembersOk at t0
 refine wcr (asg R R (wnt (wcs (wcr (asg R R (wnt (gdO t0 fun g1 t0 => (sqO t0 fun y1 l1 t0 => (wj (J := Unit) (X := Unit) (fun z => y1 = .inl z) (fun _ _ => [(0, (sl v0a))]) (fun _ _ => []) ?_ ?_)))))))))
 refine wcb (wcf (X := Unit) l1 (fun k1 s1 x1l => [(0, (sl v0a)), (3, iv ((k1 : Nat) : Int))]) (fun k1 s1 x1l => []) () (su2 R R) zn fun k1 s1 x1l hN1 l1 => ?_)
 by_cases hk1 : k1 < a_list.length
 refine fos l1 hk1 fun _ t1 l1 => ?_
 unfold spec_MembersOk_L1 at t1
 have c1 : (decide (((k1 : Nat) : Int) < ((a_list.length : Nat) : Int))) = true := ddt (by omega)
 refine wcs (wcr (mv R R (mv R R (wlq (pln (rga r0) el_24 R) R (wlq (pls R R) R (wnt (wft R c1 (wck (wqt (wcs (wcb (wcr (mv R R (mv R R (wlq (po_ixn (k := k1) (rga r0) el_24 R R hk1) R (wlq (v := .agg #[iv ((gx a_list k1).Number), iv ((gx a_list k1).Since), iv ((gx a_list k1).Paid)]) (po_ldfs (rga r0) tk_79 R hk1 R R R) R (wle (eal (cs := [iv 0, iv 0, iv 0]) za_79) R fun b1 => (wls (sbx (cs' := [iv ((gx a_list k1).Number), iv ((gx a_list k1).Since), iv ((gx a_list k1).Paid)]) tk_79 pz R R R R R R R) (wnt (wcs (bdO t1 fun y2 t2 t1 => (wj (J := Bool) (X := Unit) (fun z => y2 = z) (fun z _ => [(0, (sl v0a)), (3, iv ((k1 : Nat) : Int)), (48, .bool z)]) (fun _ _ => []) ?_ ?_))))))))))))))))))))))
 refine wcd [box b1 [iv ((gx a_list k1).Number), iv ((gx a_list k1).Since), iv ((gx a_list k1).Paid)]] 34 mixed (aq 0 R (pof fo_79_0 R) so1 R (aq (v := iv ((gx a_list k1).Number)) 1 R (plx tk_3 pz R R) so1 R (a1 2 (bdO t2 fun v1 hv1 t2 => (wsc R (cz0 fa_58 R fun w hw => c_spec_l01In w ((gx a_list k1).Number) 1 999 hv1) (fun _ => (zt so1)) R fun _ => (aq 3 R (po_not R) so1 R (aq 4 R (pom R) so1 R (waO_ (t := 19) t2 R (fun h1 t2 => ?_) fun h1 t2 => ?_))))))))
 exact af 5 4 R R R R R so1 R (af 6 4 R R R R R so1 R (af 7 4 R R R R R so1 R (af 8 4 R R R R R so1 R (aq 9 R (pit R R) so1 R (aq 10 R (pom R) so1 R (af 11 10 R R R R R so1 R (af 12 10 R R R R R so1 R (af 13 10 R R R R R so1 R (af 14 10 R R R R R so1 R (af 15 10 R R R R R so1 R (af 16 10 R R R R R so1 R (af 17 10 R R R R R so1 R (aq 18 R (pit R R) so1 R (aq 19 R (pom R) so1 R (af 20 19 R R R R R so1 R (af 21 19 R R R R R so1 R (af 22 19 R R R R R so1 R (au 23 22 R R R R so1 R (au 24 22 R R R R so1 R (au 25 22 R R R R so1 R (au 26 22 R R R R so1 R (au 27 22 R R R R so1 R (au 28 22 R R R R so1 R (au 29 22 R R R R so1 R (au 30 22 R R R R so1 R (au 31 22 R R R R so1 R (af 32 19 R R R R R so1 R (aq 33 R (pit R R) so1 R (ae (wjm _ () (mtE t2) (su3 R R R) zn))))))))))))))))))))))))))))))
 refine an 5 4 R R R R (pof fo_79_1 R) so1 R (an (v := iv ((gx a_list k1).Since)) 6 4 R R R R (plx tk_3 pz R R) so1 R (a1 7 (bdO t2 fun v2 hv2 t2 => (ws_call_on (j := 4) R R R R (cz0 fa_58 R fun w hw => c_spec_l01In w ((gx a_list k1).Since) 1900 2999 hv2) (fun _ => (zt so1)) R fun _ => (an 8 4 R R R R (po_not R) so1 R (aq 9 R (pif R R) so1 R (aq 10 R (pom R) so1 R (waO_ (t := 25) t2 R (fun h2 t2 => ?_) fun h2 t2 => ?_))))))))
 exact af 11 10 R R R R R so1 R (af 12 10 R R R R R so1 R (af 13 10 R R R R R so1 R (af 14 10 R R R R R so1 R (af 15 10 R R R R R so1 R (af 16 10 R R R R R so1 R (af 17 10 R R R R R so1 R (aq 18 R (pit R R) so1 R (aq 19 R (pom R) so1 R (af 20 19 R R R R R so1 R (af 21 19 R R R R R so1 R (af 22 19 R R R R R so1 R (au 23 22 R R R R so1 R (au 24 22 R R R R so1 R (au 25 22 R R R R so1 R (au 26 22 R R R R so1 R (au 27 22 R R R R so1 R (au 28 22 R R R R so1 R (au 29 22 R R R R so1 R (au 30 22 R R R R so1 R (au 31 22 R R R R so1 R (af 32 19 R R R R R so1 R (aq 33 R (pit R R) so1 R (ae (wjm _ () (mtE t2) (su3 R R R) zn))))))))))))))))))))))))
 refine an 11 10 R R R R (pof fo_79_2 R) so1 R (an (v := iv ((gx a_list k1).Paid)) 12 10 R R R R (plx tk_3 pz R R) so1 R (an 13 10 R R R R (pof fo_79_1 R) so1 R (an (v := iv ((gx a_list k1).Since)) 14 10 R R R R (plx tk_3 pz R R) so1 R (an 15 10 R R R R (po_sub R R) so1 R (a1 16 (bdO t2 fun v3 hv3 t2 => (ws_call_on (j := 10) R R R R (cz0 fa_58 R fun w hw => c_spec_l01In w ((gx a_list k1).Paid) (wr ((gx a_list k1).Since - 1)) 2999 hv3) (fun _ => (zt so1)) R fun _ => (an 17 10 R R R R (po_not R) so1 R (aq 18 R (pif R R) so1 R (aq 19 R (pom R) so1 R (waO_ (t := 34) t2 R (fun h3 t2 => ?_) fun h3 t2 => ?_)))))))))))
 exact af 20 19 R R R R R so1 R (af 21 19 R R R R R so1 R (af 22 19 R R R R R so1 R (au 23 22 R R R R so1 R (au 24 22 R R R R so1 R (au 25 22 R R R R so1 R (au 26 22 R R R R so1 R (au 27 22 R R R R so1 R (au 28 22 R R R R so1 R (au 29 22 R R R R so1 R (au 30 22 R R R R so1 R (au 31 22 R R R R so1 R (af 32 19 R R R R R so1 R (aq 33 R (pit R R) so1 R (ae (wjm _ () (mtE t2) (su3 R R R) zn)))))))))))))))
 refine an 20 19 R R R R (pom R) so1 R (an 21 19 R R R R (po_gtr R R) so1 R (an 22 19 R R R R (pom R) so1 R (waO_ (t := 37) t2 R (fun h4 t2 => ?_) fun h4 t2 => ?_)))
 exact an 23 22 R R R R (pof fo_79_0 R) so1 R (an (v := iv ((gx a_list k1).Number)) 24 22 R R R R (plx tk_3 pz R R) so1 R (an 25 22 R R R R (pom R) so1 R (an 26 22 R R R R (pom R) so1 R (an 27 22 R R R R (po_sub R R) so1 R (gdO t2 fun g2 t2 => (an 28 22 R R R R (po_ixr (rga r0) el_24 R R g2.1 g2.2) so1 R (an 29 22 R R R R (po_sfldr (rga r0) (ix_lt g2) fo_79_0 R) so1 R (an (v := iv ((gx a_list (((wr (((k1 : Nat) : Int) - 1))).toNat)).Number)) 30 22 R R R R (po_ldf (rga r0) tk_3 R (ix_lt g2) R) so1 R (an 31 22 R R R R (po_leq R R) so1 R (an 32 19 R R R R (pit R R) so1 R (aq 33 R (pif R R) so1 R (ae (wjm _ () (mtE t2) (su3 R R R) zn)))))))))))))
 exact af 23 22 R R R R R so1 R (af 24 22 R R R R R so1 R (af 25 22 R R R R R so1 R (af 26 22 R R R R R so1 R (af 27 22 R R R R R so1 R (af 28 22 R R R R R so1 R (af 29 22 R R R R R so1 R (af 30 22 R R R R R so1 R (af 31 22 R R R R R so1 R (an 32 19 R R R R (pif R R) so1 R (aq 33 R (pif R R) so1 R (ae (wjm _ () (mtE t2) (su3 R R R) zn))))))))))))
 intro j1 _ hp
 obtain rfl : j1 = y2 := hp.symm
 refine wqt (wcO t1 R (fun h5 t1 => ?_) fun h5 t1 => ?_)
 refine wcr (asg R R (wnt (wct (wbr (wqr (wqr (wbr (wqr (wqr ?_)))))))))
 replace t0 := lpR t0 l1 t1
 obtain rfl := oi t0
 exact wq1 R R fun w hw => ⟨R, hw.weak zn⟩
 refine wck (wqb (wqt (wcg (mv R R (wlq (po_inc R R (by omega)) R ?_)))))
 exact asg R R (wln (wq_rnd hk1 (stpN l1 t1) () (su2 R R) zn))
 have c1 : (decide (((k1 : Nat) : Int) < ((a_list.length : Nat) : Int))) = false := ddf (by omega)
 have en1 := foe l1 hk1
 exact wcs (wcr (mv R R (mv R R (wlq (pln (rga r0) el_24 R) R (wlq (pls R R) R (wnt (wff R c1 (wcx (wqe (wqe (wbx (wjm _ () en1 (su1 R) zn))))))))))))
 intro e1 _ hp
 replace t0 := sqE (j := e1) t0 hp
 refine wqt (wcr (mv R R (wlq (pln (rga r0) el_24 R) R (wlq (po_leq R R) R (asg R R (wnt (wct ?_)))))))
 obtain rfl := oi t0
 exact wq1 R R fun w hw => ⟨R, hw.weak zn⟩

theorem c_spec_StockOk (w : World) (a_stock : List Int) (v0a : Hd) (r0 : rdF w (dm w []) (sl v0a) a_stock) {r : Bool} (t0 : spec_StockOk a_stock = some r) : Calls Tryz.prog 56 #[(sl v0a)] w fun e w' => e = .returned (.bool r) ∧ SH w [] [] w' := by
 refine cwc (args := [_]) Tryz.func56 R Tryz.ntmps56 R ?_
 unfold spec_StockOk at t0
 refine wcr (asg R R (wnt (wcs (wcr (asg R R (wnt (gdO t0 fun g1 t0 => (sqO t0 fun y1 l1 t0 => (wj (J := Unit) (X := Unit) (fun z => y1 = .inl z) (fun _ _ => [(0, (sl v0a))]) (fun _ _ => []) ?_ ?_)))))))))
 refine wcb (wcf (X := Unit) l1 (fun k1 s1 x1l => [(0, (sl v0a)), (3, iv ((k1 : Nat) : Int))]) (fun k1 s1 x1l => []) () (su2 R R) zn fun k1 s1 x1l hN1 l1 => ?_)
 by_cases hk1 : k1 < a_stock.length
 refine fos l1 hk1 fun _ t1 l1 => ?_
 unfold spec_StockOk_L1 at t1
 have c1 : (decide (((k1 : Nat) : Int) < ((a_stock.length : Nat) : Int))) = true := ddt (by omega)
 refine wcs (wcr (mv R R (mv R R (wlq (pln (rga r0) el_25 R) R (wlq (pls R R) R (wnt (wft R c1 (wck (wqt (wcs (wcb (wcr (mv R R (mv R R (wlq (po_ixn (k := k1) (rga r0) el_25 R R hk1) R (wlq (v := iv (gx a_stock k1)) (po_ldf (rga r0) tk_3 R hk1 R) R (bdO t1 fun v1 hv1 t1 => (wlc (cz0 fa_58 R fun w hw => c_spec_l01In w (gx a_stock k1) 0 1000000 hv1) R fun _ => (wlq (po_not R) R (wnt (wcO t1 R (fun h1 t1 => ?_) fun h1 t1 => ?_)))))))))))))))))))))
 refine wcr (asg R R (wnt (wct (wbr (wqr (wqr (wbr (wqr (wqr ?_)))))))))
 replace t0 := lpR t0 l1 t1
 obtain rfl := oi t0
 exact wq1 R R fun w hw => ⟨R, hw.weak zn⟩
 refine wck (wqb (wqt (wcg (mv R R (wlq (po_inc R R (by omega)) R ?_)))))
 exact asg R R (wln (wq_rnd hk1 (stpN l1 t1) () (su2 R R) zn))
 have c1 : (decide (((k1 : Nat) : Int) < ((a_stock.length : Nat) : Int))) = false := ddf (by omega)
 have en1 := foe l1 hk1
 exact wcs (wcr (mv R R (mv R R (wlq (pln (rga r0) el_25 R) R (wlq (pls R R) R (wnt (wff R c1 (wcx (wqe (wqe (wbx (wjm _ () en1 (su1 R) zn))))))))))))
 intro e1 _ hp
 replace t0 := sqE (j := e1) t0 hp
 refine wqt (wcr (mv R R (wlq (pln (rga r0) el_25 R) R (wlq (pol R R) R (asg R R (wnt (wct ?_)))))))
 obtain rfl := oi t0
 exact wq1 R R fun w hw => ⟨R, hw.weak zn⟩

theorem c_spec_LedgerOk (w : World) (a_list : List GBooking) (v0a : Hd) (r0 : rdF w (dm w []) (sl v0a) a_list) {r : Bool} (t0 : spec_LedgerOk a_list = some r) : Calls Tryz.prog 57 #[(sl v0a)] w fun e w' => e = .returned (.bool r) ∧ SH w [] [] w' := by
 refine cwc (args := [_]) Tryz.func57 R Tryz.ntmps57 R ?_
 unfold spec_LedgerOk at t0
 refine wcr (asg R R (wnt (wcs (wcr (asg R R (wnt (gdO t0 fun g1 t0 => (sqO t0 fun y1 l1 t0 => (wj (J := Unit) (X := Unit) (fun z => y1 = .inl z) (fun _ _ => [(0, (sl v0a))]) (fun _ _ => []) ?_ ?_)))))))))
 refine wcb (wcf (X := Unit) l1 (fun k1 s1 x1l => [(0, (sl v0a)), (3, iv ((k1 : Nat) : Int))]) (fun k1 s1 x1l => []) () (su2 R R) zn fun k1 s1 x1l hN1 l1 => ?_)
 by_cases hk1 : k1 < a_list.length
 refine fos l1 hk1 fun _ t1 l1 => ?_
 unfold spec_LedgerOk_L1 at t1
 have c1 : (decide (((k1 : Nat) : Int) < ((a_list.length : Nat) : Int))) = true := ddt (by omega)
 refine wcs (wcr (mv R R (mv R R (wlq (pln (rga r0) el_27 R) R (wlq (pls R R) R (wnt (wft R c1 (wck (wqt (wcs (wcb (wcr (mv R R (mv R R (wlq (po_ixn (k := k1) (rga r0) el_27 R R hk1) R (wlq (v := .agg #[iv ((gx a_list k1).Day), iv ((gx a_list k1).From), iv ((gx a_list k1).To), iv ((gx a_list k1).Sum)]) (po_ldfs (rga r0) tk_88 R hk1 R R R) R (wle (eal (cs := [iv 0, iv 0, iv 0, iv 0]) za_88) R fun b1 => (wls (sbx (cs' := [iv ((gx a_list k1).Day), iv ((gx a_list k1).From), iv ((gx a_list k1).To), iv ((gx a_list k1).Sum)]) tk_88 pz R R R R R R R) (wnt (wcs (bdO t1 fun y2 t2 t1 => (wj (J := Bool) (X := Unit) (fun z => y2 = z) (fun z _ => [(0, (sl v0a)), (3, iv ((k1 : Nat) : Int)), (58, .bool z)]) (fun _ _ => []) ?_ ?_))))))))))))))))))))))
 refine wcd [box b1 [iv ((gx a_list k1).Day), iv ((gx a_list k1).From), iv ((gx a_list k1).To), iv ((gx a_list k1).Sum)]] 44 mixed (aq 0 R (pof fo_88_0 R) so1 R (aq (v := iv ((gx a_list k1).Day)) 1 R (plx tk_3 pz R R) so1 R (a1 2 (bdO t2 fun v1 hv1 t2 => (wsc R (cz0 fa_58 R fun w hw => c_spec_l01In w ((gx a_list k1).Day) 0 9999 hv1) (fun _ => (zt so1)) R fun _ => (aq 3 R (po_not R) so1 R (aq 4 R (pom R) so1 R (waO_ (t := 19) t2 R (fun h1 t2 => ?_) fun h1 t2 => ?_))))))))
 refine af 5 4 R R R R R so1 R (af 6 4 R R R R R so1 R (af 7 4 R R R R R so1 R (af 8 4 R R R R R so1 R (aq 9 R (pit R R) so1 R (aq 10 R (pom R) so1 R (af 11 10 R R R R R so1 R (af 12 10 R R R R R so1 R (af 13 10 R R R R R so1 R (af 14 10 R R R R R so1 R (aq 15 R (pit R R) so1 R (aq 16 R (pom R) so1 R (af 17 16 R R R R R so1 R (af 18 16 R R R R R so1 R (af 19 16 R R R R R so1 R (af 20 16 R R R R R so1 R (af 21 16 R R R R R so1 R (aq 22 R (pit R R) so1 R (aq 23 R (pom R) so1 R (af 24 23 R R R R R so1 R (af 25 23 R R R R R so1 R (af 26 23 R R R R R so1 R (af 27 23 R R R R R so1 R (aq 28 R (pit R R) so1 R (aq 29 R (pom R) so1 R (af 30 29 R R R R R so1 R (af 31 29 R R R R R so1 R (af 32 29 R R R R R so1 R (au 33 32 R R R R so1 R (au 34 32 R R R R so1 R (au 35 32 R R R R so1 R (au 36 32 R R R R so1 R (au 37 32 R R R R so1 R (au 38 32 R R R R so1 R (au 39 32 R R R R so1 R (au 40 32 R R R R so1 R (au 41 32 R R R R so1 R (af 42 29 R R R R R so1 R (aq 43 R (pit R R) so1 R (ae ?_)))))))))))))))))))))))))))))))))))))))
 exact wjm _ () (mtE t2) (su3 R R R) zn
 refine an 5 4 R R R R (pof fo_88_1 R) so1 R (an (v := iv ((gx a_list k1).From)) 6 4 R R R R (plx tk_3 pz R R) so1 R (a1 7 (bdO t2 fun v2 hv2 t2 => (ws_call_on (j := 4) R R R R (cz0 fa_58 R fun w hw => c_spec_l01In w ((gx a_list k1).From) 0 4 hv2) (fun _ => (zt so1)) R fun _ => (an 8 4 R R R R (po_not R) so1 R (aq 9 R (pif R R) so1 R (aq 10 R (pom R) so1 R (waO_ (t := 25) t2 R (fun h2 t2 => ?_) fun h2 t2 => ?_))))))))
 exact af 11 10 R R R R R so1 R (af 12 10 R R R R R so1 R (af 13 10 R R R R R so1 R (af 14 10 R R R R R so1 R (aq 15 R (pit R R) so1 R (aq 16 R (pom R) so1 R (af 17 16 R R R R R so1 R (af 18 16 R R R R R so1 R (af 19 16 R R R R R so1 R (af 20 16 R R R R R so1 R (af 21 16 R R R R R so1 R (aq 22 R (pit R R) so1 R (aq 23 R (pom R) so1 R (af 24 23 R R R R R so1 R (af 25 23 R R R R R so1 R (af 26 23 R R R R R so1 R (af 27 23 R R R R R so1 R (aq 28 R (pit R R) so1 R (aq 29 R (pom R) so1 R (af 30 29 R R R R R so1 R (af 31 29 R R R R R so1 R (af 32 29 R R R R R so1 R (au 33 32 R R R R so1 R (au 34 32 R R R R so1 R (au 35 32 R R R R so1 R (au 36 32 R R R R so1 R (au 37 32 R R R R so1 R (au 38 32 R R R R so1 R (au 39 32 R R R R so1 R (au 40 32 R R R R so1 R (au 41 32 R R R R so1 R (af 42 29 R R R R R so1 R (aq 43 R (pit R R) so1 R (ae (wjm _ () (mtE t2) (su3 R R R) zn))))))))))))))))))))))))))))))))))
 refine an 11 10 R R R R (pof fo_88_2 R) so1 R (an (v := iv ((gx a_list k1).To)) 12 10 R R R R (plx tk_3 pz R R) so1 R (a1 13 (bdO t2 fun v3 hv3 t2 => (ws_call_on (j := 10) R R R R (cz0 fa_58 R fun w hw => c_spec_l01In w ((gx a_list k1).To) 0 4 hv3) (fun _ => (zt so1)) R fun _ => (an 14 10 R R R R (po_not R) so1 R (aq 15 R (pif R R) so1 R (aq 16 R (pom R) so1 R (waO_ (t := 31) t2 R (fun h3 t2 => ?_) fun h3 t2 => ?_))))))))
 exact af 17 16 R R R R R so1 R (af 18 16 R R R R R so1 R (af 19 16 R R R R R so1 R (af 20 16 R R R R R so1 R (af 21 16 R R R R R so1 R (aq 22 R (pit R R) so1 R (aq 23 R (pom R) so1 R (af 24 23 R R R R R so1 R (af 25 23 R R R R R so1 R (af 26 23 R R R R R so1 R (af 27 23 R R R R R so1 R (aq 28 R (pit R R) so1 R (aq 29 R (pom R) so1 R (af 30 29 R R R R R so1 R (af 31 29 R R R R R so1 R (af 32 29 R R R R R so1 R (au 33 32 R R R R so1 R (au 34 32 R R R R so1 R (au 35 32 R R R R so1 R (au 36 32 R R R R so1 R (au 37 32 R R R R so1 R (au 38 32 R R R R so1 R (au 39 32 R R R R so1 R (au 40 32 R R R R so1 R (au 41 32 R R R R so1 R (af 42 29 R R R R R so1 R (aq 43 R (pit R R) so1 R (ae (wjm _ () (mtE t2) (su3 R R R) zn))))))))))))))))))))))))))))
 refine an 17 16 R R R R (pof fo_88_1 R) so1 R (an (v := iv ((gx a_list k1).From)) 18 16 R R R R (plx tk_3 pz R R) so1 R (an 19 16 R R R R (pof fo_88_2 R) so1 R (an (v := iv ((gx a_list k1).To)) 20 16 R R R R (plx tk_3 pz R R) so1 R (an 21 16 R R R R (pol R R) so1 R (aq 22 R (pif R R) so1 R (aq 23 R (pom R) so1 R (waO_ (t := 38) t2 R (fun h4 t2 => ?_) fun h4 t2 => ?_)))))))
 exact af 24 23 R R R R R so1 R (af 25 23 R R R R R so1 R (af 26 23 R R R R R so1 R (af 27 23 R R R R R so1 R (aq 28 R (pit R R) so1 R (aq 29 R (pom R) so1 R (af 30 29 R R R R R so1 R (af 31 29 R R R R R so1 R (af 32 29 R R R R R so1 R (au 33 32 R R R R so1 R (au 34 32 R R R R so1 R (au 35 32 R R R R so1 R (au 36 32 R R R R so1 R (au 37 32 R R R R so1 R (au 38 32 R R R R so1 R (au 39 32 R R R R so1 R (au 40 32 R R R R so1 R (au 41 32 R R R R so1 R (af 42 29 R R R R R so1 R (aq 43 R (pit R R) so1 R (ae (wjm _ () (mtE t2) (su3 R R R) zn)))))))))))))))))))))
 refine an 24 23 R R R R (pof fo_88_3 R) so1 R (an (v := iv ((gx a_list k1).Sum)) 25 23 R R R R (plx tk_3 pz R R) so1 R (a1 26 (bdO t2 fun v4 hv4 t2 => (ws_call_on (j := 23) R R R R (cz0 fa_58 R fun w hw => c_spec_l01In w ((gx a_list k1).Sum) 1 100000 hv4) (fun _ => (zt so1)) R fun _ => (an 27 23 R R R R (po_not R) so1 R (aq 28 R (pif R R) so1 R (aq 29 R (pom R) so1 R (waO_ (t := 44) t2 R (fun h5 t2 => ?_) fun h5 t2 => ?_))))))))
 exact af 30 29 R R R R R so1 R (af 31 29 R R R R R so1 R (af 32 29 R R R R R so1 R (au 33 32 R R R R so1 R (au 34 32 R R R R so1 R (au 35 32 R R R R so1 R (au 36 32 R R R R so1 R (au 37 32 R R R R so1 R (au 38 32 R R R R so1 R (au 39 32 R R R R so1 R (au 40 32 R R R R so1 R (au 41 32 R R R R so1 R (af 42 29 R R R R R so1 R (aq 43 R (pit R R) so1 R (ae (wjm _ () (mtE t2) (su3 R R R) zn)))))))))))))))
 refine an 30 29 R R R R (pom R) so1 R (an 31 29 R R R R (po_gtr R R) so1 R (an 32 29 R R R R (pom R) so1 R (waO_ (t := 47) t2 R (fun h6 t2 => ?_) fun h6 t2 => ?_)))
 exact an 33 32 R R R R (pof fo_88_0 R) so1 R (an (v := iv ((gx a_list k1).Day)) 34 32 R R R R (plx tk_3 pz R R) so1 R (an 35 32 R R R R (pom R) so1 R (an 36 32 R R R R (pom R) so1 R (an 37 32 R R R R (po_sub R R) so1 R (gdO t2 fun g2 t2 => (an 38 32 R R R R (po_ixr (rga r0) el_27 R R g2.1 g2.2) so1 R (an 39 32 R R R R (po_sfldr (rga r0) (ix_lt g2) fo_88_0 R) so1 R (an (v := iv ((gx a_list (((wr (((k1 : Nat) : Int) - 1))).toNat)).Day)) 40 32 R R R R (po_ldf (rga r0) tk_3 R (ix_lt g2) R) so1 R (an 41 32 R R R R (pls R R) so1 R (an 42 29 R R R R (pit R R) so1 R (aq 43 R (pif R R) so1 R (ae (wjm _ () (mtE t2) (su3 R R R) zn)))))))))))))
 exact af 33 32 R R R R R so1 R (af 34 32 R R R R R so1 R (af 35 32 R R R R R so1 R (af 36 32 R R R R R so1 R (af 37 32 R R R R R so1 R (af 38 32 R R R R R so1 R (af 39 32 R R R R R so1 R (af 40 32 R R R R R so1 R (af 41 32 R R R R R so1 R (an 42 29 R R R R (pif R R) so1 R (aq 43 R (pif R R) so1 R (ae (wjm _ () (mtE t2) (su3 R R R) zn))))))))))))
 intro j1 _ hp
 obtain rfl : j1 = y2 := hp.symm
 refine wqt (wcO t1 R (fun h7 t1 => ?_) fun h7 t1 => ?_)
 refine wcr (asg R R (wnt (wct (wbr (wqr (wqr (wbr (wqr (wqr ?_)))))))))
 replace t0 := lpR t0 l1 t1
 obtain rfl := oi t0
 exact wq1 R R fun w hw => ⟨R, hw.weak zn⟩
 refine wck (wqb (wqt (wcg (mv R R (wlq (po_inc R R (by omega)) R ?_)))))
 exact asg R R (wln (wq_rnd hk1 (stpN l1 t1) () (su2 R R) zn))
 have c1 : (decide (((k1 : Nat) : Int) < ((a_list.length : Nat) : Int))) = false := ddf (by omega)
 have en1 := foe l1 hk1
 exact wcs (wcr (mv R R (mv R R (wlq (pln (rga r0) el_27 R) R (wlq (pls R R) R (wnt (wff R c1 (wcx (wqe (wqe (wbx (wjm _ () en1 (su1 R) zn))))))))))))
 intro e1 _ hp
 replace t0 := sqE (j := e1) t0 hp
 refine wqt (wcr (mv R R (wlq (pln (rga r0) el_27 R) R (wlq (po_leq R R) R (asg R R (wnt (wct ?_)))))))
 obtain rfl := oi t0
 exact wq1 R R fun w hw => ⟨R, hw.weak zn⟩

theorem c_spec_CellOk (w : World) (a_c : GCell) {r : Bool} (t0 : spec_CellOk a_c = some r) : Calls Tryz.prog 63 #[.agg #[.int .i64 a_c.Split, .int .i64 a_c.A, .int .i64 a_c.B]] w fun e w' => e = .returned (.bool r) ∧ SH w [] [] w' := by
 refine cwc (args := [_]) Tryz.func63 R Tryz.ntmps63 R ?_
 unfold spec_CellOk at t0
 refine wcr (wle (eo_box R R) R fun b1 => (asg R R (wnt (wcs (wcs (bdO t0 fun y1 t1 t0 => (wj (J := Bool) (X := Unit) (fun z => y1 = z) (fun z _ => [(1, ptr b1 0), (18, .bool z)]) (fun _ _ => [box b1 [iv a_c.Split, iv a_c.A, iv a_c.B]]) ?_ ?_)))))))
 refine wcg (wlq (pof fo_75_0 R) R (wlq (v := iv a_c.Split) (plx tk_3 pz R R) R (bdO t1 fun v1 hv1 t1 => (wlc (cz0 fa_58 R fun w hw => c_spec_l01In w a_c.Split 0 2 hv1) R fun _ => (wlq (po_not R) R (mv R R (wlo (t := 7) t1 R (fun h1 t1 => ?_) fun h1 t1 => ?_)))))))
 exact wgf (j := 4) R R R R R (wgf (j := 4) R R R R R (wgf (j := 4) R R R R R (wgf (j := 4) R R R R R (wlq (pit R R) R (mv R R (wgf (j := 10) R R R R R (wgf (j := 10) R R R R R (wgf (j := 10) R R R R R (wgf (j := 10) R R R R R (wlq (pit R R) R (wln (wjm _ () (mtE t1) (su2 R R) so1))))))))))))
 refine wgn (j := 4) R R R (wlq (pof fo_75_1 R) R (wgn (j := 4) R R R (wlq (v := iv a_c.A) (plx tk_3 pz R R) R (bdO t1 fun v2 hv2 t1 => (wgn (j := 4) R R R (wlc (cz0 fa_58 R fun w hw => c_spec_l01In w a_c.A 0 5 hv2) R (fun _ => (wgn (j := 4) R R R (wlq (po_not R) R (wlq (pif R R) R (mv R R (wlo (t := 13) t1 R (fun h2 t1 => ?_) fun h2 t1 => ?_))))))))))))
 exact wgf (j := 10) R R R R R (wgf (j := 10) R R R R R (wgf (j := 10) R R R R R (wgf (j := 10) R R R R R (wlq (pit R R) R (wln (wjm _ () (mtE t1) (su2 R R) so1))))))
 exact wgn (j := 10) R R R (wlq (pof fo_75_2 R) R (wgn (j := 10) R R R (wlq (v := iv a_c.B) (plx tk_3 pz R R) R (bdO t1 fun v3 hv3 t1 => (wgn (j := 10) R R R (wlc (cz0 fa_58 R fun w hw => c_spec_l01In w a_c.B 0 5 hv3) R (fun _ => (wgn (j := 10) R R R (wlq (po_not R) R (wlq (pif R R) R (wln (wjm _ () (mtE t1) (su2 R R) so1))))))))))))
 intro j1 _ hp
 obtain rfl : j1 = y1 := hp.symm
 refine wqt (wcO t0 R (fun h3 t0 => ?_) fun h3 t0 => ?_)
 refine wcr (asg R R (wnt (wct (wqr ?_))))
 obtain rfl := oi t0
 exact wq1 R R fun w hw => ⟨R, hw.weak zn⟩
 refine wck (wqt (wcr (wlq (pof fo_75_0 R) R (wlq (v := iv a_c.Split) (plx tk_3 pz R R) R (wlq (pol R R) R (wlq (pof fo_75_1 R) R (wlq (v := iv a_c.A) (plx tk_3 pz R R) R (wlq (pof fo_75_2 R) R (wlq (v := iv a_c.B) (plx tk_3 pz R R) R (wlq (pol R R) R (wlq (po_eql_bool ub_4 R R) R (asg R R (wnt (wct ?_))))))))))))))
 obtain rfl := oi t0
 exact wq1 R R fun w hw => ⟨R, hw.weak zn⟩

theorem c_spec_BlockOk (w : World) (a_b : GBlock) (v0a : Hd) (r0 : rdF w (dm w []) (sl v0a) a_b.Cells) {r : Bool} (t0 : spec_BlockOk a_b = some r) : Calls Tryz.prog 69 #[.agg #[.int .i64 a_b.Size, (sl v0a)]] w fun e w' => e = .returned (.bool r) ∧ SH w [] [] w' := by
 refine cwc (args := [_]) Tryz.func69 R Tryz.ntmps69 R ?_
 unfold spec_BlockOk at t0
 refine wcr (wle (eo_box R R) R fun b1 => (asg R R (wnt (wcs (wcs (bdO t0 fun y1 t1 t0 => (wj (J := Bool) (X := Unit) (fun z => y1 = z) (fun z _ => [(1, ptr b1 0), (18, .bool z)]) (fun _ _ => [box b1 [iv a_b.Size, (sl v0a)]]) ?_ ?_)))))))
 refine wcg (wlq (pof fo_73_0 R) R (wlq (v := iv a_b.Size) (plx tk_3 pz R R) R (bdO t1 fun v1 hv1 t1 => (wlc (cz0 fa_58 R fun w hw => c_spec_l01In w a_b.Size 1 4 hv1) R fun _ => (wlq (po_not R) R (mv R R (wlo (t := 8) t1 R (fun h1 t1 => ?_) fun h1 t1 => ?_)))))))
 exact wgf (j := 4) R R R R R (wgf (j := 4) R R R R R (wgf (j := 4) R R R R R (wgf (j := 4) R R R R R (wgf (j := 4) R R R R R (wgf (j := 4) R R R R R (wgf (j := 4) R R R R R (wgf (j := 4) R R R R R (wgf (j := 4) R R R R R (wlq (pit R R) R (wln (wjm _ () (mtE t1) (su2 R R) so1)))))))))))
 exact wgn (j := 4) R R R (wlq (pof fo_73_1 R) R (wgn (j := 4) R R R (wlq (v := (sl v0a)) (plx tk_71 pz R R) R (wgn (j := 4) R R R (wlq (pln (rga r0) el_71 R) R (wgn (j := 4) R R R (wlq (pof fo_73_0 R) R (wgn (j := 4) R R R (wlq (v := iv a_b.Size) (plx tk_3 pz R R) R (wgn (j := 4) R R R (wlq (pof fo_73_0 R) R (wgn (j := 4) R R R (wlq (v := iv a_b.Size) (plx tk_3 pz R R) R (wgn (j := 4) R R R (wlq (po_mul R R) R (wgn (j := 4) R R R (wlq (po_neq R R) R (wlq (pif R R) R (wln (wjm _ () (mtE t1) (su2 R R) so1))))))))))))))))))))
 intro j1 _ hp
 obtain rfl : j1 = y1 := hp.symm
 refine wqt (wcO t0 R (fun h2 t0 => ?_) fun h2 t0 => ?_)
 refine wcr (asg R R (wnt (wct (wqr ?_))))
 obtain rfl := oi t0
 exact wq1 R R fun w hw => ⟨R, hw.weak zn⟩
 refine wck (wqt (wcs (wcr (asg R R (wnt (gdO t0 fun g1 t0 => (sqO t0 fun y1 l1 t0 => (wj (J := Unit) (X := Unit) (fun z => y1 = .inl z) (fun _ _ => []) (fun _ _ => []) ?_ ?_))))))))
 refine wcb (wcf (X := Unit) l1 (fun k1 s1 x1l => [(1, ptr b1 0), (3, iv ((k1 : Nat) : Int))]) (fun k1 s1 x1l => [box b1 [iv a_b.Size, (sl v0a)]]) () (su2 R R) so1 fun k1 s1 x1l hN1 l1 => ?_)
 by_cases hk1 : k1 < a_b.Cells.length
 refine fos l1 hk1 fun _ t1 l1 => ?_
 unfold spec_BlockOk_L1 at t1
 have c1 : (decide (((k1 : Nat) : Int) < ((a_b.Cells.length : Nat) : Int))) = true := ddt (by omega)
 refine wcs (wcr (mv R R (wlq (pof fo_73_1 R) R (wlq (v := (sl v0a)) (plx tk_71 pz R R) R (wlq (pln (rga r0) el_71 R) R (wlq (pls R R) R (wnt (wft R c1 (wck (wqt (wcs (wcb (wcr (wlq (pof fo_73_1 R) R (wlq (v := (sl v0a)) (plx tk_71 pz R R) R (mv R R (wlq (po_ixn (k := k1) (rga r0) el_71 R R hk1) R (wlq (v := .agg #[iv ((gx a_b.Cells k1).Split), iv ((gx a_b.Cells k1).A), iv ((gx a_b.Cells k1).B)]) (po_ldfs (rga r0) tk_75 R hk1 R R R) R (bdO t1 fun v2 hv2 t1 => (wlc (cz0 fa_63 R fun w hw => c_spec_CellOk w (gx a_b.Cells k1) hv2) R fun _ => (wlq (po_not R) R (wnt (wcO t1 R (fun h3 t1 => ?_) fun h3 t1 => ?_)))))))))))))))))))))))
 refine wcr (asg R R (wnt (wct (wbr (wqr (wqr (wbr (wqr (wqr ?_)))))))))
 replace t0 := lpR t0 l1 t1
 obtain rfl := oi t0
 exact wq1 R R fun w hw => ⟨R, hw.weak zn⟩
 refine wck (wqb (wqt (wcg (mv R R (wlq (po_inc R R (by omega)) R ?_)))))
 exact asg R R (wln (wq_rnd hk1 (stpN l1 t1) () (su2 R R) so1))
 have c1 : (decide (((k1 : Nat) : Int) < ((a_b.Cells.length : Nat) : Int))) = false := ddf (by omega)
 have en1 := foe l1 hk1
 exact wcs (wcr (mv R R (wlq (pof fo_73_1 R) R (wlq (v := (sl v0a)) (plx tk_71 pz R R) R (wlq (pln (rga r0) el_71 R) R (wlq (pls R R) R (wnt (wff R c1 (wcx (wqe (wqe (wbx (wjm _ () en1 yn zn)))))))))))))
 intro e1 _ hp
 replace t0 := sqE (j := e1) t0 hp
 refine wqt (wcr (asg R R (wnt (wct ?_))))
 obtain rfl := oi t0
 exact wq1 R R fun w hw => ⟨R, hw.weak zn⟩

theorem c_spec_EntryOk (w : World) (a_e : GEntry) (v0a : Hd) (r0 : rdF w (dm w []) (sl v0a) a_e.Block.Cells) {r : Bool} (t0 : spec_EntryOk a_e = some r) : Calls Tryz.prog 59 #[.agg #[.int .i64 a_e.Owner, .int .i64 a_e.Day, .int .i64 a_e.Block.Size, (sl v0a)]] w fun e w' => e = .returned (.bool r) ∧ SH w [] [] w' := by
 refine cwc (args := [_]) Tryz.func59 R Tryz.ntmps59 R ?_
 unfold spec_EntryOk at t0
 refine wcr (wle (eo_box R R) R fun b1 => (asg R R (wnt (wcs (bdO t0 fun y1 t1 t0 => (wj (J := Bool) (X := Unit) (fun z => y1 = z) (fun z _ => [(2, .bool z)]) (fun _ _ => []) ?_ ?_))))))
 refine wcg (wlq (pof fo_96_0 R) R (wlq (v := iv a_e.Owner) (plx tk_3 pz R R) R (bdO t1 fun v1 hv1 t1 => (wlc (cz0 fa_58 R fun w hw => c_spec_l01In w a_e.Owner 0 99 hv1) R fun _ => (mv R R (wlo (t := 6) t1 R (fun h1 t1 => ?_) fun h1 t1 => ?_))))))
 refine wgn (j := 3) R R R (wlq (pof fo_96_1 R) R (wgn (j := 3) R R R (wlq (v := iv a_e.Day) (plx tk_3 pz R R) R (bdO t1 fun v2 hv2 t1 => (wgn (j := 3) R R R (wlc (cz0 fa_58 R fun w hw => c_spec_l01In w a_e.Day 0 9999 hv2) R (fun _ => (wlq (pit R R) R (mv R R (wlo (t := 11) t1 R (fun h2 t1 => ?_) fun h2 t1 => ?_))))))))))
 exact wgn (j := 8) R R R (wlq (pof fo_96_2 R) R (wgn (j := 8) R R R (wlq (v := .agg #[iv a_e.Block.Size, (sl v0a)]) (plb tk_73 pz R R R) R (bdO t1 fun v3 hv3 t1 => (wgn (j := 8) R R R (wlc (cz0 fa_69 R fun w hw => c_spec_BlockOk w a_e.Block v0a (ra r0 hw) hv3) R (fun _ => (wlq (pit R R) R (asg R R (wln (wjm _ () (mtE t1) (su1 R) zn)))))))))))
 exact wgf (j := 8) R R R R R (wgf (j := 8) R R R R R (wgf (j := 8) R R R R R (wlq (pif R R) R (asg R R (wln (wjm _ () (mtE t1) (su1 R) zn))))))
 exact wgf (j := 3) R R R R R (wgf (j := 3) R R R R R (wgf (j := 3) R R R R R (wlq (pif R R) R (mv R R (wgf (j := 8) R R R R R (wgf (j := 8) R R R R R (wgf (j := 8) R R R R R (wlq (pif R R) R (asg R R (wln (wjm _ () (mtE t1) (su1 R) zn)))))))))))
 intro j1 _ hp
 obtain rfl : j1 = y1 := hp.symm
 refine wqt (wct ?_)
 obtain rfl := oi t0
 exact wq1 R R fun w hw => ⟨R, hw.weak zn⟩

theorem c_spec_l38Member (w : World) (a_list : List GMember) (v0a : Hd) (r0 : rdF w (dm w []) (sl v0a) a_list) (a_number : Int) {r : Bool} (t0 : spec_l38Member a_list a_number = some r) : Calls Tryz.prog 60 #[(sl v0a), .int .i64 a_number] w fun e w' => e = .returned (.bool r) ∧ SH w [] [] w' := by
 refine cwc (args := [_, _]) Tryz.func60 R Tryz.ntmps60 R ?_
 unfold spec_l38Member at t0
 refine wcr (asg R R (wnt (wcs (wcr (asg R R (wnt (gdO t0 fun g1 t0 => (sqO t0 fun y1 l1 t0 => (wj (J := Unit) (X := Unit) (fun z => y1 = .inl z) (fun _ _ => []) (fun _ _ => []) ?_ ?_)))))))))
 refine wcb (wcf (X := Unit) l1 (fun k1 s1 x1l => [(0, (sl v0a)), (1, iv a_number), (5, iv ((k1 : Nat) : Int))]) (fun k1 s1 x1l => []) () (su3 R R R) zn fun k1 s1 x1l hN1 l1 => ?_)
 by_cases hk1 : k1 < a_list.length
 refine fos l1 hk1 fun _ t1 l1 => ?_
 unfold spec_l38Member_L1 at t1
 have c1 : (decide (((k1 : Nat) : Int) < ((a_list.length : Nat) : Int))) = true := ddt (by omega)
 refine wcs (wcr (mv R R (mv R R (wlq (pln (rga r0) el_24 R) R (wlq (pls R R) R (wnt (wft R c1 (wck (wqt (wcs (wcb (wcr (mv R R (mv R R (wlq (po_ixn (k := k1) (rga r0) el_24 R R hk1) R (wlq (po_sfldr (rga r0) hk1 fo_79_0 R) R (wlq (v := iv ((gx a_list k1).Number)) (po_ldf (rga r0) tk_3 R hk1 R) R (mv R R (wlq (pol R R) R (wnt (wcO t1 R (fun h1 t1 => ?_) fun h1 t1 => ?_)))))))))))))))))))))
 refine wcr (asg R R (wnt (wct (wbr (wqr (wqr (wbr (wqr (wqr ?_)))))))))
 replace t0 := lpR t0 l1 t1
 obtain rfl := oi t0
 exact wq1 R R fun w hw => ⟨R, hw.weak zn⟩
 refine wck (wqb (wqt (wcg (mv R R (wlq (po_inc R R (by omega)) R ?_)))))
 exact asg R R (wln (wq_rnd hk1 (stpN l1 t1) () (su3 R R R) zn))
 have c1 : (decide (((k1 : Nat) : Int) < ((a_list.length : Nat) : Int))) = false := ddf (by omega)
 have en1 := foe l1 hk1
 exact wcs (wcr (mv R R (mv R R (wlq (pln (rga r0) el_24 R) R (wlq (pls R R) R (wnt (wff R c1 (wcx (wqe (wqe (wbx (wjm _ () en1 yn zn))))))))))))
 intro e1 _ hp
 replace t0 := sqE (j := e1) t0 hp
 refine wqt (wcr (asg R R (wnt (wct ?_))))
 obtain rfl := oi t0
 exact wq1 R R fun w hw => ⟨R, hw.weak zn⟩

theorem c_spec_GoodStanding (w : World) (a_list : List GMember) (v0a : Hd) (r0 : rdF w (dm w []) (sl v0a) a_list) (a_year : Int) {r : List Int} (t0 : spec_GoodStanding a_list a_year = some r) : Calls Tryz.prog 70 #[(sl v0a), .int .i64 a_year] w fun e w' => ∃ x : Hd, e = .returned ((sl x)) ∧ SH w [] [ownF (sl x) r] w' := by
 refine cwc (args := [_, _]) Tryz.func70 R Tryz.ntmps70 R ?_
 unfold spec_GoodStanding at t0
 refine wcr (asg R R (wnt (wcr (wle (ebs R sb_25_0) R fun b1 => (asg R R (wnt (wcs (wcr (asg R R (wnt (gdO t0 fun g1 t0 => (lpO_inv t0 fun y1 l1 t0 => (wj (J := List Int) (X := Hd) (fun z => y1 = z) (fun _ x => [(5, (sl x))]) (fun z x => [ownF (sl x) z]) ?_ ?_)))))))))))))
 refine wcb (wcf (X := Hd) l1 (fun k1 s1 x1l => [(0, (sl v0a)), (1, iv a_year), (5, (sl x1l)), (6, iv ((k1 : Nat) : Int))]) (fun k1 s1 x1l => [ownF (sl x1l) s1]) (⟨some ⟨b1, 0, none⟩, 0, 0⟩ : Hd) (su4 R R R R) (zc (pbo pz (n := 0) (xs := ([] : List Int)) R R (by unfold maxLen; omega)) zn) fun k1 s1 x1l hN1 l1 => ?_)
 by_cases hk1 : k1 < a_list.length
 refine fos l1 hk1 fun _ t1 l1 => ?_
 unfold spec_GoodStanding_L1 at t1
 have c1 : (decide (((k1 : Nat) : Int) < ((a_list.length : Nat) : Int))) = true := ddt (by omega)
 refine wcs (wcr (mv R R (mv R R (wlq (pln (rga r0) el_24 R) R (wlq (pls R R) R (mv R R (wl_know (t := 12) R c1 (wgn (j := 4) R R R (mv R R (bdO t1 fun v1 hv1 t1 => (wgn (j := 4) R R R (wlc (cz0 fa_55 R fun w hw => c_spec_MembersOk w a_list v0a (ra r0 hw) hv1) R (fun _ => (wlq (pit R R) R (wnt (wcO t1 R (fun h1 t1 => ?_) fun h1 t1 => ?_))))))))))))))))
 refine wck (wqt (wcs (wcb (wcr (mv R R (mv R R (wlq (po_ixn (k := k1) (rga r0) el_24 R R hk1) R (wlq (po_sfldr (rga r0) hk1 fo_79_2 R) R (wlq (v := iv ((gx a_list k1).Paid)) (po_ldf (rga r0) tk_3 R hk1 R) R (mv R R (wlq (po_geq R R) R (wnt (bdO t1 fun y2 t2 t1 => (wj (J := List Int) (X := Hd) (fun z => y2 = z) (fun _ x => [(0, (sl v0a)), (1, iv a_year), (5, (sl x)), (6, iv ((k1 : Nat) : Int)), (13, (sl v0a)), (14, .bool v1)]) (fun z x => [ownF (sl x) z]) ?_ ?_))))))))))))))
 refine wcO t2 R (fun h2 t2 => ?_) fun h2 t2 => ?_
 refine wcg (mv R R (mv R R (mv R R (wlq (po_ixn (k := k1) (rga r0) el_24 R R hk1) R (wlq (po_sfldr (rga r0) hk1 fo_79_0 R) R (wlq (v := iv ((gx a_list k1).Number)) (po_ldf (rga r0) tk_3 R hk1 R) R (wle (ebs R (sb_25_1 ((gx a_list k1).Number))) R fun b2 => (gdO t2 fun g2 t2 => (wle (eo_append (xs := s1) (ys := ([(gx a_list k1).Number] : List Int)) ak_25 pk1 R R (slin_rd fun _ g => Rg.on (rgo (pbo pz (n := 1) (xs := ([(gx a_list k1).Number] : List Int)) R R (by unfold maxLen; omega))) g) g2) R fun x3 => ?_)))))))))
 exact asg R R (wln (wjm _ x3 (mtE t2) (su6 R R R R R R) so1))
 exact wck (wjm _ x1l (mtE t2) (su6 R R R R R R) so1)
 intro j1 x2 hp
 obtain rfl : j1 = y2 := hp.symm
 refine wqb (wqt (wcg (mv R R (wlq (po_inc R R (by omega)) R ?_))))
 exact asg R R (wln (wq_rnd hk1 (stpN l1 t1) x2 (su4 R R R R) so1))
 exact wcx (wqe (wqe (wbx (wjm _ x1l (Sum.inl.inj (stpB l1 t1)) (su1 R) so1))))
 have c1 : (decide (((k1 : Nat) : Int) < ((a_list.length : Nat) : Int))) = false := ddf (by omega)
 have en1 := foe l1 hk1
 exact wcs (wcr (mv R R (mv R R (wlq (pln (rga r0) el_24 R) R (wlq (pls R R) R (mv R R (wl_know (t := 12) R c1 (wgf (j := 4) R R R R R (wgf (j := 4) R R R R R (wlq (pif R R) R (wnt (wff R R (wcx (wqe (wqe (wbx (wjm _ x1l (Sum.inl.inj en1) (su1 R) so1)))))))))))))))))
 intro e1 x1 hp
 obtain rfl : e1 = y1 := hp.symm
 refine wqt (wcr (mv R R (asg R R (wnt (wct ?_)))))
 obtain rfl := oi t0
 exact wq1 R R fun w hw => ⟨x1, R, hw.weak so1⟩

theorem c_spec_SwapRounds (w : World) (a_g : GGuild) (v0a : Hd) (r0 : rdF w (dm w []) (sl v0a) a_g.Members) (v1a : Hd) (_r1 : rdF w (dm w []) (sl v1a) a_g.Stock) (v2a : Hd) (u2a : List Value) (_r2 : RdL w (dm w []) (sl v2a) u2a a_g.Entries) (v3a : Hd) (_r3 : rdF w (dm w []) (sl v3a) a_g.Books) {r : Int} (t0 : spec_SwapRounds a_g = some r) : Calls Tryz.prog 61 #[.agg #[(sl v0a), (sl v1a), (sl v2a), (sl v3a), .int .i64 a_g.Round, .int .i64 a_g.Year]] w fun e w' => e = .returned (.int .i64 r) ∧ SH w [] [] w' := by
 refine cwc (args := [_]) Tryz.func61 R Tryz.ntmps61 R ?_
 unfold spec_SwapRounds at t0
 refine wcr (wle (eo_box R R) R fun b1 => (asg R R (wnt (wcr (wlq (pof fo_29_0 R) R (wlq (v := (sl v0a)) (plx tk_24 pz R R) R (wlq (pof fo_29_5 R) R (wlq (v := iv a_g.Year) (plx tk_3 pz R R) R (bdO t0 fun v1 hv1 t0 => (wlc (cz1 fa_70 R fun w hw => c_spec_GoodStanding w a_g.Members v0a (ra r0 hw) a_g.Year hv1) R fun x1 => (wlq (pln (rgo pz) el_25 R) R (asg R R (wnt (wcs (wcr (mv R R (bdO t0 fun v2 hv2 t0 => (wlc (cz0 fa_58 R fun w hw => c_spec_l01In w ((v1.length : Nat) : Int) 2 10 hv2) R fun _ => (wlq (po_not R) R (wnt (wcO t0 R (fun h1 t0 => ?_) fun h1 t0 => ?_)))))))))))))))))))))
 refine wcr (asg R R (wnt (wct (wqr ?_))))
 obtain rfl := oi t0
 exact wq1 R R fun w hw => ⟨R, hw.weak zn⟩
 refine wck (wqt (wcr (mv R R (wlq (po_sub R R) R (asg R R (wnt (wct ?_)))))))
 obtain rfl := oi t0
 exact wq1 R R fun w hw => ⟨R, hw.weak zn⟩

theorem c_spec_GuildOk (w : World) (a_g : GGuild) (v0a : Hd) (r0 : rdF w (dm w []) (sl v0a) a_g.Members) (v1a : Hd) (r1 : rdF w (dm w []) (sl v1a) a_g.Stock) (v2a : Hd) (u2a : List Value) (r2 : RdL w (dm w []) (sl v2a) u2a a_g.Entries) (v3a : Hd) (r3 : rdF w (dm w []) (sl v3a) a_g.Books) {r : Bool} (t0 : spec_GuildOk a_g = some r) : Calls Tryz.prog 39 #[.agg #[(sl v0a), (sl v1a), (sl v2a), (sl v3a), .int .i64 a_g.Round, .int .i64 a_g.Year]] w fun e w' => e = .returned (.bool r) ∧ SH w [] [] w' := by
 refine cwc (args := [_]) Tryz.func39 R Tryz.ntmps39 R ?_
 unfold spec_GuildOk at t0
 refine wcr (wle (eo_box R R) R fun b1 => (asg R R (wnt (wcs (wcs (bdO t0 fun y1 t1 t0 => (wj (J := Bool) (X := Unit) (fun z => y1 = z) (fun z _ => [(1, ptr b1 0), (32, .bool z)]) (fun _ _ => [box b1 [(sl v0a), (sl v1a), (sl v2a), (sl v3a), iv a_g.Round, iv a_g.Year]]) ?_ ?_)))))))
 refine wcg (wlq (pof fo_29_0 R) R (wlq (v := (sl v0a)) (plx tk_24 pz R R) R (bdO t1 fun v1 hv1 t1 => (wlc (cz0 fa_55 R fun w hw => c_spec_MembersOk w a_g.Members v0a (ra r0 hw) hv1) R fun _ => (wlq (po_not R) R (mv R R (wlo (t := 9) t1 R (fun h1 t1 => ?_) fun h1 t1 => ?_)))))))
 exact wgf (j := 4) R R R R R (wgf (j := 4) R R R R R (wgf (j := 4) R R R R R (wgf (j := 4) R R R R R (wlq (pit R R) R (mv R R (wgf (j := 10) R R R R R (wgf (j := 10) R R R R R (wgf (j := 10) R R R R R (wgf (j := 10) R R R R R (wlq (pit R R) R (mv R R (wgf (j := 16) R R R R R (wgf (j := 16) R R R R R (wgf (j := 16) R R R R R (wgf (j := 16) R R R R R (wlq (pit R R) R (mv R R (wgf (j := 22) R R R R R (wgf (j := 22) R R R R R (wgf (j := 22) R R R R R (wgf (j := 22) R R R R R (wlq (pit R R) R (wln (wjm _ () (mtE t1) (su2 R R) so1))))))))))))))))))))))))
 refine wgn (j := 4) R R R (wlq (pof fo_29_1 R) R (wgn (j := 4) R R R (wlq (v := (sl v1a)) (plx tk_25 pz R R) R (bdO t1 fun v2 hv2 t1 => (wgn (j := 4) R R R (wlc (cz0 fa_56 R fun w hw => c_spec_StockOk w a_g.Stock v1a (ra r1 hw) hv2) R (fun _ => (wgn (j := 4) R R R (wlq (po_not R) R (wlq (pif R R) R (mv R R (wlo (t := 15) t1 R (fun h2 t1 => ?_) fun h2 t1 => ?_))))))))))))
 exact wgf (j := 10) R R R R R (wgf (j := 10) R R R R R (wgf (j := 10) R R R R R (wgf (j := 10) R R R R R (wlq (pit R R) R (mv R R (wgf (j := 16) R R R R R (wgf (j := 16) R R R R R (wgf (j := 16) R R R R R (wgf (j := 16) R R R R R (wlq (pit R R) R (mv R R (wgf (j := 22) R R R R R (wgf (j := 22) R R R R R (wgf (j := 22) R R R R R (wgf (j := 22) R R R R R (wlq (pit R R) R (wln (wjm _ () (mtE t1) (su2 R R) so1))))))))))))))))))
 refine wgn (j := 10) R R R (wlq (pof fo_29_3 R) R (wgn (j := 10) R R R (wlq (v := (sl v3a)) (plx tk_27 pz R R) R (bdO t1 fun v3 hv3 t1 => (wgn (j := 10) R R R (wlc (cz0 fa_57 R fun w hw => c_spec_LedgerOk w a_g.Books v3a (ra r3 hw) hv3) R (fun _ => (wgn (j := 10) R R R (wlq (po_not R) R (wlq (pif R R) R (mv R R (wlo (t := 21) t1 R (fun h3 t1 => ?_) fun h3 t1 => ?_))))))))))))
 exact wgf (j := 16) R R R R R (wgf (j := 16) R R R R R (wgf (j := 16) R R R R R (wgf (j := 16) R R R R R (wlq (pit R R) R (mv R R (wgf (j := 22) R R R R R (wgf (j := 22) R R R R R (wgf (j := 22) R R R R R (wgf (j := 22) R R R R R (wlq (pit R R) R (wln (wjm _ () (mtE t1) (su2 R R) so1))))))))))))
 refine wgn (j := 16) R R R (wlq (pof fo_29_2 R) R (wgn (j := 16) R R R (wlq (v := (sl v2a)) (plx tk_26 pz R R) R (wgn (j := 16) R R R (wlq (pln (rga r2) el_26 R) R (wgn (j := 16) R R R (wlq (po_gtr R R) R (wlq (pif R R) R (mv R R (wlo (t := 27) t1 R (fun h4 t1 => ?_) fun h4 t1 => ?_))))))))))
 exact wgf (j := 22) R R R R R (wgf (j := 22) R R R R R (wgf (j := 22) R R R R R (wgf (j := 22) R R R R R (wlq (pit R R) R (wln (wjm _ () (mtE t1) (su2 R R) so1))))))
 exact wgn (j := 22) R R R (wlq (pof fo_29_5 R) R (wgn (j := 22) R R R (wlq (v := iv a_g.Year) (plx tk_3 pz R R) R (bdO t1 fun v4 hv4 t1 => (wgn (j := 22) R R R (wlc (cz0 fa_58 R fun w hw => c_spec_l01In w a_g.Year 1900 2999 hv4) R (fun _ => (wgn (j := 22) R R R (wlq (po_not R) R (wlq (pif R R) R (wln (wjm _ () (mtE t1) (su2 R R) so1))))))))))))
 intro j1 _ hp
 obtain rfl : j1 = y1 := hp.symm
 refine wqt (wcO t0 R (fun h5 t0 => ?_) fun h5 t0 => ?_)
 refine wcr (asg R R (wnt (wct (wqr ?_))))
 obtain rfl := oi t0
 exact wq1 R R fun w hw => ⟨R, hw.weak zn⟩
 refine wck (wqt (wcs (wcr (asg R R (wnt (gdO t0 fun g1 t0 => (sqO t0 fun y1 l1 t0 => (wj (J := Unit) (X := Unit) (fun z => y1 = .inl z) (fun _ _ => [(1, ptr b1 0)]) (fun _ _ => [box b1 [(sl v0a), (sl v1a), (sl v2a), (sl v3a), iv a_g.Round, iv a_g.Year]]) ?_ ?_))))))))
 refine wcb (wcf (X := Unit) l1 (fun k1 s1 x1l => [(1, ptr b1 0), (3, iv ((k1 : Nat) : Int))]) (fun k1 s1 x1l => [box b1 [(sl v0a), (sl v1a), (sl v2a), (sl v3a), iv a_g.Round, iv a_g.Year]]) () (su2 R R) so1 fun k1 s1 x1l hN1 l1 => ?_)
 by_cases hk1 : k1 < a_g.Entries.length
 refine fos l1 hk1 fun _ t1 l1 => ?_
 unfold spec_GuildOk_L1 at t1
 have c1 : (decide (((k1 : Nat) : Int) < ((a_g.Entries.length : Nat) : Int))) = true := ddt (by omega)
 refine wcs (wcr (mv R R (wlq (pof fo_29_2 R) R (wlq (v := (sl v2a)) (plx tk_26 pz R R) R (wlq (pln (rga r2) el_26 R) R (wlq (pls R R) R (wnt (wft R c1 (wck (wqt (wcs (wcb (wcr (wlq (pof fo_29_2 R) R (wlq (v := (sl v2a)) (plx tk_26 pz R R) R (mv R R (wlq (po_ixn (k := k1) (rga r2) el_26 R R hk1) R (wl_elem (rga r2) hk1 ?_))))))))))))))))))
 rintro ⟨_, _, he1⟩
 obtain ⟨w1, hc1, _⟩ := rd_GEntry.1 he1
 refine wlq (v := .agg #[iv ((gx a_g.Entries k1).Owner), iv ((gx a_g.Entries k1).Day), iv (((gx a_g.Entries k1).Block).Size), (sl w1)]) (po_ldns (rga r2) tk_96 R hc1 R R R) R (wle (eal (cs := [iv 0, iv 0, iv 0, (sl hn)]) za_96) R fun b2 => (wls (sbx (cs' := [iv ((gx a_g.Entries k1).Owner), iv ((gx a_g.Entries k1).Day), iv (((gx a_g.Entries k1).Block).Size), (sl w1)]) tk_96 pz R R R R R R R) (wnt (wcs (bdO t1 fun y2 t2 t1 => (wj (J := Bool) (X := Unit) (fun z => y2 = z) (fun z _ => [(1, ptr b1 0), (3, iv ((k1 : Nat) : Int)), (71, .bool z)]) (fun _ _ => [box b1 [(sl v0a), (sl v1a), (sl v2a), (sl v3a), iv a_g.Round, iv a_g.Year]]) ?_ ?_))))))
 refine wcd [box b2 [iv ((gx a_g.Entries k1).Owner), iv ((gx a_g.Entries k1).Day), iv (((gx a_g.Entries k1).Block).Size), (sl w1)], box b1 [(sl v0a), (sl v1a), (sl v2a), (sl v3a), iv a_g.Round, iv a_g.Year]] 27 mixed (aq (v := .agg #[iv ((gx a_g.Entries k1).Owner), iv ((gx a_g.Entries k1).Day), iv (((gx a_g.Entries k1).Block).Size), (sl w1)]) 0 R (plb tk_96 pz R R R) so2 R (a1 1 (bdO t2 fun v5 hv5 t2 => (wsc R (cz0 fa_59 R fun w hw => c_spec_EntryOk w (GEntry.mk ((gx a_g.Entries k1).Owner) ((gx a_g.Entries k1).Day) ((gx a_g.Entries k1).Block)) w1 (Rg.on (er_GEntry_0 hc1 (rga r2) hk1) hw) hv5) (fun _ => (zt so2)) R fun _ => (aq 2 R (po_not R) so2 R (aq 3 R (pom R) so2 R (waO_ (t := 48) t2 R (fun h6 t2 => ?_) fun h6 t2 => ?_)))))))
 exact af 4 3 R R R R R so2 R (af 5 3 R R R R R so2 R (af 6 3 R R R R R so2 R (af 7 3 R R R R R so2 R (af 8 3 R R R R R so2 R (af 9 3 R R R R R so2 R (aq 10 R (pit R R) so2 R (aq 11 R (pom R) so2 R (af 12 11 R R R R R so2 R (af 13 11 R R R R R so2 R (af 14 11 R R R R R so2 R (au 15 14 R R R R so2 R (au 16 14 R R R R so2 R (au 17 14 R R R R so2 R (au 18 14 R R R R so2 R (au 19 14 R R R R so2 R (au 20 14 R R R R so2 R (au 21 14 R R R R so2 R (au 22 14 R R R R so2 R (au 23 14 R R R R so2 R (au 24 14 R R R R so2 R (af 25 11 R R R R R so2 R (aq 26 R (pit R R) so2 R (ae (wjm _ () (mtE t2) (su3 R R R) (zc pk1 zn)))))))))))))))))))))))))
 refine an 4 3 R R R R (pof fo_29_0 R) so2 R (an (v := (sl v0a)) 5 3 R R R R (plx tk_24 pk1 R R) so2 R (an 6 3 R R R R (pof fo_96_0 R) so2 R (an (v := iv ((gx a_g.Entries k1).Owner)) 7 3 R R R R (plx tk_3 pz R R) so2 R (a1 8 (bdO t2 fun v6 hv6 t2 => (ws_call_on (j := 3) R R R R (cz0 fa_60 R fun w hw => c_spec_l38Member w a_g.Members v0a (ra r0 hw) ((gx a_g.Entries k1).Owner) hv6) (fun _ => (zt so2)) R fun _ => (an 9 3 R R R R (po_not R) so2 R (aq 10 R (pif R R) so2 R (aq 11 R (pom R) so2 R (waO_ (t := 56) t2 R (fun h7 t2 => ?_) fun h7 t2 => ?_))))))))))
 exact af 12 11 R R R R R so2 R (af 13 11 R R R R R so2 R (af 14 11 R R R R R so2 R (au 15 14 R R R R so2 R (au 16 14 R R R R so2 R (au 17 14 R R R R so2 R (au 18 14 R R R R so2 R (au 19 14 R R R R so2 R (au 20 14 R R R R so2 R (au 21 14 R R R R so2 R (au 22 14 R R R R so2 R (au 23 14 R R R R so2 R (au 24 14 R R R R so2 R (af 25 11 R R R R R so2 R (aq 26 R (pit R R) so2 R (ae (wjm _ () (mtE t2) (su3 R R R) (zc pk1 zn)))))))))))))))))
 refine an 12 11 R R R R (pom R) so2 R (an 13 11 R R R R (po_gtr R R) so2 R (an 14 11 R R R R (pom R) so2 R (waO_ (t := 59) t2 R (fun h8 t2 => ?_) fun h8 t2 => ?_)))
 refine an 15 14 R R R R (pof fo_96_1 R) so2 R (an (v := iv ((gx a_g.Entries k1).Day)) 16 14 R R R R (plx tk_3 pz R R) so2 R (an 17 14 R R R R (pof fo_29_2 R) so2 R (an (v := (sl v2a)) 18 14 R R R R (plx tk_26 pk1 R R) so2 R (an 19 14 R R R R (pom R) so2 R (an 20 14 R R R R (po_sub R R) so2 R (gdO t2 fun g2 t2 => (an 21 14 R R R R (po_ixr (rga r2) el_26 R R g2.1 g2.2) so2 R (an 22 14 R R R R (po_sfldr (rga r2) (ix_lt g2) fo_96_1 R) so2 R (wa_elem (rga r2) (ix_lt g2) ?_)))))))))
 rintro ⟨_, _, he2⟩
 obtain ⟨w2, hc2, _⟩ := rd_GEntry.1 he2
 exact an (v := iv ((gx a_g.Entries (((wr (((k1 : Nat) : Int) - 1))).toNat)).Day)) 23 14 R R R R (po_ldn (rga r2) tk_3 R hc2 R) so2 R (an 24 14 R R R R (pls R R) so2 R (an 25 11 R R R R (pit R R) so2 R (aq 26 R (pif R R) so2 R (ae (wjm _ () (mtE t2) (su3 R R R) (zc pk1 zn))))))
 exact af 15 14 R R R R R so2 R (af 16 14 R R R R R so2 R (af 17 14 R R R R R so2 R (af 18 14 R R R R R so2 R (af 19 14 R R R R R so2 R (af 20 14 R R R R R so2 R (af 21 14 R R R R R so2 R (af 22 14 R R R R R so2 R (af 23 14 R R R R R so2 R (af 24 14 R R R R R so2 R (an 25 11 R R R R (pif R R) so2 R (aq 26 R (pif R R) so2 R (ae (wjm _ () (mtE t2) (su3 R R R) (zc pk1 zn))))))))))))))
 intro j2 _ hp
 obtain rfl : j2 = y2 := hp.symm
 refine wqt (wcO t1 R (fun h9 t1 => ?_) fun h9 t1 => ?_)
 refine wcr (asg R R (wnt (wct (wbr (wqr (wqr (wbr (wqr (wqr ?_)))))))))
 replace t0 := lpR t0 l1 t1
 obtain rfl := oi t0
 exact wq1 R R fun w hw => ⟨R, hw.weak zn⟩
 refine wck (wqb (wqt (wcg (mv R R (wlq (po_inc R R (by omega)) R ?_)))))
 exact asg R R (wln (wq_rnd hk1 (stpN l1 t1) () (su2 R R) so1))
 have c1 : (decide (((k1 : Nat) : Int) < ((a_g.Entries.length : Nat) : Int))) = false := ddf (by omega)
 have en1 := foe l1 hk1
 exact wcs (wcr (mv R R (wlq (pof fo_29_2 R) R (wlq (v := (sl v2a)) (plx tk_26 pz R R) R (wlq (pln (rga r2) el_26 R) R (wlq (pls R R) R (wnt (wff R c1 (wcx (wqe (wqe (wbx (wjm _ () en1 (su1 R) so1)))))))))))))
 intro e1 _ hp
 replace t0 := sqE (j := e1) t0 hp
 refine wqt (wcs (wcd [box b1 [(sl v0a), (sl v1a), (sl v2a), (sl v3a), iv a_g.Round, iv a_g.Year]] 6 mixed (aq 0 R (pof fo_29_4 R) so1 R (aq (v := iv a_g.Round) 1 R (plx tk_3 pz R R) so1 R (aq (v := .agg #[(sl v0a), (sl v1a), (sl v2a), (sl v3a), iv a_g.Round, iv a_g.Year]) 2 R (plb tk_29 pz R R R) so1 R (a1 3 (bdO t0 fun v7 hv7 t0 => (wsc R (cz0 fa_61 R fun w hw => c_spec_SwapRounds w a_g v0a (ra r0 hw) v1a (ra r1 hw) v2a u2a (ra r2 hw) v3a (ra r3 hw) hv7) (fun _ => (zt so1)) R fun _ => (a1 4 (bdO t0 fun v8 hv8 t0 => (wsc R (cz0 fa_58 R fun w hw => c_spec_l01In w a_g.Round 0 v7 hv8) (fun _ => (zt so1)) R fun _ => (aq 5 R (po_assign R) so1 R (ae (wqt (wct ?_)))))))))))))))
 obtain rfl := oi t0
 exact wq1 R R fun w hw => ⟨R, hw.weak zn⟩

theorem c_spec_NewGuild (w : World) (a_year : Int) {r : GGuild × Bool} (t0 : spec_NewGuild a_year = some r) : Calls Tryz.prog 27 #[.int .i64 a_year] w fun e w' => ∃ x : Hd × Hd × Hd × (List Value) × Hd, e = .returned (.tuple #[.agg #[(sl x.1), (sl x.2.1), (sl x.2.2.1), (sl x.2.2.2.2), .int .i64 r.1.Round, .int .i64 r.1.Year], .bool r.2]) ∧ SH w [] [ownF (sl x.1) r.1.Members, ownF (sl x.2.1) r.1.Stock, own (sl x.2.2.1) x.2.2.2.1 r.1.Entries, ownF (sl x.2.2.2.2) r.1.Books] w' := by
 refine cwc (args := [_]) Tryz.func27 R Tryz.ntmps27 R ?_
 unfold spec_NewGuild at t0
 refine wcr (wle (eal (cs := [(sl hn), (sl hn), (sl hn), (sl hn), iv 0, iv 0]) za_29) R fun b1 => (asg R R (wnt (wcr (mv R R (wlq (po_build R (bd_29_5 a_year)) R (wle (eal (cs := [(sl hn), (sl hn), (sl hn), (sl hn), iv 0, iv 0]) za_29) R fun b2 => (wls (sbx (cs' := [(sl hn), (sl hn), (sl hn), (sl hn), iv 0, iv a_year]) tk_29 pz R R R R R R R) (wnt (wcs (wcr (asg R R (wnt (lpO_inv t0 fun y1 l1 t0 => (wj (J := List Int) (X := Hd) (fun z => y1 = z) (fun _ _ => [(2, ptr b1 0), (4, ptr b2 0)]) (fun z x => [box b2 [(sl hn), (sl x), (sl hn), (sl hn), iv 0, iv a_year], box b1 [(sl hn), (sl hn), (sl hn), (sl hn), iv 0, iv 0], ownF (sl x) z]) ?_ ?_)))))))))))))))
 refine wcb (wcf (X := Hd) l1 (fun k1 s1 x1l => [(2, ptr b1 0), (4, ptr b2 0), (5, iv ((k1 : Nat) : Int))]) (fun k1 s1 x1l => [box b2 [(sl hn), (sl x1l), (sl hn), (sl hn), iv 0, iv a_year], box b1 [(sl hn), (sl hn), (sl hn), (sl hn), iv 0, iv 0], ownF (sl x1l) s1]) hn (su3 R R R) (zc pz (zc pz (zc pick_nil zn))) fun k1 s1 x1l hN1 l1 => ?_)
 by_cases hk1 : k1 < 6
 refine fos l1 hk1 fun _ t1 l1 => ?_
 unfold spec_NewGuild_L1 at t1
 have c1 : (decide (((k1 : Nat) : Int) < 6)) = true := ddt (by omega)
 refine wcs (wcr (mv R R (wlq (pls R R) R (wnt (wft R c1 (wck (wqt (wcs (wcb (wcg (wlq (pof fo_29_1 R) R (wlq (v := (sl x1l)) (plx tk_25 pz R R) R (wle (ebs R (sb_25_1 1000)) R fun b3 => (gdO t1 fun g1 t1 => (wle (eo_append (xs := s1) (ys := ([1000] : List Int)) ak_25 pk3 R R (slin_rd fun _ g => Rg.on (rgo (pbo pz (n := 1) (xs := ([1000] : List Int)) R R (by unfold maxLen; omega))) g) g1) R fun x2 => ?_)))))))))))))))
 refine wlq (pof fo_29_1 R) R (wls (sbx (cs' := [(sl hn), (sl x2), (sl hn), (sl hn), iv 0, iv a_year]) tk_25 pk2 R R R R R R R) (wln (wqb (wqt (wcg (mv R R (wlq (po_inc R R (by omega)) R ?_)))))))
 exact asg R R (wln (wq_rnd hk1 (stpN l1 t1) x2 (su3 R R R) (zc pz (zc pk2 so1))))
 have c1 : (decide (((k1 : Nat) : Int) < 6)) = false := ddf (by omega)
 have en1 := foe l1 hk1
 exact wcs (wcr (mv R R (wlq (pls R R) R (wnt (wff R c1 (wcx (wqe (wqe (wbx (wjm _ x1l (Sum.inl.inj en1) (su2 R R) so3))))))))))
 intro e1 x1 hp
 obtain rfl : e1 = y1 := hp.symm
 refine wqt (wcs (wcr (wlq (v := .agg #[(sl hn), (sl x1), (sl hn), (sl hn), iv 0, iv a_year]) (plb tk_29 pz R R R) R (bdO t0 fun v1 hv1 t0 => (wlc (cz0 fa_39 R fun w hw => c_spec_GuildOk w (GGuild.mk ([] : List GMember) e1 ([] : List GEntry) ([] : List GBooking) 0 a_year) hn (Rg.on rds_nil hw) x1 (Rg.on (rgo pk2) hw) hn [] (Rg.on rds_nil hw) hn (Rg.on rds_nil hw) hv1) R fun _ => (wlq (po_not R) R (wnt (wcO t0 R (fun h1 t0 => ?_) fun h1 t0 => ?_))))))))
 refine wcr (wlq (po_build R bd_29) R (wls (sbx (cs' := [(sl hn), (sl hn), (sl hn), (sl hn), iv 0, iv 0]) tk_29 pk1 R R R R R R R) (asg R R (wnt (wct (wqr ?_))))))
 obtain rfl := oi t0
 exact wq_retc1 R tk_29 R R pz R fun w hw => ⟨(hn, hn, hn, [], hn), R, hw.weak (zc pick_nil (zc pick_nil (zc pick_nil (zc pick_nil zn))))⟩
 refine wck (wqt (wcr (wlq (v := .agg #[(sl hn), (sl x1), (sl hn), (sl hn), iv 0, iv a_year]) (plb tk_29 pz R R R) R (wls (sbx (cs' := [(sl hn), (sl x1), (sl hn), (sl hn), iv 0, iv a_year]) tk_29 pk1 R R R R R R R) (asg R R (wnt (wct ?_)))))))
 obtain rfl := oi t0
 exact wq_retc1 R tk_29 R R pz R fun w hw => ⟨(hn, x1, hn, [], hn), R, hw.weak (zc pick_nil (zc pk2 (zc pick_nil (zc pick_nil zn))))⟩

theorem c_spec_l03Copy (w : World) (a_b : GBlock) (v0a : Hd) (r0 : rdF w (dm w []) (sl v0a) a_b.Cells) {r : GBlock} (t0 : spec_l03Copy a_b = some r) : Calls Tryz.prog 45 #[.agg #[.int .i64 a_b.Size, (sl v0a)]] w fun e w' => ∃ x : Hd, e = .returned (.agg #[.int .i64 r.Size, (sl x)]) ∧ SH w [] [ownF (sl x) r.Cells] w' := by
 refine cwc (args := [_]) Tryz.func45 R Tryz.ntmps45 R ?_
 unfold spec_l03Copy at t0
 refine wcr (wle (eo_box R R) R fun b1 => (wle (eal (cs := [iv 0, (sl hn)]) za_73) R fun b2 => (wnt (wcs (wcd [box b2 [iv 0, (sl hn)], box b1 [iv a_b.Size, (sl v0a)]] 7 mixed (aq 0 R (pof fo_73_0 R) so2 R (aq (v := iv a_b.Size) 1 R (plx tk_3 pk1 R R) so2 R (aq 3 R (pof fo_73_1 R) so2 R (aq (v := (sl v0a)) 4 R (plx tk_71 pk1 R R) so2 R (a1 2 (wse R (ebs R sb_71_0) (fun _ => (zt (zc pk1 (zc pk1 zn)))) R fun b3 => (a1 5 (gdO t0 fun g1 t0 => (wse R (eo_append (xs := ([] : List GCell)) (ys := a_b.Cells) ak_71 (pbo pz (n := 0) (xs := ([] : List GCell)) R R (by unfold maxLen; omega)) R R (slin_rd fun _ g => Rg.on (rga r0) g) g1) (fun _ => (zt (zc pk1 (zc pk1 zn)))) R fun x1 => ?_))))))))))))))
 refine aq 6 R (po_build R (bd_73_0_1 a_b.Size x1)) (zc pk1 (zc pk1 zn)) R (a1 7 (ws_skipop R (sbx (cs' := [iv a_b.Size, (sl x1)]) tk_73 pk1 R R R R R R R) (sts_past (by kernel_rfl)) ?_))
 refine ae (wqt (wct ?_))
 obtain rfl := oi t0
 exact wqc R tk_73 R pz R fun w hw => ⟨x1, R, hw.weak (zc pk1 zn)⟩

theorem c_spec_l38Copy (w : World) (a_g : GGuild) (v0a : Hd) (r0 : rdF w (dm w []) (sl v0a) a_g.Members) (v1a : Hd) (r1 : rdF w (dm w []) (sl v1a) a_g.Stock) (v2a : Hd) (u2a : List Value) (r2 : RdL w (dm w []) (sl v2a) u2a a_g.Entries) (v3a : Hd) (r3 : rdF w (dm w []) (sl v3a) a_g.Books) {r : GGuild} (t0 : spec_l38Copy a_g = some r) : Calls Tryz.prog 40 #[.agg #[(sl v0a), (sl v1a), (sl v2a), (sl v3a), .int .i64 a_g.Round, .int .i64 a_g.Year]] w fun e w' => ∃ x : Hd × Hd × Hd × (List Value) × Hd, e = .returned (.agg #[(sl x.1), (sl x.2.1), (sl x.2.2.1), (sl x.2.2.2.2), .int .i64 r.Round, .int .i64 r.Year]) ∧ SH w [] [ownF (sl x.1) r.Members, ownF (sl x.2.1) r.Stock, own (sl x.2.2.1) x.2.2.2.1 r.Entries, ownF (sl x.2.2.2.2) r.Books] w' := by
 refine cwc (args := [_]) Tryz.func40 R Tryz.ntmps40 R ?_
 unfold spec_l38Copy at t0
 refine wcr (wle (eo_box R R) R fun b1 => (wle (eal (cs := [(sl hn), (sl hn), (sl hn), (sl hn), iv 0, iv 0]) za_29) R fun b2 => (wnt (wcs (gdO t0 fun g1 t0 => (gdO t0 fun g2 t0 => (gdO t0 fun g3 t0 => (wcj (X := Nat × Hd × Hd × Hd) (fun _ => True) (fun z => [(1, ptr b1 0), (2, ptr b2 0), (3, ptr z.1 0)]) (fun z => [box z.1 [(sl z.2.1), (sl z.2.2.1), (sl hn), (sl z.2.2.2), iv a_g.Round, iv a_g.Year], ownF (sl z.2.2.2) (([] : List GBooking) ++ a_g.Books), ownF (sl z.2.2.1) (([] : List Int) ++ a_g.Stock), ownF (sl z.2.1) (([] : List GMember) ++ a_g.Members), box b2 [(sl hn), (sl hn), (sl hn), (sl hn), iv 0, iv 0], box b1 [(sl v0a), (sl v1a), (sl v2a), (sl v3a), iv a_g.Round, iv a_g.Year]]) ?_ ?_))))))))
 refine wcd [box b2 [(sl hn), (sl hn), (sl hn), (sl hn), iv 0, iv 0], box b1 [(sl v0a), (sl v1a), (sl v2a), (sl v3a), iv a_g.Round, iv a_g.Year]] 18 mixed (wa_dag [⟨9, #[false, true, true, false, false, true, true, false, false, true, true, false, true, true, true, true, false, false, false], Unit, fun _ => [(1, ptr b1 0), (2, ptr b2 0), (8, (sl v0a)), (12, (sl v1a)), (16, (sl v3a)), (19, iv a_g.Round), (21, iv a_g.Year)], fun _ => [box b2 [(sl hn), (sl hn), (sl hn), (sl hn), iv 0, iv 0], box b1 [(sl v0a), (sl v1a), (sl v2a), (sl v3a), iv a_g.Round, iv a_g.Year]]⟩, ⟨8, #[true, true, true, false, false, true, true, false, false, true, true, false, true, true, true, true, false, false, false], Nat, fun z => [(1, ptr b1 0), (2, ptr b2 0), (6, (sl (⟨some ⟨z, 0, none⟩, 0, 0⟩ : Hd))), (8, (sl v0a)), (12, (sl v1a)), (16, (sl v3a)), (19, iv a_g.Round), (21, iv a_g.Year)], fun z => [box z [], box b2 [(sl hn), (sl hn), (sl hn), (sl hn), iv 0, iv 0], box b1 [(sl v0a), (sl v1a), (sl v2a), (sl v3a), iv a_g.Round, iv a_g.Year]]⟩, ⟨8, #[false, true, true, false, true, true, true, false, false, true, true, false, true, true, true, true, false, false, false], Nat, fun z => [(1, ptr b1 0), (2, ptr b2 0), (8, (sl v0a)), (10, (sl (⟨some ⟨z, 0, none⟩, 0, 0⟩ : Hd))), (12, (sl v1a)), (16, (sl v3a)), (19, iv a_g.Round), (21, iv a_g.Year)], fun z => [box z [], box b2 [(sl hn), (sl hn), (sl hn), (sl hn), iv 0, iv 0], box b1 [(sl v0a), (sl v1a), (sl v2a), (sl v3a), iv a_g.Round, iv a_g.Year]]⟩, ⟨8, #[false, true, true, false, false, true, true, false, true, true, true, false, true, true, true, true, false, false, false], Nat, fun z => [(1, ptr b1 0), (2, ptr b2 0), (8, (sl v0a)), (12, (sl v1a)), (14, (sl (⟨some ⟨z, 0, none⟩, 0, 0⟩ : Hd))), (16, (sl v3a)), (19, iv a_g.Round), (21, iv a_g.Year)], fun z => [box z [], box b2 [(sl hn), (sl hn), (sl hn), (sl hn), iv 0, iv 0], box b1 [(sl v0a), (sl v1a), (sl v2a), (sl v3a), iv a_g.Round, iv a_g.Year]]⟩, ⟨8, #[false, true, true, false, false, true, true, false, false, true, true, false, true, true, true, true, false, true, false], Nat, fun z => [(1, ptr b1 0), (2, ptr b2 0), (3, ptr z 0), (8, (sl v0a)), (12, (sl v1a)), (16, (sl v3a)), (19, iv a_g.Round), (21, iv a_g.Year)], fun z => [box z [(sl hn), (sl hn), (sl hn), (sl hn), iv 0, iv 0], box b2 [(sl hn), (sl hn), (sl hn), (sl hn), iv 0, iv 0], box b1 [(sl v0a), (sl v1a), (sl v2a), (sl v3a), iv a_g.Round, iv a_g.Year]]⟩, ⟨7, #[true, true, true, true, false, true, true, false, false, true, true, false, true, true, true, true, false, false, false], Hd, fun z => [(1, ptr b1 0), (2, ptr b2 0), (9, (sl z)), (12, (sl v1a)), (16, (sl v3a)), (19, iv a_g.Round), (21, iv a_g.Year)], fun z => [ownF (sl z) (([] : List GMember) ++ a_g.Members), box b2 [(sl hn), (sl hn), (sl hn), (sl hn), iv 0, iv 0], box b1 [(sl v0a), (sl v1a), (sl v2a), (sl v3a), iv a_g.Round, iv a_g.Year]]⟩, ⟨7, #[true, true, true, false, true, true, true, false, false, true, true, false, true, true, true, true, false, false, false], Nat × Nat, fun z => [(1, ptr b1 0), (2, ptr b2 0), (6, (sl (⟨some ⟨z.1, 0, none⟩, 0, 0⟩ : Hd))), (8, (sl v0a)), (10, (sl (⟨some ⟨z.2, 0, none⟩, 0, 0⟩ : Hd))), (12, (sl v1a)), (16, (sl v3a)), (19, iv a_g.Round), (21, iv a_g.Year)], fun z => [box z.2 [], box z.1 [], box b2 [(sl hn), (sl hn), (sl hn), (sl hn), iv 0, iv 0], box b1 [(sl v0a), (sl v1a), (sl v2a), (sl v3a), iv a_g.Round, iv a_g.Year]]⟩, ⟨7, #[true, true, true, false, false, true, true, false, true, true, true, false, true, true, true, true, false, false, false], Nat × Nat, fun z => [(1, ptr b1 0), (2, ptr b2 0), (6, (sl (⟨some ⟨z.1, 0, none⟩, 0, 0⟩ : Hd))), (8, (sl v0a)), (12, (sl v1a)), (14, (sl (⟨some ⟨z.2, 0, none⟩, 0, 0⟩ : Hd))), (16, (sl v3a)), (19, iv a_g.Round), (21, iv a_g.Year)], fun z => [box z.2 [], box z.1 [], box b2 [(sl hn), (sl hn), (sl hn), (sl hn), iv 0, iv 0], box b1 [(sl v0a), (sl v1a), (sl v2a), (sl v3a), iv a_g.Round, iv a_g.Year]]⟩, ⟨7, #[true, true, true, false, false, true, true, false, false, true, true, false, true, true, true, true, false, true, false], Nat × Nat, fun z => [(1, ptr b1 0), (2, ptr b2 0), (3, ptr z.1 0), (6, (sl (⟨some ⟨z.2, 0, none⟩, 0, 0⟩ : Hd))), (8, (sl v0a)), (12, (sl v1a)), (16, (sl v3a)), (19, iv a_g.Round), (21, iv a_g.Year)], fun z => [box z.1 [(sl hn), (sl hn), (sl hn), (sl hn), iv 0, iv 0], box z.2 [], box b2 [(sl hn), (sl hn), (sl hn), (sl hn), iv 0, iv 0], box b1 [(sl v0a), (sl v1a), (sl v2a), (sl v3a), iv a_g.Round, iv a_g.Year]]⟩, ⟨7, #[false, true, true, false, true, true, true, false, true, true, true, false, true, true, true, true, false, false, false], Nat × Nat, fun z => [(1, ptr b1 0), (2, ptr b2 0), (8, (sl v0a)), (10, (sl (⟨some ⟨z.1, 0, none⟩, 0, 0⟩ : Hd))), (12, (sl v1a)), (14, (sl (⟨some ⟨z.2, 0, none⟩, 0, 0⟩ : Hd))), (16, (sl v3a)), (19, iv a_g.Round), (21, iv a_g.Year)], fun z => [box z.2 [], box z.1 [], box b2 [(sl hn), (sl hn), (sl hn), (sl hn), iv 0, iv 0], box b1 [(sl v0a), (sl v1a), (sl v2a), (sl v3a), iv a_g.Round, iv a_g.Year]]⟩, ⟨7, #[false, true, true, false, true, true, true, false, false, true, true, false, true, true, true, true, false, true, false], Nat × Nat, fun z => [(1, ptr b1 0), (2, ptr b2 0), (3, ptr z.1 0), (8, (sl v0a)), (10, (sl (⟨some ⟨z.2, 0, none⟩, 0, 0⟩ : Hd))), (12, (sl v1a)), (16, (sl v3a)), (19, iv a_g.Round), (21, iv a_g.Year)], fun z => [box z.1 [(sl hn), (sl hn), (sl hn), (sl hn), iv 0, iv 0], box z.2 [], box b2 [(sl hn), (sl hn), (sl hn), (sl hn), iv 0, iv 0], box b1 [(sl v0a), (sl v1a), (sl v2a), (sl v3a), iv a_g.Round, iv a_g.Year]]⟩, ⟨7, #[false, true, true, false, false, true, true, false, true, true, true, false, true, true, true, true, false, true, false], Nat × Nat, fun z => [(1, ptr b1 0), (2, ptr b2 0), (3, ptr z.1 0), (8, (sl v0a)), (12, (sl v1a)), (14, (sl (⟨some ⟨z.2, 0, none⟩, 0, 0⟩ : Hd))), (16, (sl v3a)), (19, iv a_g.Round), (21, iv a_g.Year)], fun z => [box z.1 [(sl hn), (sl hn), (sl hn), (sl hn), iv 0, iv 0], box z.2 [], box b2 [(sl hn), (sl hn), (sl hn), (sl hn), iv 0, iv 0], box b1 [(sl v0a), (sl v1a), (sl v2a), (sl v3a), iv a_g.Round, iv a_g.Year]]⟩, ⟨6, #[true, true, true, true, true, true, true, false, false, true, true, false, true, true, true, true, false, false, false], Hd × Nat, fun z => [(1, ptr b1 0), (2, ptr b2 0), (9, (sl z.1)), (10, (sl (⟨some ⟨z.2, 0, none⟩, 0, 0⟩ : Hd))), (12, (sl v1a)), (16, (sl v3a)), (19, iv a_g.Round), (21, iv a_g.Year)], fun z => [box z.2 [], ownF (sl z.1) (([] : List GMember) ++ a_g.Members), box b2 [(sl hn), (sl hn), (sl hn), (sl hn), iv 0, iv 0], box b1 [(sl v0a), (sl v1a), (sl v2a), (sl v3a), iv a_g.Round, iv a_g.Year]]⟩, ⟨6, #[true, true, true, true, false, true, true, false, true, true, true, false, true, true, true, true, false, false, false], Hd × Nat, fun z => [(1, ptr b1 0), (2, ptr b2 0), (9, (sl z.1)), (12, (sl v1a)), (14, (sl (⟨some ⟨z.2, 0, none⟩, 0, 0⟩ : Hd))), (16, (sl v3a)), (19, iv a_g.Round), (21, iv a_g.Year)], fun z => [box z.2 [], ownF (sl z.1) (([] : List GMember) ++ a_g.Members), box b2 [(sl hn), (sl hn), (sl hn), (sl hn), iv 0, iv 0], box b1 [(sl v0a), (sl v1a), (sl v2a), (sl v3a), iv a_g.Round, iv a_g.Year]]⟩, ⟨6, #[true, true, true, true, false, true, true, false, false, true, true, false, true, true, true, true, false, true, false], Nat × Hd, fun z => [(1, ptr b1 0), (2, ptr b2 0), (3, ptr z.1 0), (9, (sl z.2)), (12, (sl v1a)), (16, (sl v3a)), (19, iv a_g.Round), (21, iv a_g.Year)], fun z => [box z.1 [(sl hn), (sl hn), (sl hn), (sl hn), iv 0, iv 0], ownF (sl z.2) (([] : List GMember) ++ a_g.Members), box b2 [(sl hn), (sl hn), (sl hn), (sl hn), iv 0, iv 0], box b1 [(sl v0a), (sl v1a), (sl v2a), (sl v3a), iv a_g.Round, iv a_g.Year]]⟩, ⟨6, #[true, true, true, false, true, true, true, false, true, true, true, false, true, true, true, true, false, false, false], Nat × Nat × Nat, fun z => [(1, ptr b1 0), (2, ptr b2 0), (6, (sl (⟨some ⟨z.1, 0, none⟩, 0, 0⟩ : Hd))), (8, (sl v0a)), (10, (sl (⟨some ⟨z.2.1, 0, none⟩, 0, 0⟩ : Hd))), (12, (sl v1a)), (14, (sl (⟨some ⟨z.2.2, 0, none⟩, 0, 0⟩ : Hd))), (16, (sl v3a)), (19, iv a_g.Round), (21, iv a_g.Year)], fun z => [box z.2.2 [], box z.2.1 [], box z.1 [], box b2 [(sl hn), (sl hn), (sl hn), (sl hn), iv 0, iv 0], box b1 [(sl v0a), (sl v1a), (sl v2a), (sl v3a), iv a_g.Round, iv a_g.Year]]⟩, ⟨6, #[true, true, true, false, true, true, true, false, false, true, true, false, true, true, true, true, false, true, false], Nat × Nat × Nat, fun z => [(1, ptr b1 0), (2, ptr b2 0), (3, ptr z.1 0), (6, (sl (⟨some ⟨z.2.1, 0, none⟩, 0, 0⟩ : Hd))), (8, (sl v0a)), (10, (sl (⟨some ⟨z.2.2, 0, none⟩, 0, 0⟩ : Hd))), (12, (sl v1a)), (16, (sl v3a)), (19, iv a_g.Round), (21, iv a_g.Year)], fun z => [box z.1 [(sl hn), (sl hn), (sl hn), (sl hn), iv 0, iv 0], box z.2.2 [], box z.2.1 [], box b2 [(sl hn), (sl hn), (sl hn), (sl hn), iv 0, iv 0], box b1 [(sl v0a), (sl v1a), (sl v2a), (sl v3a), iv a_g.Round, iv a_g.Year]]⟩, ⟨6, #[true, true, true, false, false, true, true, false, true, true, true, false, true, true, true, true, false, true, false], Nat × Nat × Nat, fun z => [(1, ptr b1 0), (2, ptr b2 0), (3, ptr z.1 0), (6, (sl (⟨some ⟨z.2.1, 0, none⟩, 0, 0⟩ : Hd))), (8, (sl v0a)), (12, (sl v1a)), (14, (sl (⟨some ⟨z.2.2, 0, none⟩, 0, 0⟩ : Hd))), (16, (sl v3a)), (19, iv a_g.Round), (21, iv a_g.Year)], fun z => [box z.1 [(sl hn), (sl hn), (sl hn), (sl hn), iv 0, iv 0], box z.2.2 [], box z.2.1 [], box b2 [(sl hn), (sl hn), (sl hn), (sl hn), iv 0, iv 0], box b1 [(sl v0a), (sl v1a), (sl v2a), (sl v3a), iv a_g.Round, iv a_g.Year]]⟩, ⟨6, #[false, true, true, false, true, true, true, false, true, true, true, false, true, true, true, true, false, true, false], Nat × Nat × Nat, fun z => [(1, ptr b1 0), (2, ptr b2 0), (3, ptr z.1 0), (8, (sl v0a)), (10, (sl (⟨some ⟨z.2.1, 0, none⟩, 0, 0⟩ : Hd))), (12, (sl v1a)), (14, (sl (⟨some ⟨z.2.2, 0, none⟩, 0, 0⟩ : Hd))), (16, (sl v3a)), (19, iv a_g.Round), (21, iv a_g.Year)], fun z => [box z.1 [(sl hn), (sl hn), (sl hn), (sl hn), iv 0, iv 0], box z.2.2 [], box z.2.1 [], box b2 [(sl hn), (sl hn), (sl hn), (sl hn), iv 0, iv 0], box b1 [(sl v0a), (sl v1a), (sl v2a), (sl v3a), iv a_g.Round, iv a_g.Year]]⟩, ⟨5, #[true, true, true, true, true, true, true, true, false, true, true, false, true, true, true, true, false, false, false], Hd × Hd, fun z => [(1, ptr b1 0), (2, ptr b2 0), (9, (sl z.1)), (13, (sl z.2)), (16, (sl v3a)), (19, iv a_g.Round), (21, iv a_g.Year)], fun z => [ownF (sl z.2) (([] : List Int) ++ a_g.Stock), ownF (sl z.1) (([] : List GMember) ++ a_g.Members), box b2 [(sl hn), (sl hn), (sl hn), (sl hn), iv 0, iv 0], box b1 [(sl v0a), (sl v1a), (sl v2a), (sl v3a), iv a_g.Round, iv a_g.Year]]⟩, ⟨5, #[true, true, true, true, true, true, true, false, true, true, true, false, true, true, true, true, false, false, false], Hd × Nat × Nat, fun z => [(1, ptr b1 0), (2, ptr b2 0), (9, (sl z.1)), (10, (sl (⟨some ⟨z.2.1, 0, none⟩, 0, 0⟩ : Hd))), (12, (sl v1a)), (14, (sl (⟨some ⟨z.2.2, 0, none⟩, 0, 0⟩ : Hd))), (16, (sl v3a)), (19, iv a_g.Round), (21, iv a_g.Year)], fun z => [box z.2.2 [], box z.2.1 [], ownF (sl z.1) (([] : List GMember) ++ a_g.Members), box b2 [(sl hn), (sl hn), (sl hn), (sl hn), iv 0, iv 0], box b1 [(sl v0a), (sl v1a), (sl v2a), (sl v3a), iv a_g.Round, iv a_g.Year]]⟩, ⟨5, #[true, true, true, true, true, true, true, false, false, true, true, false, true, true, true, true, false, true, false], Nat × Hd × Nat, fun z => [(1, ptr b1 0), (2, ptr b2 0), (3, ptr z.1 0), (9, (sl z.2.1)), (10, (sl (⟨some ⟨z.2.2, 0, none⟩, 0, 0⟩ : Hd))), (12, (sl v1a)), (16, (sl v3a)), (19, iv a_g.Round), (21, iv a_g.Year)], fun z => [box z.1 [(sl hn), (sl hn), (sl hn), (sl hn), iv 0, iv 0], box z.2.2 [], ownF (sl z.2.1) (([] : List GMember) ++ a_g.Members), box b2 [(sl hn), (sl hn), (sl hn), (sl hn), iv 0, iv 0], box b1 [(sl v0a), (sl v1a), (sl v2a), (sl v3a), iv a_g.Round, iv a_g.Year]]⟩, ⟨5, #[true, true, true, true, false, true, true, false, true, true, true, false, true, true, true, true, false, true, false], Nat × Hd × Nat, fun z => [(1, ptr b1 0), (2, ptr b2 0), (3, ptr z.1 0), (9, (sl z.2.1)), (12, (sl v1a)), (14, (sl (⟨some ⟨z.2.2, 0, none⟩, 0, 0⟩ : Hd))), (16, (sl v3a)), (19, iv a_g.Round), (21, iv a_g.Year)], fun z => [box z.1 [(sl hn), (sl hn), (sl hn), (sl hn), iv 0, iv 0], box z.2.2 [], ownF (sl z.2.1) (([] : List GMember) ++ a_g.Members), box b2 [(sl hn), (sl hn), (sl hn), (sl hn), iv 0, iv 0], box b1 [(sl v0a), (sl v1a), (sl v2a), (sl v3a), iv a_g.Round, iv a_g.Year]]⟩, ⟨5, #[true, true, true, false, true, true, true, false, true, true, true, false, true, true, true, true, false, true, false], Nat × Nat × Nat × Nat, fun z => [(1, ptr b1 0), (2, ptr b2 0), (3, ptr z.1 0), (6, (sl (⟨some ⟨z.2.1, 0, none⟩, 0, 0⟩ : Hd))), (8, (sl v0a)), (10, (sl (⟨some ⟨z.2.2.1, 0, none⟩, 0, 0⟩ : Hd))), (12, (sl v1a)), (14, (sl (⟨some ⟨z.2.2.2, 0, none⟩, 0, 0⟩ : Hd))), (16, (sl v3a)), (19, iv a_g.Round), (21, iv a_g.Year)], fun z => [box z.1 [(sl hn), (sl hn), (sl hn), (sl hn), iv 0, iv 0], box z.2.2.2 [], box z.2.2.1 [], box z.2.1 [], box b2 [(sl hn), (sl hn), (sl hn), (sl hn), iv 0, iv 0], box b1 [(sl v0a), (sl v1a), (sl v2a), (sl v3a), iv a_g.Round, iv a_g.Year]]⟩, ⟨4, #[true, true, true, true, true, true, true, true, true, true, true, false, true, true, true, true, false, false, false], Hd × Hd × Nat, fun z => [(1, ptr b1 0), (2, ptr b2 0), (9, (sl z.1)), (13, (sl z.2.1)), (14, (sl (⟨some ⟨z.2.2, 0, none⟩, 0, 0⟩ : Hd))), (16, (sl v3a)), (19, iv a_g.Round), (21, iv a_g.Year)], fun z => [box z.2.2 [], ownF (sl z.2.1) (([] : List Int) ++ a_g.Stock), ownF (sl z.1) (([] : List GMember) ++ a_g.Members), box b2 [(sl hn), (sl hn), (sl hn), (sl hn), iv 0, iv 0], box b1 [(sl v0a), (sl v1a), (sl v2a), (sl v3a), iv a_g.Round, iv a_g.Year]]⟩, ⟨4, #[true, true, true, true, true, true, true, true, false, true, true, false, true, true, true, true, false, true, false], Nat × Hd × Hd, fun z => [(1, ptr b1 0), (2, ptr b2 0), (3, ptr z.1 0), (9, (sl z.2.1)), (13, (sl z.2.2)), (16, (sl v3a)), (19, iv a_g.Round), (21, iv a_g.Year)], fun z => [box z.1 [(sl hn), (sl hn), (sl hn), (sl hn), iv 0, iv 0], ownF (sl z.2.2) (([] : List Int) ++ a_g.Stock), ownF (sl z.2.1) (([] : List GMember) ++ a_g.Members), box b2 [(sl hn), (sl hn), (sl hn), (sl hn), iv 0, iv 0], box b1 [(sl v0a), (sl v1a), (sl v2a), (sl v3a), iv a_g.Round, iv a_g.Year]]⟩, ⟨4, #[true, true, true, true, true, true, true, false, true, true, true, false, true, true, true, true, false, true, false], Nat × Hd × Nat × Nat, fun z => [(1, ptr b1 0), (2, ptr b2 0), (3, ptr z.1 0), (9, (sl z.2.1)), (10, (sl (⟨some ⟨z.2.2.1, 0, none⟩, 0, 0⟩ : Hd))), (12, (sl v1a)), (14, (sl (⟨some ⟨z.2.2.2, 0, none⟩, 0, 0⟩ : Hd))), (16, (sl v3a)), (19, iv a_g.Round), (21, iv a_g.Year)], fun z => [box z.1 [(sl hn), (sl hn), (sl hn), (sl hn), iv 0, iv 0], box z.2.2.2 [], box z.2.2.1 [], ownF (sl z.2.1) (([] : List GMember) ++ a_g.Members), box b2 [(sl hn), (sl hn), (sl hn), (sl hn), iv 0, iv 0], box b1 [(sl v0a), (sl v1a), (sl v2a), (sl v3a), iv a_g.Round, iv a_g.Year]]⟩, ⟨2, #[true, true, true, true, true, true, true, true, true, true, true, true, true, true, true, true, true, false, false], Hd × Hd × Hd, fun z => [(1, ptr b1 0), (2, ptr b2 0), (22, .agg #[(sl z.1), (sl z.2.1), (sl hn), (sl z.2.2), iv a_g.Round, iv a_g.Year])], fun z => [ownF (sl z.2.2) (([] : List GBooking) ++ a_g.Books), ownF (sl z.2.1) (([] : List Int) ++ a_g.Stock), ownF (sl z.1) (([] : List GMember) ++ a_g.Members), box b2 [(sl hn), (sl hn), (sl hn), (sl hn), iv 0, iv 0], box b1 [(sl v0a), (sl v1a), (sl v2a), (sl v3a), iv a_g.Round, iv a_g.Year]]⟩, ⟨3, #[true, true, true, true, true, true, true, true, true, true, true, false, true, true, true, true, false, true, false], Nat × Hd × Hd × Nat, fun z => [(1, ptr b1 0), (2, ptr b2 0), (3, ptr z.1 0), (9, (sl z.2.1)), (13, (sl z.2.2.1)), (14, (sl (⟨some ⟨z.2.2.2, 0, none⟩, 0, 0⟩ : Hd))), (16, (sl v3a)), (19, iv a_g.Round), (21, iv a_g.Year)], fun z => [box z.1 [(sl hn), (sl hn), (sl hn), (sl hn), iv 0, iv 0], box z.2.2.2 [], ownF (sl z.2.2.1) (([] : List Int) ++ a_g.Stock), ownF (sl z.2.1) (([] : List GMember) ++ a_g.Members), box b2 [(sl hn), (sl hn), (sl hn), (sl hn), iv 0, iv 0], box b1 [(sl v0a), (sl v1a), (sl v2a), (sl v3a), iv a_g.Round, iv a_g.Year]]⟩, ⟨1, #[true, true, true, true, true, true, true, true, true, true, true, true, true, true, true, true, true, true, false], Nat × Hd × Hd × Hd, fun z => [(1, ptr b1 0), (2, ptr b2 0), (3, ptr z.1 0), (22, .agg #[(sl z.2.1), (sl z.2.2.1), (sl hn), (sl z.2.2.2), iv a_g.Round, iv a_g.Year])], fun z => [box z.1 [(sl hn), (sl hn), (sl hn), (sl hn), iv 0, iv 0], ownF (sl z.2.2.2) (([] : List GBooking) ++ a_g.Books), ownF (sl z.2.2.1) (([] : List Int) ++ a_g.Stock), ownF (sl z.2.1) (([] : List GMember) ++ a_g.Members), box b2 [(sl hn), (sl hn), (sl hn), (sl hn), iv 0, iv 0], box b1 [(sl v0a), (sl v1a), (sl v2a), (sl v3a), iv a_g.Round, iv a_g.Year]]⟩] ?_ fun H => ?_)
 refine List.forall_mem_cons.2 ⟨fun H => ?_, ?_⟩
 intro _
 dsimp only
 refine wa_4 (i := 0) (j := 4) (k := 8) (m := 17) (by kernel_rfl) ?_ ?_ ?_ ?_
 exact wse R (ebs R sb_24_0) (fun _ => (zt (zc pk1 (zc pk1 zn)))) R fun b0o => waj H 1 R (nl R) b0o R R (su8 R R R R R R R R) so3
 exact wse R (ebs R sb_25_0) (fun _ => (zt (zc pk1 (zc pk1 zn)))) R fun b4o => waj H 2 R (nl R) b4o R R (su8 R R R R R R R R) so3
 exact wse R (ebs R sb_27_0) (fun _ => (zt (zc pk1 (zc pk1 zn)))) R fun b8o => waj H 3 R (nl R) b8o R R (su8 R R R R R R R R) so3
 exact wse R (eal (cs := [(sl hn), (sl hn), (sl hn), (sl hn), iv 0, iv 0]) za_29) (fun _ => (zt (zc pk1 (zc pk1 zn)))) R fun b17o => waj H 4 R (nl R) b17o R R (su8 R R R R R R R R) so3
 refine List.forall_mem_cons.2 ⟨fun H => ?_, ?_⟩
 intro z
 dsimp only
 refine wa_4 (i := 3) (j := 4) (k := 8) (m := 17) (by kernel_rfl) ?_ ?_ ?_ ?_
 refine wse R (eo_append (xs := ([] : List GMember)) (ys := a_g.Members) ak_24 (pbo pz (n := 0) (xs := ([] : List GMember)) R R (by unfold maxLen; omega)) R R (slin_rd fun _ g => Rg.on (rga r0) g) g1) (fun _ => (zt (zc pk1 (zc pk1 zn)))) R fun x3o => ?_
 exact waj H 5 R (nl R) x3o R R (su7 R R R R R R R) so3
 exact wse R (ebs R sb_25_0) (fun _ => (zt (zc pk2 (zc pk2 zn)))) R fun b4o => waj H 6 R (nl R) (z, b4o) R R (su9 R R R R R R R R R) so4
 exact wse R (ebs R sb_27_0) (fun _ => (zt (zc pk2 (zc pk2 zn)))) R fun b8o => waj H 7 R (nl R) (z, b8o) R R (su9 R R R R R R R R R) so4
 exact wse R (eal (cs := [(sl hn), (sl hn), (sl hn), (sl hn), iv 0, iv 0]) za_29) (fun _ => (zt (zc pk2 (zc pk2 zn)))) R fun b17o => waj H 8 R (nl R) (b17o, z) R R (su9 R R R R R R R R R) so4
 refine List.forall_mem_cons.2 ⟨fun H => ?_, ?_⟩
 intro z
 dsimp only
 refine wa_3 (i := 0) (j := 8) (k := 17) (by kernel_rfl) ?_ ?_ ?_
 exact wse R (ebs R sb_24_0) (fun _ => (zt (zc pk2 (zc pk2 zn)))) R fun b0o => waj H 6 R (nl R) (b0o, z) R R (su9 R R R R R R R R R) (zc pk1 so3)
 exact wse R (ebs R sb_27_0) (fun _ => (zt (zc pk2 (zc pk2 zn)))) R fun b8o => waj H 9 R (nl R) (z, b8o) R R (su9 R R R R R R R R R) so4
 exact wse R (eal (cs := [(sl hn), (sl hn), (sl hn), (sl hn), iv 0, iv 0]) za_29) (fun _ => (zt (zc pk2 (zc pk2 zn)))) R fun b17o => waj H 10 R (nl R) (b17o, z) R R (su9 R R R R R R R R R) so4
 refine List.forall_mem_cons.2 ⟨fun H => ?_, ?_⟩
 intro z
 dsimp only
 refine wa_3 (i := 0) (j := 4) (k := 17) (by kernel_rfl) ?_ ?_ ?_
 exact wse R (ebs R sb_24_0) (fun _ => (zt (zc pk2 (zc pk2 zn)))) R fun b0o => waj H 7 R (nl R) (b0o, z) R R (su9 R R R R R R R R R) (zc pk1 so3)
 exact wse R (ebs R sb_25_0) (fun _ => (zt (zc pk2 (zc pk2 zn)))) R fun b4o => waj H 9 R (nl R) (b4o, z) R R (su9 R R R R R R R R R) (zc pk1 so3)
 exact wse R (eal (cs := [(sl hn), (sl hn), (sl hn), (sl hn), iv 0, iv 0]) za_29) (fun _ => (zt (zc pk2 (zc pk2 zn)))) R fun b17o => waj H 11 R (nl R) (b17o, z) R R (su9 R R R R R R R R R) so4
 refine List.forall_mem_cons.2 ⟨fun H => ?_, ?_⟩
 intro z
 dsimp only
 refine wa_3 (i := 0) (j := 4) (k := 8) (by kernel_rfl) ?_ ?_ ?_
 exact wse R (ebs R sb_24_0) (fun _ => (zt (zc pk2 (zc pk2 zn)))) R fun b0o => waj H 8 R (nl R) (z, b0o) R R (su9 R R R R R R R R R) (zc pk1 so3)
 exact wse R (ebs R sb_25_0) (fun _ => (zt (zc pk2 (zc pk2 zn)))) R fun b4o => waj H 10 R (nl R) (z, b4o) R R (su9 R R R R R R R R R) (zc pk1 so3)
 exact wse R (ebs R sb_27_0) (fun _ => (zt (zc pk2 (zc pk2 zn)))) R fun b8o => waj H 11 R (nl R) (z, b8o) R R (su9 R R R R R R R R R) (zc pk1 so3)
 refine List.forall_mem_cons.2 ⟨fun H => ?_, ?_⟩
 intro z
 dsimp only
 refine wa_3 (i := 4) (j := 8) (k := 17) (by kernel_rfl) ?_ ?_ ?_
 exact wse R (ebs R sb_25_0) (fun _ => (zt (zc pk2 (zc pk2 zn)))) R fun b4o => waj H 12 R (nl R) (z, b4o) R R (su8 R R R R R R R R) so4
 exact wse R (ebs R sb_27_0) (fun _ => (zt (zc pk2 (zc pk2 zn)))) R fun b8o => waj H 13 R (nl R) (z, b8o) R R (su8 R R R R R R R R) so4
 exact wse R (eal (cs := [(sl hn), (sl hn), (sl hn), (sl hn), iv 0, iv 0]) za_29) (fun _ => (zt (zc pk2 (zc pk2 zn)))) R fun b17o => waj H 14 R (nl R) (b17o, z) R R (su8 R R R R R R R R) so4
 refine List.forall_mem_cons.2 ⟨fun H => ?_, ?_⟩
 intro z
 dsimp only
 refine wa_3 (i := 3) (j := 8) (k := 17) (by kernel_rfl) ?_ ?_ ?_
 refine wse R (eo_append (xs := ([] : List GMember)) (ys := a_g.Members) ak_24 (pbo pk1 (n := 0) (xs := ([] : List GMember)) R R (by unfold maxLen; omega)) R R (slin_rd fun _ g => Rg.on (rga r0) g) g1) (fun _ => (zt (zc pk2 (zc pk2 zn)))) R fun x3o => ?_
 exact waj H 12 R (nl R) (x3o, z.2) R R (su8 R R R R R R R R) (zc pk1 so3)
 exact wse R (ebs R sb_27_0) (fun _ => (zt (zc pk3 (zc pk3 zn)))) R fun b8o => waj H 15 R (nl R) (z.1, z.2, b8o) R R (su10 R R R R R R R R R R) so5
 exact wse R (eal (cs := [(sl hn), (sl hn), (sl hn), (sl hn), iv 0, iv 0]) za_29) (fun _ => (zt (zc pk3 (zc pk3 zn)))) R fun b17o => waj H 16 R (nl R) (b17o, z.1, z.2) R R (su10 R R R R R R R R R R) so5
 refine List.forall_mem_cons.2 ⟨fun H => ?_, ?_⟩
 intro z
 dsimp only
 refine wa_3 (i := 3) (j := 4) (k := 17) (by kernel_rfl) ?_ ?_ ?_
 refine wse R (eo_append (xs := ([] : List GMember)) (ys := a_g.Members) ak_24 (pbo pk1 (n := 0) (xs := ([] : List GMember)) R R (by unfold maxLen; omega)) R R (slin_rd fun _ g => Rg.on (rga r0) g) g1) (fun _ => (zt (zc pk2 (zc pk2 zn)))) R fun x3o => ?_
 exact waj H 13 R (nl R) (x3o, z.2) R R (su8 R R R R R R R R) (zc pk1 so3)
 exact wse R (ebs R sb_25_0) (fun _ => (zt (zc pk3 (zc pk3 zn)))) R fun b4o => waj H 15 R (nl R) (z.1, b4o, z.2) R R (su10 R R R R R R R R R R) (zc pk1 so4)
 exact wse R (eal (cs := [(sl hn), (sl hn), (sl hn), (sl hn), iv 0, iv 0]) za_29) (fun _ => (zt (zc pk3 (zc pk3 zn)))) R fun b17o => waj H 17 R (nl R) (b17o, z.1, z.2) R R (su10 R R R R R R R R R R) so5
 refine List.forall_mem_cons.2 ⟨fun H => ?_, ?_⟩
 intro z
 dsimp only
 refine wa_3 (i := 3) (j := 4) (k := 8) (by kernel_rfl) ?_ ?_ ?_
 refine wse R (eo_append (xs := ([] : List GMember)) (ys := a_g.Members) ak_24 (pbo pk1 (n := 0) (xs := ([] : List GMember)) R R (by unfold maxLen; omega)) R R (slin_rd fun _ g => Rg.on (rga r0) g) g1) (fun _ => (zt (zc pk2 (zc pk2 zn)))) R fun x3o => ?_
 exact waj H 14 R (nl R) (z.1, x3o) R R (su8 R R R R R R R R) (zc pk1 so3)
 exact wse R (ebs R sb_25_0) (fun _ => (zt (zc pk3 (zc pk3 zn)))) R fun b4o => waj H 16 R (nl R) (z.1, z.2, b4o) R R (su10 R R R R R R R R R R) (zc pk1 so4)
 exact wse R (ebs R sb_27_0) (fun _ => (zt (zc pk3 (zc pk3 zn)))) R fun b8o => waj H 17 R (nl R) (z.1, z.2, b8o) R R (su10 R R R R R R R R R R) (zc pk1 so4)
 refine List.forall_mem_cons.2 ⟨fun H => ?_, ?_⟩
 intro z
 dsimp only
 refine wa_2 (i := 0) (j := 17) (by kernel_rfl) ?_ ?_
 exact wse R (ebs R sb_24_0) (fun _ => (zt (zc pk3 (zc pk3 zn)))) R fun b0o => waj H 15 R (nl R) (b0o, z.1, z.2) R R (su10 R R R R R R R R R R) (zc pk1 (zc pk1 so3))
 exact wse R (eal (cs := [(sl hn), (sl hn), (sl hn), (sl hn), iv 0, iv 0]) za_29) (fun _ => (zt (zc pk3 (zc pk3 zn)))) R fun b17o => waj H 18 R (nl R) (b17o, z.1, z.2) R R (su10 R R R R R R R R R R) so5
 refine List.forall_mem_cons.2 ⟨fun H => ?_, ?_⟩
 intro z
 dsimp only
 refine wa_2 (i := 0) (j := 8) (by kernel_rfl) ?_ ?_
 exact wse R (ebs R sb_24_0) (fun _ => (zt (zc pk3 (zc pk3 zn)))) R fun b0o => waj H 16 R (nl R) (z.1, b0o, z.2) R R (su10 R R R R R R R R R R) (zc pk1 (zc pk1 so3))
 exact wse R (ebs R sb_27_0) (fun _ => (zt (zc pk3 (zc pk3 zn)))) R fun b8o => waj H 18 R (nl R) (z.1, z.2, b8o) R R (su10 R R R R R R R R R R) (zc pk1 so4)
 refine List.forall_mem_cons.2 ⟨fun H => ?_, ?_⟩
 intro z
 dsimp only
 refine wa_2 (i := 0) (j := 4) (by kernel_rfl) ?_ ?_
 exact wse R (ebs R sb_24_0) (fun _ => (zt (zc pk3 (zc pk3 zn)))) R fun b0o => waj H 17 R (nl R) (z.1, b0o, z.2) R R (su10 R R R R R R R R R R) (zc pk1 (zc pk1 so3))
 exact wse R (ebs R sb_25_0) (fun _ => (zt (zc pk3 (zc pk3 zn)))) R fun b4o => waj H 18 R (nl R) (z.1, b4o, z.2) R R (su10 R R R R R R R R R R) (zc pk1 (zc pk1 so3))
 refine List.forall_mem_cons.2 ⟨fun H => ?_, ?_⟩
 intro z
 dsimp only
 refine wa_3 (i := 7) (j := 8) (k := 17) (by kernel_rfl) ?_ ?_ ?_
 refine wse R (eo_append (xs := ([] : List Int)) (ys := a_g.Stock) ak_25 (pbo pz (n := 0) (xs := ([] : List Int)) R R (by unfold maxLen; omega)) R R (slin_rd fun _ g => Rg.on (rga r1) g) g2) (fun _ => (zt (zc pk2 (zc pk2 zn)))) R fun x7o => ?_
 exact waj H 19 R (nl R) (z.1, x7o) R R (su7 R R R R R R R) so4
 exact wse R (ebs R sb_27_0) (fun _ => (zt (zc pk3 (zc pk3 zn)))) R fun b8o => waj H 20 R (nl R) (z.1, z.2, b8o) R R (su9 R R R R R R R R R) so5
 exact wse R (eal (cs := [(sl hn), (sl hn), (sl hn), (sl hn), iv 0, iv 0]) za_29) (fun _ => (zt (zc pk3 (zc pk3 zn)))) R fun b17o => waj H 21 R (nl R) (b17o, z.1, z.2) R R (su9 R R R R R R R R R) so5
 refine List.forall_mem_cons.2 ⟨fun H => ?_, ?_⟩
 intro z
 dsimp only
 refine wa_2 (i := 4) (j := 17) (by kernel_rfl) ?_ ?_
 exact wse R (ebs R sb_25_0) (fun _ => (zt (zc pk3 (zc pk3 zn)))) R fun b4o => waj H 20 R (nl R) (z.1, b4o, z.2) R R (su9 R R R R R R R R R) (zc pk1 so4)
 exact wse R (eal (cs := [(sl hn), (sl hn), (sl hn), (sl hn), iv 0, iv 0]) za_29) (fun _ => (zt (zc pk3 (zc pk3 zn)))) R fun b17o => waj H 22 R (nl R) (b17o, z.1, z.2) R R (su9 R R R R R R R R R) so5
 refine List.forall_mem_cons.2 ⟨fun H => ?_, ?_⟩
 intro z
 dsimp only
 refine wa_2 (i := 4) (j := 8) (by kernel_rfl) ?_ ?_
 exact wse R (ebs R sb_25_0) (fun _ => (zt (zc pk3 (zc pk3 zn)))) R fun b4o => waj H 21 R (nl R) (z.1, z.2, b4o) R R (su9 R R R R R R R R R) (zc pk1 so4)
 exact wse R (ebs R sb_27_0) (fun _ => (zt (zc pk3 (zc pk3 zn)))) R fun b8o => waj H 22 R (nl R) (z.1, z.2, b8o) R R (su9 R R R R R R R R R) (zc pk1 so4)
 refine List.forall_mem_cons.2 ⟨fun H => ?_, ?_⟩
 intro z
 dsimp only
 refine wa_2 (i := 3) (j := 17) (by kernel_rfl) ?_ ?_
 refine wse R (eo_append (xs := ([] : List GMember)) (ys := a_g.Members) ak_24 (pbo pk2 (n := 0) (xs := ([] : List GMember)) R R (by unfold maxLen; omega)) R R (slin_rd fun _ g => Rg.on (rga r0) g) g1) (fun _ => (zt (zc pk3 (zc pk3 zn)))) R fun x3o => ?_
 exact waj H 20 R (nl R) (x3o, z.2.1, z.2.2) R R (su9 R R R R R R R R R) (zc pk1 (zc pk1 so3))
 exact wse R (eal (cs := [(sl hn), (sl hn), (sl hn), (sl hn), iv 0, iv 0]) za_29) (fun _ => (zt (zc pk4 (zc pk4 zn)))) R fun b17o => waj H 23 R (nl R) (b17o, z.1, z.2.1, z.2.2) R R (yc R (su10 R R R R R R R R R R)) so6
 refine List.forall_mem_cons.2 ⟨fun H => ?_, ?_⟩
 intro z
 dsimp only
 refine wa_2 (i := 3) (j := 8) (by kernel_rfl) ?_ ?_
 refine wse R (eo_append (xs := ([] : List GMember)) (ys := a_g.Members) ak_24 (pbo pk2 (n := 0) (xs := ([] : List GMember)) R R (by unfold maxLen; omega)) R R (slin_rd fun _ g => Rg.on (rga r0) g) g1) (fun _ => (zt (zc pk3 (zc pk3 zn)))) R fun x3o => ?_
 exact waj H 21 R (nl R) (z.1, x3o, z.2.2) R R (su9 R R R R R R R R R) (zc pk1 (zc pk1 so3))
 exact wse R (ebs R sb_27_0) (fun _ => (zt (zc pk4 (zc pk4 zn)))) R fun b8o => waj H 23 R (nl R) (z.1, z.2.1, z.2.2, b8o) R R (yc R (su10 R R R R R R R R R R)) (zc pk1 so5)
 refine List.forall_mem_cons.2 ⟨fun H => ?_, ?_⟩
 intro z
 dsimp only
 refine wa_2 (i := 3) (j := 4) (by kernel_rfl) ?_ ?_
 refine wse R (eo_append (xs := ([] : List GMember)) (ys := a_g.Members) ak_24 (pbo pk2 (n := 0) (xs := ([] : List GMember)) R R (by unfold maxLen; omega)) R R (slin_rd fun _ g => Rg.on (rga r0) g) g1) (fun _ => (zt (zc pk3 (zc pk3 zn)))) R fun x3o => ?_
 exact waj H 22 R (nl R) (z.1, x3o, z.2.2) R R (su9 R R R R R R R R R) (zc pk1 (zc pk1 so3))
 exact wse R (ebs R sb_25_0) (fun _ => (zt (zc pk4 (zc pk4 zn)))) R fun b4o => waj H 23 R (nl R) (z.1, z.2.1, b4o, z.2.2) R R (yc R (su10 R R R R R R R R R R)) (zc pk1 (zc pk1 so4))
 refine List.forall_mem_cons.2 ⟨fun H => ?_, ?_⟩
 intro z
 dsimp only
 exact a1 0 (wse R (ebs R sb_24_0) (fun _ => (zt (zc pk4 (zc pk4 zn)))) R fun b0o => (waj H 23 R (nl R) (z.1, b0o, z.2.1, z.2.2) R R (yc R (su10 R R R R R R R R R R)) (zc pk1 (zc pk1 (zc pk1 so3)))))
 refine List.forall_mem_cons.2 ⟨fun H => ?_, ?_⟩
 intro z
 dsimp only
 refine wa_2 (i := 8) (j := 17) (by kernel_rfl) ?_ ?_
 exact wse R (ebs R sb_27_0) (fun _ => (zt (zc pk3 (zc pk3 zn)))) R fun b8o => waj H 24 R (nl R) (z.1, z.2, b8o) R R (su8 R R R R R R R R) so5
 exact wse R (eal (cs := [(sl hn), (sl hn), (sl hn), (sl hn), iv 0, iv 0]) za_29) (fun _ => (zt (zc pk3 (zc pk3 zn)))) R fun b17o => waj H 25 R (nl R) (b17o, z.1, z.2) R R (su8 R R R R R R R R) so5
 refine List.forall_mem_cons.2 ⟨fun H => ?_, ?_⟩
 intro z
 dsimp only
 refine wa_2 (i := 7) (j := 17) (by kernel_rfl) ?_ ?_
 refine wse R (eo_append (xs := ([] : List Int)) (ys := a_g.Stock) ak_25 (pbo pk1 (n := 0) (xs := ([] : List Int)) R R (by unfold maxLen; omega)) R R (slin_rd fun _ g => Rg.on (rga r1) g) g2) (fun _ => (zt (zc pk3 (zc pk3 zn)))) R fun x7o => ?_
 exact waj H 24 R (nl R) (z.1, x7o, z.2.2) R R (su8 R R R R R R R R) (zc pk1 so4)
 exact wse R (eal (cs := [(sl hn), (sl hn), (sl hn), (sl hn), iv 0, iv 0]) za_29) (fun _ => (zt (zc pk4 (zc pk4 zn)))) R fun b17o => waj H 26 R (nl R) (b17o, z.1, z.2.1, z.2.2) R R (su10 R R R R R R R R R R) so6
 refine List.forall_mem_cons.2 ⟨fun H => ?_, ?_⟩
 intro z
 dsimp only
 refine wa_2 (i := 7) (j := 8) (by kernel_rfl) ?_ ?_
 refine wse R (eo_append (xs := ([] : List Int)) (ys := a_g.Stock) ak_25 (pbo pk1 (n := 0) (xs := ([] : List Int)) R R (by unfold maxLen; omega)) R R (slin_rd fun _ g => Rg.on (rga r1) g) g2) (fun _ => (zt (zc pk3 (zc pk3 zn)))) R fun x7o => ?_
 exact waj H 25 R (nl R) (z.1, z.2.1, x7o) R R (su8 R R R R R R R R) (zc pk1 so4)
 exact wse R (ebs R sb_27_0) (fun _ => (zt (zc pk4 (zc pk4 zn)))) R fun b8o => waj H 26 R (nl R) (z.1, z.2.1, z.2.2, b8o) R R (su10 R R R R R R R R R R) (zc pk1 so5)
 refine List.forall_mem_cons.2 ⟨fun H => ?_, ?_⟩
 intro z
 dsimp only
 exact a1 4 (wse R (ebs R sb_25_0) (fun _ => (zt (zc pk4 (zc pk4 zn)))) R fun b4o => (waj H 26 R (nl R) (z.1, z.2.1, b4o, z.2.2) R R (su10 R R R R R R R R R R) (zc pk1 (zc pk1 so4))))
 refine List.forall_mem_cons.2 ⟨fun H => ?_, ?_⟩
 intro z
 dsimp only
 refine a1 3 (wse R (eo_append (xs := ([] : List GMember)) (ys := a_g.Members) ak_24 (pbo pk3 (n := 0) (xs := ([] : List GMember)) R R (by unfold maxLen; omega)) R R (slin_rd fun _ g => Rg.on (rga r0) g) g1) (fun _ => (zt (zc pk4 (zc pk4 zn)))) R fun x3o => ?_)
 exact waj H 26 R (nl R) (z.1, x3o, z.2.2.1, z.2.2.2) R R (su10 R R R R R R R R R R) (zc pk1 (zc pk1 (zc pk1 so3)))
 refine List.forall_mem_cons.2 ⟨fun H => ?_, ?_⟩
 intro z
 dsimp only
 refine wa_2 (i := 11) (j := 17) (by kernel_rfl) ?_ ?_
 refine wse R (eo_append (xs := ([] : List GBooking)) (ys := a_g.Books) ak_27 (pbo pz (n := 0) (xs := ([] : List GBooking)) R R (by unfold maxLen; omega)) R R (slin_rd fun _ g => Rg.on (rga r3) g) g3) (fun _ => (zt (zc pk3 (zc pk3 zn)))) R fun x11o => ?_
 exact aq 16 R (po_build R (bd_29_0_1_3_4_5 z.1 z.2.1 x11o a_g.Round a_g.Year)) (zc pk3 (zc pk3 zn)) R (waj H 27 R (nl R) (z.1, z.2.1, x11o) R R (su3 R R R) so5)
 exact wse R (eal (cs := [(sl hn), (sl hn), (sl hn), (sl hn), iv 0, iv 0]) za_29) (fun _ => (zt (zc pk4 (zc pk4 zn)))) R fun b17o => waj H 28 R (nl R) (b17o, z.1, z.2.1, z.2.2) R R (su9 R R R R R R R R R) so6
 refine List.forall_mem_cons.2 ⟨fun H => ?_, ?_⟩
 intro z
 dsimp only
 exact a1 8 (wse R (ebs R sb_27_0) (fun _ => (zt (zc pk4 (zc pk4 zn)))) R fun b8o => (waj H 28 R (nl R) (z.1, z.2.1, z.2.2, b8o) R R (su9 R R R R R R R R R) (zc pk1 so5)))
 refine List.forall_mem_cons.2 ⟨fun H => ?_, ?_⟩
 intro z
 dsimp only
 refine a1 7 (wse R (eo_append (xs := ([] : List Int)) (ys := a_g.Stock) ak_25 (pbo pk2 (n := 0) (xs := ([] : List Int)) R R (by unfold maxLen; omega)) R R (slin_rd fun _ g => Rg.on (rga r1) g) g2) (fun _ => (zt (zc pk4 (zc pk4 zn)))) R fun x7o => ?_)
 exact waj H 28 R (nl R) (z.1, z.2.1, x7o, z.2.2.2) R R (su9 R R R R R R R R R) (zc pk1 (zc pk1 so4))
 refine List.forall_mem_cons.2 ⟨fun H => ?_, ?_⟩
 intro z
 dsimp only
 exact a1 17 (wse R (eal (cs := [(sl hn), (sl hn), (sl hn), (sl hn), iv 0, iv 0]) za_29) (fun _ => (zt (zc pk4 (zc pk4 zn)))) R fun b17o => (waj H 29 R (nl R) (b17o, z.1, z.2.1, z.2.2) R R (su4 R R R R) so6))
 refine List.forall_mem_cons.2 ⟨fun H => ?_, ?_⟩
 intro z
 dsimp only
 refine a1 11 (wse R (eo_append (xs := ([] : List GBooking)) (ys := a_g.Books) ak_27 (pbo pk1 (n := 0) (xs := ([] : List GBooking)) R R (by unfold maxLen; omega)) R R (slin_rd fun _ g => Rg.on (rga r3) g) g3) (fun _ => (zt (zc pk4 (zc pk4 zn)))) R fun x11o => ?_)
 exact aq 16 R (po_build R (bd_29_0_1_3_4_5 z.2.1 z.2.2.1 x11o a_g.Round a_g.Year)) (zc pk4 (zc pk4 zn)) R (waj H 29 R (nl R) (z.1, z.2.1, z.2.2.1, x11o) R R (su4 R R R R) (zc pk1 so5))
 refine List.forall_mem_cons.2 ⟨fun H => ?_, ?_⟩
 intro z
 dsimp only
 refine a1 18 (ws_skipop R (sbx (cs' := [(sl z.2.1), (sl z.2.2.1), (sl hn), (sl z.2.2.2), iv a_g.Round, iv a_g.Year]) tk_29 pz R R R R R R R) (sts_past (by kernel_rfl)) ?_)
 exact ae (wqm (z.1, z.2.1, z.2.2.1, z.2.2.2) trivial (su3 R R R) so6)
 exact fun _ h => nomatch h
 exact aq 1 R (pof fo_29_0 R) so2 R (aq (v := (sl v0a)) 2 R (plx tk_24 pk1 R R) so2 R (aq 5 R (pof fo_29_1 R) so2 R (aq (v := (sl v1a)) 6 R (plx tk_25 pk1 R R) so2 R (aq 9 R (pof fo_29_3 R) so2 R (aq (v := (sl v3a)) 10 R (plx tk_27 pk1 R R) so2 R (aq 12 R (pof fo_29_4 R) so2 R (aq (v := iv a_g.Round) 13 R (plx tk_3 pk1 R R) so2 R (aq 14 R (pof fo_29_5 R) so2 R (aq (v := iv a_g.Year) 15 R (plx tk_3 pk1 R R) so2 R (waj H 0 R (nl R) () R R (su7 R R R R R R R) so2))))))))))
 intro x1 _
 refine wqt (wcs (wcr (asg R R (wnt (gdO t0 fun g4 t0 => (lpO_inv t0 fun y1 l1 t0 => (wj (J := List GEntry) (X := Hd × (List Value)) (fun z => y1 = z) (fun _ _ => [(2, ptr b2 0), (3, ptr x1.1 0)]) (fun z x => [box x1.1 [(sl x1.2.1), (sl x1.2.2.1), (sl x.1), (sl x1.2.2.2), iv a_g.Round, iv a_g.Year], ownF (sl x1.2.2.2) (([] : List GBooking) ++ a_g.Books), ownF (sl x1.2.2.1) (([] : List Int) ++ a_g.Stock), ownF (sl x1.2.1) (([] : List GMember) ++ a_g.Members), box b2 [(sl hn), (sl hn), (sl hn), (sl hn), iv 0, iv 0], own (sl x.1) x.2 z]) ?_ ?_)))))))
 refine wcb (wcf (X := Hd × (List Value)) l1 (fun k1 s1 x1l => [(1, ptr b1 0), (2, ptr b2 0), (3, ptr x1.1 0), (4, iv ((k1 : Nat) : Int))]) (fun k1 s1 x1l => [box x1.1 [(sl x1.2.1), (sl x1.2.2.1), (sl x1l.1), (sl x1.2.2.2), iv a_g.Round, iv a_g.Year], ownF (sl x1.2.2.2) (([] : List GBooking) ++ a_g.Books), ownF (sl x1.2.2.1) (([] : List Int) ++ a_g.Stock), ownF (sl x1.2.1) (([] : List GMember) ++ a_g.Members), box b2 [(sl hn), (sl hn), (sl hn), (sl hn), iv 0, iv 0], box b1 [(sl v0a), (sl v1a), (sl v2a), (sl v3a), iv a_g.Round, iv a_g.Year], own (sl x1l.1) x1l.2 s1]) (hn, []) (su4 R R R R) (zc pz (zc pz (zc pz (zc pz (zc pz (zc pz (zc pick_nil zn))))))) fun k1 s1 x1l hN1 l1 => ?_)
 by_cases hk1 : k1 < a_g.Entries.length
 refine fos l1 hk1 fun _ t1 l1 => ?_
 unfold spec_l38Copy_L1 at t1
 have c1 : (decide (((k1 : Nat) : Int) < ((a_g.Entries.length : Nat) : Int))) = true := ddt (by omega)
 refine wcs (wcr (mv R R (wlq (pof fo_29_2 R) R (wlq (v := (sl v2a)) (plx tk_26 pk5 R R) R (wlq (pln (rga r2) el_26 R) R (wlq (pls R R) R (wnt (wft R c1 (wck (wqt (wcs (wcb (wcr (wlq (pof fo_29_2 R) R (wlq (v := (sl v2a)) (plx tk_26 pk5 R R) R (mv R R (wlq (po_ixn (k := k1) (rga r2) el_26 R R hk1) R (wl_elem (rga r2) hk1 ?_))))))))))))))))))
 rintro ⟨_, _, he1⟩
 obtain ⟨w1, hc1, _⟩ := rd_GEntry.1 he1
 refine wlq (v := .agg #[iv ((gx a_g.Entries k1).Owner), iv ((gx a_g.Entries k1).Day), iv (((gx a_g.Entries k1).Block).Size), (sl w1)]) (po_ldns (rga r2) tk_96 R hc1 R R R) R (wle (eal (cs := [iv 0, iv 0, iv 0, (sl hn)]) za_96) R fun b3 => (wls (sbx (cs' := [iv ((gx a_g.Entries k1).Owner), iv ((gx a_g.Entries k1).Day), iv (((gx a_g.Entries k1).Block).Size), (sl w1)]) tk_96 pz R R R R R R R) (wnt (wcr (wlq (pof fo_96_2 R) R (wlq (v := .agg #[iv (((gx a_g.Entries k1).Block).Size), (sl w1)]) (plb tk_73 pz R R R) R (bdO t1 fun v1 hv1 t1 => (wlc (cz1 fa_45 R fun w hw => c_spec_l03Copy w ((gx a_g.Entries k1).Block) w1 (Rg.on (er_GEntry_0 hc1 (rga r2) hk1) hw) hv1) R fun x3 => (wlq (pof fo_96_2 R) R (wls (sbx (cs' := [iv ((gx a_g.Entries k1).Owner), iv ((gx a_g.Entries k1).Day), iv v1.Size, (sl x3)]) tk_73 pk1 R R R R R R R) (wnt (wcg (wlq (pof fo_29_2 R) R (wlq (v := (sl x1l.1)) (plx tk_26 pk2 R R) R (wlq (v := .agg #[iv ((gx a_g.Entries k1).Owner), iv ((gx a_g.Entries k1).Day), iv v1.Size, (sl x3)]) (plb tk_96 pz R R R) R (wle (ebs R (sb_26_1 ((gx a_g.Entries k1).Owner) ((gx a_g.Entries k1).Day) v1.Size x3)) R fun b4 => (gdO t1 fun g5 t1 => (wle (eo_append_one (us := x1l.2) (xs := s1) ak_26 pk9 (pow_GEntry (x := (GEntry.mk ((gx a_g.Entries k1).Owner) ((gx a_g.Entries k1).Day) v1)) pk2) pz R R R g5) R fun x4 => (wlq (pof fo_29_2 R) R (wls (sbx (cs' := [(sl x1.2.1), (sl x1.2.2.1), (sl x4), (sl x1.2.2.2), iv a_g.Round, iv a_g.Year]) tk_26 pk3 R R R R R R R) (wln (wqb (wqt (wcg (mv R R (wlq (po_inc R R (by omega)) R ?_))))))))))))))))))))))))))
 exact asg R R (wln (wq_rnd hk1 (stpN l1 t1) (x4, (x1l.2 ++ [iv ((gx a_g.Entries k1).Owner), iv ((gx a_g.Entries k1).Day), iv v1.Size, (sl x3)])) (su4 R R R R) (zc pz (zc pk3 (zc pk3 (zc pk3 (zc pk3 (zc pk3 so1))))))))
 have c1 : (decide (((k1 : Nat) : Int) < ((a_g.Entries.length : Nat) : Int))) = false := ddf (by omega)
 have en1 := foe l1 hk1
 exact wcs (wcr (mv R R (wlq (pof fo_29_2 R) R (wlq (v := (sl v2a)) (plx tk_26 pk5 R R) R (wlq (pln (rga r2) el_26 R) R (wlq (pls R R) R (wnt (wff R c1 (wcx (wqe (wqe (wbx (wjm _ (x1l.1, x1l.2) (Sum.inl.inj en1) (su2 R R) (zc pz (zc pz (zc pz (zc pz (zc pz (zc pk1 zn)))))))))))))))))))
 intro e1 x2 hp
 obtain rfl : e1 = y1 := hp.symm
 refine wqt (wcr (wlq (v := .agg #[(sl x1.2.1), (sl x1.2.2.1), (sl x2.1), (sl x1.2.2.2), iv a_g.Round, iv a_g.Year]) (plb tk_29 pz R R R) R (wls (sbx (cs' := [(sl x1.2.1), (sl x1.2.2.1), (sl x2.1), (sl x1.2.2.2), iv a_g.Round, iv a_g.Year]) tk_29 pk4 R R R R R R R) (wnt (wct ?_)))))
 obtain rfl := oi t0
 exact wqc R tk_29 R pz R fun w hw => ⟨(x1.2.1, x1.2.2.1, x2.1, x2.2, x1.2.2.2), R, hw.weak (zc pk4 (zc pk3 (zc pk3 (zc pk2 zn))))⟩

theorem c_spec_JoinGuild (w : World) (a_list : List GMember) (v0a : Hd) (r0 : rdF w (dm w []) (sl v0a) a_list) (a_number : Int) (a_year : Int) {r : (List GMember) × Bool} (t0 : spec_JoinGuild a_list a_number a_year = some r) : Calls Tryz.prog 41 #[(sl v0a), .int .i64 a_number, .int .i64 a_year] w fun e w' => ∃ x : Hd, e = .returned (.tuple #[(sl x), .bool r.2]) ∧ SH w [] [ownF (sl x) r.1] w' := by
 refine cwc (args := [_, _, _]) Tryz.func41 R Tryz.ntmps41 R ?_
 unfold spec_JoinGuild at t0
 refine wcr (asg R R (asg R R (wnt (wcr (wle (ebs R sb_24_0) R fun b1 => (mv R R (gdO t0 fun g1 t0 => (wle (eo_append (xs := ([] : List GMember)) (ys := a_list) ak_24 (pbo pz (n := 0) (xs := ([] : List GMember)) R R (by unfold maxLen; omega)) R R (slin_rd fun _ g => Rg.on (rga r0) g) g1) R fun x1 => ?_))))))))
 refine asg R R (wnt (wcs (wcs (bdO t0 fun y1 t1 t0 => (wj (J := Bool) (X := Unit) (fun z => y1 = z) (fun z _ => [(0, (sl v0a)), (1, iv a_number), (2, iv a_year), (8, (sl x1)), (21, .bool z)]) (fun _ _ => [ownF (sl x1) (([] : List GMember) ++ a_list)]) ?_ ?_)))))
 refine wcg (mv R R (bdO t1 fun v1 hv1 t1 => (wlc (cz0 fa_55 R fun w hw => c_spec_MembersOk w a_list v0a (ra r0 hw) hv1) R fun _ => (wlq (po_not R) R (mv R R (wlo (t := 17) t1 R (fun h1 t1 => ?_) fun h1 t1 => ?_))))))
 exact wgf (j := 3) R R R R R (wgf (j := 3) R R R R R (wgf (j := 3) R R R R R (wlq (pit R R) R (wln (wjm _ () (mtE t1) (su5 R R R R R) so1)))))
 exact wgn (j := 3) R R R (mv R R (bdO t1 fun v2 hv2 t1 => (wgn (j := 3) R R R (wlc (cz0 fa_58 R fun w hw => c_spec_l01In w a_year 1900 2999 hv2) R (fun _ => (wgn (j := 3) R R R (wlq (po_not R) R (wlq (pif R R) R (wln (wjm _ () (mtE t1) (su5 R R R R R) so1))))))))))
 intro j1 _ hp
 obtain rfl : j1 = y1 := hp.symm
 refine wqt (wcO t0 R (fun h2 t0 => ?_) fun h2 t0 => ?_)
 refine wcr (mv R R (asg R R (asg R R (wnt (wct (wqr ?_))))))
 obtain rfl := oi t0
 exact wq_ret2 R R R fun w hw => ⟨x1, R, hw.weak so1⟩
 refine wck (wqt (wcr (asg R R (wnt (wcs (wlO_inv t0 fun y1 l1 t0 => (wj (J := Int) (X := Unit) (fun z => y1 = z) (fun z _ => [(0, (sl v0a)), (1, iv a_number), (2, iv a_year), (8, (sl x1)), (9, iv z)]) (fun _ _ => [ownF (sl x1) (([] : List GMember) ++ a_list)]) ?_ ?_)))))))
 refine wcb (wc_whO (X := Unit) l1 (fun s1 x1l => [(0, (sl v0a)), (1, iv a_number), (2, iv a_year), (8, (sl x1)), (9, iv s1)]) (fun s1 x1l => [ownF (sl x1) (([] : List GMember) ++ a_list)]) () (su5 R R R R R) so1 fun m1 s1 x1l l1 => (whO_step l1 fun _ t1 l1 => ?_))
 unfold spec_JoinGuild_L1 at t1
 refine wcs (wcs (bdO t1 fun y2 t2 t1 => (wj (J := Bool) (X := Unit) (fun z => y2 = z) (fun z _ => [(0, (sl v0a)), (1, iv a_number), (2, iv a_year), (8, (sl x1)), (9, iv s1), (35, .bool z)]) (fun _ _ => [ownF (sl x1) (([] : List GMember) ++ a_list)]) ?_ ?_)))
 refine wcg (mv R R (mv R R (wlq (pln (rga r0) el_24 R) R (wlq (pls R R) R (mv R R (wlo (t := 27) t2 R (fun h3 t2 => ?_) fun h3 t2 => ?_))))))
 exact wgn (j := 4) R R R (mv R R (wgn (j := 4) R R R (mv R R (gdO t2 fun g2 t2 => (wgn (j := 4) R R R (wlq (po_ixr (rga r0) el_24 R R g2.1 g2.2) R (wgn (j := 4) R R R (wlq (po_sfldr (rga r0) (ix_lt g2) fo_79_0 R) R (wgn (j := 4) R R R (wlq (v := iv ((gx a_list ((s1).toNat)).Number)) (po_ldf (rga r0) tk_3 R (ix_lt g2) R) R (wgn (j := 4) R R R (mv R R (wgn (j := 4) R R R (wlq (pls R R) R (wlq (pit R R) R (wln (wjm _ () (mtE t2) (su6 R R R R R R) so1)))))))))))))))))
 exact wgf (j := 4) R R R R R (wgf (j := 4) R R R R R (wgf (j := 4) R R R R R (wgf (j := 4) R R R R R (wgf (j := 4) R R R R R (wgf (j := 4) R R R R R (wgf (j := 4) R R R R R (wlq (pif R R) R (wln (wjm _ () (mtE t2) (su6 R R R R R R) so1)))))))))
 intro j2 _ hp
 obtain rfl : j2 = y2 := hp.symm
 refine wqt (wcO t1 R (fun h4 t1 => ?_) fun h4 t1 => ?_)
 exact wck (wqt (wcb (wcg (mv R R (wlq (po_add R R) R (asg R R (wln (wqb (wq_rndw (stwN l1 t1) () (su5 R R R R R) so1)))))))))
 exact wcx (wqe (wqe (wbx (wjm _ () (Sum.inl.inj (stwB l1 t1)) (su5 R R R R R) so1))))
 intro e1 _ hp
 obtain rfl : e1 = y1 := hp.symm
 refine wqt (wcr (wle (ebs R sb_24_0) R fun b2 => (mv R R (mv R R (gdO t0 fun g3 t0 => (wlq (po_cutr (l := 0) (h := (e1).toNat) (rga r0) el_24 R (.inl ⟨R, R⟩) (.inr ⟨_, R, ixn g3.1⟩) g3.2.1 g3.2.2) R (gdO t0 fun g4 t0 => (wle (eo_append (xs := ([] : List GMember)) (ys := ((a_list.drop 0).take ((e1).toNat - 0))) ak_24 (pbo pz (n := 0) (xs := ([] : List GMember)) R R (by unfold maxLen; omega)) R R (slin_rd fun _ g => Rg.on (rds_cut (rga r0) g3.2.1 g3.2.2) g) g4) R fun x5 => ?_))))))))
 refine asg R R (wnt (wcr (mv R R (mv R R (mv R R (mv R R (wlq (po_sub R R) R (wlq (po_build R (bd_79_0_1_2 a_number a_year (wr (a_year - 1)))) R (wle (ebs R (sb_24_1 a_number a_year (wr (a_year - 1)))) R fun b3 => (gdO t0 fun g5 t0 => (wle (eo_append (xs := (([] : List GMember) ++ ((a_list.drop 0).take ((e1).toNat - 0)))) (ys := ([(GMember.mk a_number a_year (wr (a_year - 1)))] : List GMember)) ak_24 pk1 R R (slin_rd fun _ g => Rg.on (rgo (pbo pz (n := 1) (xs := ([(GMember.mk a_number a_year (wr (a_year - 1)))] : List GMember)) R R (by unfold maxLen; omega))) g) g5) R fun x6 => ?_)))))))))))
 refine asg R R (wnt (wcr (mv R R (mv R R (mv R R (gdO t0 fun g6 t0 => (wlq (po_cutr (l := (e1).toNat) (h := a_list.length) (rga r0) el_24 R (.inr ⟨_, R, ixn g6.1⟩) (.inl ⟨R, R⟩) g6.2.1 g6.2.2) R (gdO t0 fun g7 t0 => (wle (eo_append (xs := ((([] : List GMember) ++ ((a_list.drop 0).take ((e1).toNat - 0))) ++ [(GMember.mk a_number a_year (wr (a_year - 1)))])) (ys := ((a_list.drop ((e1).toNat)).take (a_list.length - ((e1).toNat)))) ak_24 pz R R (slin_rd fun _ g => Rg.on (rds_cut (rga r0) g6.2.1 g6.2.2) g) g7) R fun x7 => (asg R R (wnt (wcs (wcr (mv R R (bdO t0 fun v3 hv3 t0 => (wlc (cz0 fa_55 R fun w hw => c_spec_MembersOk w (((([] : List GMember) ++ ((a_list.drop 0).take ((e1).toNat - 0))) ++ [(GMember.mk a_number a_year (wr (a_year - 1)))]) ++ ((a_list.drop ((e1).toNat)).take (a_list.length - ((e1).toNat)))) x7 (Rg.on (rgo pz) hw) hv3) R fun _ => (wlq (po_not R) R (wnt (wcO t0 R (fun h5 t0 => ?_) fun h5 t0 => ?_)))))))))))))))))))
 refine wcr (mv R R (asg R R (asg R R (wnt (wct (wqr ?_))))))
 obtain rfl := oi t0
 exact wq_ret2 R R R fun w hw => ⟨x1, R, hw.weak (zc pk2 zn)⟩
 refine wck (wqt (wcr (mv R R (asg R R (asg R R (wnt (wct ?_)))))))
 obtain rfl := oi t0
 exact wq_ret2 R R R fun w hw => ⟨x7, R, hw.weak so1⟩

theorem c_spec_PayDues (w : World) (a_list : List GMember) (v0a : Hd) (r0 : rdF w (dm w []) (sl v0a) a_list) (a_number : Int) (a_years : Int) {r : (List GMember) × Bool} (t0 : spec_PayDues a_list a_number a_years = some r) : Calls Tryz.prog 42 #[(sl v0a), .int .i64 a_number, .int .i64 a_years] w fun e w' => ∃ x : Hd, e = .returned (.tuple #[(sl x), .bool r.2]) ∧ SH w [] [ownF (sl x) r.1] w' := by
 refine cwc (args := [_, _, _]) Tryz.func42 R Tryz.ntmps42 R ?_
 unfold spec_PayDues at t0
 refine wcr (asg R R (asg R R (wnt (wcr (wle (ebs R sb_24_0) R fun b1 => (mv R R (gdO t0 fun g1 t0 => (wle (eo_append (xs := ([] : List GMember)) (ys := a_list) ak_24 (pbo pz (n := 0) (xs := ([] : List GMember)) R R (by unfold maxLen; omega)) R R (slin_rd fun _ g => Rg.on (rga r0) g) g1) R fun x1 => ?_))))))))
 refine asg R R (wnt (wcr (asg R R (wnt (wcs (wcr (asg R R (wnt (gdO t0 fun g2 t0 => (lpO_inv t0 fun y1 l1 t0 => (wj (J := (List GMember) × Bool) (X := Unit) (fun z => y1 = z) (fun z _ => [(0, (sl v0a)), (8, (sl x1)), (9, .bool z.2)]) (fun z _ => [ownF (sl x1) z.1]) ?_ ?_)))))))))))
 refine wcb (wcf (X := Unit) l1 (fun k1 s1 x1l => [(0, (sl v0a)), (1, iv a_number), (2, iv a_years), (8, (sl x1)), (9, .bool s1.2), (10, iv ((k1 : Nat) : Int))]) (fun k1 s1 x1l => [ownF (sl x1) s1.1]) () (su6 R R R R R R) so1 fun k1 s1 x1l hN1 l1 => ?_)
 by_cases hk1 : k1 < a_list.length
 refine fos l1 hk1 fun _ t1 l1 => ?_
 unfold spec_PayDues_L1 at t1
 have c1 : (decide (((k1 : Nat) : Int) < ((a_list.length : Nat) : Int))) = true := ddt (by omega)
 refine wcs (wcr (mv R R (mv R R (wlq (pln (rga r0) el_24 R) R (wlq (pls R R) R (mv R R (wl_know (t := 18) R c1 (wgn (j := 4) R R R (mv R R (bdO t1 fun v1 hv1 t1 => (wgn (j := 4) R R R (wlc (cz0 fa_58 R fun w hw => c_spec_l01In w a_years 1 10 hv1) R (fun _ => (wlq (pit R R) R (wnt (wcO t1 R (fun h1 t1 => ?_) fun h1 t1 => ?_))))))))))))))))
 refine wck (wqt (wcs (wcb (wcr (mv R R (mv R R (wlq (po_ixn (k := k1) (rga r0) el_24 R R hk1) R (wlq (po_sfldr (rga r0) hk1 fo_79_0 R) R (wlq (v := iv ((gx a_list k1).Number)) (po_ldf (rga r0) tk_3 R hk1 R) R (mv R R (wlq (pol R R) R (wnt (bdO t1 fun y2 t2 t1 => (wj (J := (List GMember) × Bool) (X := Unit) (fun z => y2 = z) (fun z _ => [(0, (sl v0a)), (1, iv a_number), (2, iv a_years), (8, (sl x1)), (9, .bool z.2), (10, iv ((k1 : Nat) : Int)), (19, iv a_years), (20, .bool v1)]) (fun z _ => [ownF (sl x1) z.1]) ?_ ?_))))))))))))))
 refine wcO t2 R (fun h2 t2 => ?_) fun h2 t2 => ?_
 exact wcr (mv R R (mv R R (mv R R (mv R R (wlq (po_ixn (k := k1) (rga r0) el_24 R R hk1) R (wlq (po_sfldr (rga r0) hk1 fo_79_2 R) R (wlq (v := iv ((gx a_list k1).Paid)) (po_ldf (rga r0) tk_3 R hk1 R) R (mv R R (wlq (po_add R R) R (gdO t2 fun g3 t2 => (wlq (po_ixn (k := k1) (rgo pz) el_24 R R g3) R (wlq (po_sfldr (rgo pz) g3 fo_79_2 R) R (wls (so_own (x' := (GMember.mk ((gx s1.1 k1).Number) ((gx s1.1 k1).Since) (wr ((gx a_list k1).Paid + a_years)))) tk_3 pz R R R R R R g3 R) (wnt (wcg (asg R R (wln (wjm _ () (mtE t2) (su8 R R R R R R R R) so1))))))))))))))))))
 exact wck (wjm _ () (mtE t2) (su8 R R R R R R R R) so1)
 intro j1 _ hp
 obtain rfl : j1 = y2 := hp.symm
 refine wqb (wqt (wcg (mv R R (wlq (po_inc R R (by omega)) R ?_))))
 exact asg R R (wln (wq_rnd hk1 (stpN l1 t1) () (su6 R R R R R R) so1))
 exact wcx (wqe (wqe (wbx (wjm _ () (Sum.inl.inj (stpB l1 t1)) (su3 R R R) so1))))
 have c1 : (decide (((k1 : Nat) : Int) < ((a_list.length : Nat) : Int))) = false := ddf (by omega)
 have en1 := foe l1 hk1
 exact wcs (wcr (mv R R (mv R R (wlq (pln (rga r0) el_24 R) R (wlq (pls R R) R (mv R R (wl_know (t := 18) R c1 (wgf (j := 4) R R R R R (wgf (j := 4) R R R R R (wlq (pif R R) R (wnt (wff R R (wcx (wqe (wqe (wbx (wjm _ () (Sum.inl.inj en1) (su3 R R R) so1)))))))))))))))))
 intro e1 _ hp
 obtain rfl : e1 = y1 := hp.symm
 refine wqt (wcs (wcs (bdO t0 fun y1 t1 t0 => (wj (J := Bool) (X := Unit) (fun z => y1 = z) (fun z _ => [(0, (sl v0a)), (8, (sl x1)), (53, .bool z)]) (fun _ _ => [ownF (sl x1) e1.1]) ?_ ?_))))
 refine wcg (mv R R (bdO t1 fun v2 hv2 t1 => (wlc (cz0 fa_55 R fun w hw => c_spec_MembersOk w a_list v0a (ra r0 hw) hv2) R fun _ => (wlq (po_not R) R (mv R R (wlo (t := 45) t1 R (fun h3 t1 => ?_) fun h3 t1 => ?_))))))
 exact wgf (j := 3) R R R R R (wgf (j := 3) R R R R R (wlq (pit R R) R (mv R R (wgf (j := 7) R R R R R (wgf (j := 7) R R R R R (wgf (j := 7) R R R R R (wlq (pit R R) R (wln (wjm _ () (mtE t1) (su3 R R R) so1)))))))))
 refine wgn (j := 3) R R R (mv R R (wgn (j := 3) R R R (wlq (po_not R) R (wlq (pif R R) R (mv R R (wlo (t := 49) t1 R (fun h4 t1 => ?_) fun h4 t1 => ?_))))))
 exact wgf (j := 7) R R R R R (wgf (j := 7) R R R R R (wgf (j := 7) R R R R R (wlq (pit R R) R (wln (wjm _ () (mtE t1) (su3 R R R) so1)))))
 exact wgn (j := 7) R R R (mv R R (bdO t1 fun v3 hv3 t1 => (wgn (j := 7) R R R (wlc (cz0 fa_55 R fun w hw => c_spec_MembersOk w e1.1 x1 (Rg.on (rgo pz) hw) hv3) R (fun _ => (wgn (j := 7) R R R (wlq (po_not R) R (wlq (pif R R) R (wln (wjm _ () (mtE t1) (su3 R R R) so1))))))))))
 intro j2 _ hp
 obtain rfl : j2 = y1 := hp.symm
 refine wqt (wcO t0 R (fun h5 t0 => ?_) fun h5 t0 => ?_)
 refine wcr (wle (ebs R sb_24_0) R fun b2 => (mv R R (wle (eo_append (xs := ([] : List GMember)) (ys := a_list) ak_24 (pbo pz (n := 0) (xs := ([] : List GMember)) R R (by unfold maxLen; omega)) R R (slin_rd fun _ g => Rg.on (rga r0) g) g1) R fun x5 => ?_)))
 refine asg R R (asg R R (wnt (wct (wqr ?_))))
 obtain rfl := oi t0
 exact wq_ret2 R R R fun w hw => ⟨x5, R, hw.weak so1⟩
 refine wck (wqt (wcr (mv R R (asg R R (asg R R (wnt (wct ?_)))))))
 obtain rfl := oi t0
 exact wq_ret2 R R R fun w hw => ⟨x1, R, hw.weak so1⟩

end Go.Proofs.YtjfjbgihojiijaaGreatDoor
