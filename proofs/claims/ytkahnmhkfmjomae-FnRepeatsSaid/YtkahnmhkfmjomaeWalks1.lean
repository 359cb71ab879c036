/-
 Each Go function computes its Lean function (part 1).
-/
import Derived.Test.YtkahnmhkfmjomaeFacts
namespace Go.Proofs.Ytkahnmhkfmjomae
open Go Go.RowKit Go.Proofs
set_option maxRecDepth 100000

theorem c_laws_big (w : World) (a_code : List UInt8) (v0a : Hd) (r0 : rdF w (dm w []) (sl v0a) a_code) {r : Bool} (t0 : laws_big a_code = some r) : Calls Try.prog 4 #[(sl v0a)] w fun e w' => e = .returned (.bool r) ∧ SH w [] [] w' := by
 refine cwc (args := [_]) Try.func4 R Try.ntmps4 R ?_
 unfold laws_big at t0
 refine wcr (asg R R (wnt (wcr (mv R R (wlq (pln (rga r0) el_22 R) R (wlq (po_gtr R R) R (asg R R (wnt (wct ?_)))))))))
 obtain rfl := oi t0
 exact wq1 R R fun w hw => ⟨R, hw.weak zn⟩

theorem c_spec_l01New (w : World) (a_code : List UInt8) (v0a : Hd) (r0 : rdF w (dm w []) (sl v0a) a_code) {r : Int × Int} (t0 : spec_l01New a_code = some r) : Calls Try.prog 14 #[(sl v0a)] w fun e w' => ∃ x : Nat, e = .returned (ptr x 0) ∧ SH w [] [box x [(sl v0a), .int .i64 r.1, .int .i64 r.2]] w' := by
 refine cwc (args := [_]) Try.func14 R Try.ntmps14 R ?_
 unfold spec_l01New at t0
 refine wcr (asg R R (wnt (wcr (mv R R (wlq (pln (rga r0) el_22 R) R (wlq (po_add R R) R (asg R R (wnt (wcs (wcr (asg R R (wnt (gdO t0 fun g1 t0 => (lpO_inv t0 fun y1 l1 t0 => (wj (J := Int) (X := Unit) (fun z => y1 = z) (fun z _ => [(0, (sl v0a)), (3, iv z)]) (fun _ _ => []) ?_ ?_)))))))))))))))
 refine wcb (wcf (X := Unit) l1 (fun k1 s1 x1l => [(0, (sl v0a)), (3, iv s1), (4, iv ((k1 : Nat) : Int))]) (fun k1 s1 x1l => []) () (su3 R R R) zn fun k1 s1 x1l hN1 l1 => ?_)
 by_cases hk1 : k1 < a_code.length
 refine fos l1 hk1 fun _ t1 l1 => ?_
 unfold spec_l01New_L1 at t1
 have c1 : (decide (((k1 : Nat) : Int) < ((a_code.length : Nat) : Int))) = true := ddt (by omega)
 refine wcs (wcr (mv R R (mv R R (wlq (pln (rga r0) el_22 R) R (wlq (pls R R) R (mv R R (wl_know (t := 12) R c1 (wgn (j := 4) R R R (mv R R (wgn (j := 4) R R R (wlq (pls R R) R (wlq (pit R R) R (wnt (wcO t1 R (fun h1 t1 => ?_) fun h1 t1 => ?_))))))))))))))
 refine wck (wqt (wcs (wcb (wcg (mv R R (wlq (po_mul R R) R (mv R R (mv R R (wlq (po_ixn (k := k1) (rga r0) el_22 R R hk1) R (wlq (v := .int .u8 ((gx a_code k1).toNat : Int)) (po_ldf (rga r0) tk_5 R hk1 R) R (wlq (po_u8int isU8_5 isInt_3 R) R (wlq (po_add R R) R (wlq (po_add R R) R (wlq (po_and R R) R (asg R R (wln (wqb (wqt (wcg (mv R R (wlq (po_inc R R (by omega)) R ?_)))))))))))))))))))))
 exact asg R R (wln (wq_rnd hk1 (stpN l1 t1) () (su3 R R R) zn))
 exact wcx (wqe (wqe (wbx (wjm _ () (Sum.inl.inj (stpB l1 t1)) (su2 R R) zn))))
 have c1 : (decide (((k1 : Nat) : Int) < ((a_code.length : Nat) : Int))) = false := ddf (by omega)
 have en1 := foe l1 hk1
 exact wcs (wcr (mv R R (mv R R (wlq (pln (rga r0) el_22 R) R (wlq (pls R R) R (mv R R (wl_know (t := 12) R c1 (wgf (j := 4) R R R R R (wgf (j := 4) R R R R R (wlq (pif R R) R (wnt (wff R R (wcx (wqe (wqe (wbx (wjm _ () (Sum.inl.inj en1) (su2 R R) zn)))))))))))))))))
 intro e1 _ hp
 obtain rfl : e1 = y1 := hp.symm
 refine wqt (wcr (mv R R (mv R R (wlq (po_build R (bd_61_0_2 v0a e1)) R (wle (eo_box R R) R fun b1 => (asg R R (wnt (wct ?_))))))))
 obtain rfl := oi t0
 exact wq1 R R fun w hw => ⟨b1, R, hw.weak so1⟩

theorem c_spec_l01Byte (w : World) (fp : List Nat) (b0p : Nat) (a_c0 : List UInt8) (v0a : Hd) (r0 : rdF w (dm w fp) (sl v0a) a_c0) (a_c1 : Int) (a_c2 : Int) (o : Ow w [box b0p [(sl v0a), .int .i64 a_c1, .int .i64 a_c2]] fp) {r : Int × Int × Int} (t0 : spec_l01Byte a_c0 a_c1 a_c2 = some r) : Calls Try.prog 38 #[ptr b0p 0] w fun e w' => ∃ _x : Unit, e = .returned (.int .i64 r.1) ∧ SH w fp [box b0p [(sl v0a), .int .i64 r.2.1, .int .i64 r.2.2]] w' := by
 refine calls_of_wc_own (args := [_]) o Try.func38 R Try.ntmps38 R ?_
 unfold spec_l01Byte at t0
 refine wcr (asg R R (wnt (wcr (mv R R (mv R R (wlq (po_nilCheck R) R (wlq (pof fo_61_2 R) R (wlq (v := iv a_c2) (plx tk_3 pz R R) R (wlq (po_mul R R) R (wlq (po_add R R) R (wlq (po_nilCheck R) R (wlq (pof fo_61_2 R) R (wls (sbx (cs' := [(sl v0a), iv a_c1, iv (wr ((wr (a_c2 * 6364136223846793005)) + 1442695040888963407))]) tk_3 pz R R R R R R R) (wnt (wcs (wcd [box b0p [(sl v0a), iv a_c1, iv (wr ((wr (a_c2 * 6364136223846793005)) + 1442695040888963407))]] 13 mixed (aq 0 R (pom R) so1 R (aq 1 R (po_nilCheck R) so1 R (aq 2 R (pof fo_61_2 R) so1 R (aq (v := iv (wr ((wr (a_c2 * 6364136223846793005)) + 1442695040888963407))) 3 R (plx tk_3 pz R R) so1 R (aq 4 R (po_shr R R (by decide)) so1 R ?_)))))))))))))))))))))
 refine aq 5 R (pom R) so1 R (aq 6 R (po_nilCheck R) so1 R (aq 7 R (pof fo_61_2 R) so1 R (aq (v := iv (wr ((wr (a_c2 * 6364136223846793005)) + 1442695040888963407))) 8 R (plx tk_3 pz R R) so1 R (aq 9 R (po_shr R R (by decide)) so1 R ?_))))
 refine aq 10 R (po_xor R R) so1 R (aq 11 R (po_and R R) so1 R (aq 12 R (po_assign R) so1 R (ae (wqt (wcs (wcs (wcd [box b0p [(sl v0a), iv a_c1, iv (wr ((wr (a_c2 * 6364136223846793005)) + 1442695040888963407))]] 10 mixed (aq 0 R (pom R) so1 R (aq 1 R (po_nilCheck R) so1 R (aq 2 R (pof fo_61_1 R) so1 R (aq (v := iv a_c1) 3 R (plx tk_3 pz R R) so1 R (aq 4 R (pom R) so1 R (aq 5 R (po_nilCheck R) so1 R (aq 6 R (pof fo_61_0 R) so1 R (aq (v := (sl v0a)) 7 R (plx tk_22 pz R R) so1 R (aq 8 R (pln (rga r0) el_22 R) so1 R (aq 9 R (pls R R) so1 R (ae (wqt (bdO t0 fun y1 t1 t0 => (wj (J := Int × Int) (X := Unit) (fun z => y1 = z) (fun z _ => [(3, iv z.1)]) (fun z _ => [box b0p [(sl v0a), iv z.2, iv (wr ((wr (a_c2 * 6364136223846793005)) + 1442695040888963407))]]) ?_ ?_)))))))))))))))))))))
 refine wcO t1 R (fun h1 t1 => ?_) fun h1 t1 => ?_
 exact wcs (wcd [box b0p [(sl v0a), iv a_c1, iv (wr ((wr (a_c2 * 6364136223846793005)) + 1442695040888963407))]] 15 mixed (aq 0 R (pom R) so1 R (aq 1 R (pom R) so1 R (aq 2 R (po_nilCheck R) so1 R (aq 3 R (pof fo_61_0 R) so1 R (aq (v := (sl v0a)) 4 R (plx tk_22 pz R R) so1 R (aq 5 R (pom R) so1 R (aq 6 R (po_nilCheck R) so1 R (aq 7 R (pof fo_61_1 R) so1 R (aq (v := iv a_c1) 8 R (plx tk_3 pz R R) so1 R (gdO t1 fun g1 t1 => (aq 9 R (po_ixr (rga r0) el_22 R R g1.1 g1.2) so1 R (aq (v := .int .u8 ((gx a_c0 ((a_c1).toNat)).toNat : Int)) 10 R (po_ldf (rga r0) tk_5 R (ix_lt g1) R) so1 R (aq 11 R (po_u8int isU8_5 isInt_3 R) so1 R (aq 12 R (po_add R R) so1 R (aq 13 R (po_and R R) so1 R (aq 14 R (po_assign R) so1 R (ae (wqt (wcg (mv R R (mv R R (wlq (po_nilCheck R) R (wlq (pof fo_61_1 R) R (wlq (v := iv a_c1) (plx tk_3 pz R R) R (wlq (po_add R R) R (wlq (po_nilCheck R) R (wlq (pof fo_61_1 R) R (wls (sbx (cs' := [(sl v0a), iv (wr (a_c1 + 1)), iv (wr ((wr (a_c2 * 6364136223846793005)) + 1442695040888963407))]) tk_3 pz R R R R R R R) (wln (wjm _ () (mtE t1) (su1 R) so1)))))))))))))))))))))))))))))))
 exact wck (wjm _ () (mtE t1) (su1 R) so1)
 intro j1 _ hp
 obtain rfl : j1 = y1 := hp.symm
 refine wqt (wcr (mv R R (asg R R (wnt (wct ?_)))))
 obtain rfl := oi t0
 exact wq1 R R fun w hw => ⟨(), R, hw.weak so1⟩

theorem c_spec_l01Below (w : World) (fp : List Nat) (b0p : Nat) (a_c0 : List UInt8) (v0a : Hd) (r0 : rdF w (dm w fp) (sl v0a) a_c0) (a_c1 : Int) (a_c2 : Int) (a_n : Int) (o : Ow w [box b0p [(sl v0a), .int .i64 a_c1, .int .i64 a_c2]] fp) {r : Int × Int × Int} (t0 : spec_l01Below a_c0 a_c1 a_c2 a_n = some r) : Calls Try.prog 27 #[ptr b0p 0, .int .i64 a_n] w fun e w' => ∃ _x : Unit, e = .returned (.int .i64 r.1) ∧ SH w fp [box b0p [(sl v0a), .int .i64 r.2.1, .int .i64 r.2.2]] w' := by
 refine calls_of_wc_own (args := [_, _]) o Try.func27 R Try.ntmps27 R ?_
 unfold spec_l01Below at t0
 refine wcr (asg R R (wnt (wcs (wcr (mv R R (wlq (po_leq R R) R (wnt (wcO t0 R (fun h1 t0 => ?_) fun h1 t0 => ?_))))))))
 refine wcr (asg R R (wnt (wct (wqr ?_))))
 obtain rfl := oi t0
 exact wq1 R R fun w hw => ⟨(), R, hw.weak so1⟩
 refine wck (wqt (wcs (wcr (mv R R (wlq (po_leq R R) R (wnt (wcO t0 R (fun h2 t0 => ?_) fun h2 t0 => ?_)))))))
 refine wcr (mv R R (bdO t0 fun v1 hv1 t0 => (wlc (co_o1 [box b0p [(sl v0a), iv a_c1, iv a_c2]] fa_38 (zc pz some_refl) R fun w fp hw => c_spec_l01Byte w fp b0p a_c0 v0a ((rdo_arg r0) w fp hw) a_c1 a_c2 hw.ow hv1) R fun _ => (mv R R (gdO t0 fun g1 t0 => (wlq (po_rem R R g1) R (asg R R (wnt (wct (wqr ?_))))))))))
 obtain rfl := oi t0
 exact wq1 R R fun w hw => ⟨(), R, hw.weak so1⟩
 refine wck (wqt (wcr (mv R R (bdO t0 fun v2 hv2 t0 => (wlc (co_o1 [box b0p [(sl v0a), iv a_c1, iv a_c2]] fa_38 (zc pz some_refl) R fun w fp hw => c_spec_l01Byte w fp b0p a_c0 v0a ((rdo_arg r0) w fp hw) a_c1 a_c2 hw.ow hv2) R fun _ => (asg R R (wnt (wcr (mv R R (bdO t0 fun v3 hv3 t0 => (wlc (co_o1 [box b0p [(sl v0a), iv v2.2.1, iv v2.2.2]] fa_38 (zc pz some_refl) R fun w fp hw => c_spec_l01Byte w fp b0p a_c0 v0a ((rdo_arg r0) w fp hw) v2.2.1 v2.2.2 hw.ow hv3) R fun _ => (asg R R (wnt (wcr (mv R R (bdO t0 fun v4 hv4 t0 => (wlc (co_o1 [box b0p [(sl v0a), iv v3.2.1, iv v3.2.2]] fa_38 (zc pz some_refl) R fun w fp hw => c_spec_l01Byte w fp b0p a_c0 v0a ((rdo_arg r0) w fp hw) v3.2.1 v3.2.2 hw.ow hv4) R fun _ => (asg R R (wnt (wcr (mv R R (bdO t0 fun v5 hv5 t0 => (wlc (co_o1 [box b0p [(sl v0a), iv v4.2.1, iv v4.2.2]] fa_38 (zc pz some_refl) R fun w fp hw => c_spec_l01Byte w fp b0p a_c0 v0a ((rdo_arg r0) w fp hw) v4.2.1 v4.2.2 hw.ow hv5) R fun _ => (asg R R (wnt (wcr (mv R R (wlq (po_mul R R) R (mv R R (wlq (po_mul R R) R (wlq (po_add R R) R (mv R R (wlq (po_mul R R) R (wlq (po_add R R) R (mv R R (wlq (po_add R R) R (mv R R (gdO t0 fun g2 t0 => (wlq (po_rem R R g2) R ?_)))))))))))))))))))))))))))))))))))))))
 refine asg R R (wnt (wct ?_))
 obtain rfl := oi t0
 exact wq1 R R fun w hw => ⟨(), R, hw.weak so1⟩

theorem c_spec_l01In (w : World) (a_x : Int) (a_least : Int) (a_most : Int) {r : Bool} (t0 : spec_l01In a_x a_least a_most = some r) : Calls Try.prog 25 #[.int .i64 a_x, .int .i64 a_least, .int .i64 a_most] w fun e w' => e = .returned (.bool r) ∧ SH w [] [] w' := by
 refine cwc (args := [_, _, _]) Try.func25 R Try.ntmps25 R ?_
 unfold spec_l01In at t0
 refine wcr (asg R R (wnt (wcs (wcj (X := Unit) (fun _ => True) (fun _ => [(6, .bool ((decide (a_x ≥ a_least)) && (decide (a_x ≤ a_most))))]) (fun _ => []) ?_ ?_))))
 refine wcg (mv R R (mv R R (wlq (po_geq R R) R (mv R R (wl_fork (t := 10) R (fun h1 => ?_) fun h1 => ?_)))))
 exact wgn (j := 3) R R R (mv R R (wgn (j := 3) R R R (mv R R (wgn (j := 3) R R R (wlq (po_leq R R) R (wlq (pit R R) R (asg R R (wln (wqm () trivial (sub_b R (by rw [h1]; rfl) yn) zn)))))))))
 exact wgf (j := 3) R R R R R (wgf (j := 3) R R R R R (wgf (j := 3) R R R R R (wlq (pif R R) R (asg R R (wln (wqm () trivial (sub_b R (by rw [h1]; rfl) yn) zn))))))
 intro _ _
 refine wqt (wct ?_)
 obtain rfl := oi t0
 exact wq1 R R fun w hw => ⟨R, hw.weak zn⟩

theorem c_spec_WholeCell (w : World) (a_a : Int) {r : GCell} (t0 : spec_WholeCell a_a = some r) : Calls Try.prog 47 #[.int .i64 a_a] w fun e w' => e = .returned (.agg #[.int .i64 r.Split, .int .i64 r.A, .int .i64 r.B]) ∧ SH w [] [] w' := by
 refine cwc (args := [_]) Try.func47 R Try.ntmps47 R ?_
 unfold spec_WholeCell at t0
 refine wcr (wle (eal (cs := [iv 0, iv 0, iv 0]) za_57) R fun b1 => (wnt (wcs (wcr (mv R R (bdO t0 fun v1 hv1 t0 => (wlc (cz0 fa_25 R fun w hw => c_spec_l01In w a_a 0 5 hv1) R fun _ => (wlq (po_not R) R (wnt (wcO t0 R (fun h1 t0 => ?_) fun h1 t0 => ?_))))))))))
 refine wcr (wlq (po_build R bd_57) R (wls (sbx (cs' := [iv 0, iv 0, iv 0]) tk_57 pz R R R R R R R) (wnt (wct (wqr ?_)))))
 obtain rfl := oi t0
 exact wqc R tk_57 R pz R fun w hw => ⟨R, hw.weak zn⟩
 refine wck (wqt (wcr (mv R R (mv R R (wlq (po_build R (bd_57_1_2 a_a a_a)) R (wls (sbx (cs' := [iv 0, iv a_a, iv a_a]) tk_57 pz R R R R R R R) (wnt (wct ?_))))))))
 obtain rfl := oi t0
 exact wqc R tk_57 R pz R fun w hw => ⟨R, hw.weak zn⟩

theorem c_spec_CellOk (w : World) (a_c : GCell) {r : Bool} (t0 : spec_CellOk a_c = some r) : Calls Try.prog 44 #[.agg #[.int .i64 a_c.Split, .int .i64 a_c.A, .int .i64 a_c.B]] w fun e w' => e = .returned (.bool r) ∧ SH w [] [] w' := by
 refine cwc (args := [_]) Try.func44 R Try.ntmps44 R ?_
 unfold spec_CellOk at t0
 refine wcr (wle (eo_box R R) R fun b1 => (asg R R (wnt (wcs (wcs (bdO t0 fun y1 t1 t0 => (wj (J := Bool) (X := Unit) (fun z => y1 = z) (fun z _ => [(1, ptr b1 0), (18, .bool z)]) (fun _ _ => [box b1 [iv a_c.Split, iv a_c.A, iv a_c.B]]) ?_ ?_)))))))
 refine wcg (wlq (pof fo_57_0 R) R (wlq (v := iv a_c.Split) (plx tk_3 pz R R) R (bdO t1 fun v1 hv1 t1 => (wlc (cz0 fa_25 R fun w hw => c_spec_l01In w a_c.Split 0 2 hv1) R fun _ => (wlq (po_not R) R (mv R R (wlo (t := 7) t1 R (fun h1 t1 => ?_) fun h1 t1 => ?_)))))))
 exact wgf (j := 4) R R R R R (wgf (j := 4) R R R R R (wgf (j := 4) R R R R R (wgf (j := 4) R R R R R (wlq (pit R R) R (mv R R (wgf (j := 10) R R R R R (wgf (j := 10) R R R R R (wgf (j := 10) R R R R R (wgf (j := 10) R R R R R (wlq (pit R R) R (wln (wjm _ () (mtE t1) (su2 R R) so1))))))))))))
 refine wgn (j := 4) R R R (wlq (pof fo_57_1 R) R (wgn (j := 4) R R R (wlq (v := iv a_c.A) (plx tk_3 pz R R) R (bdO t1 fun v2 hv2 t1 => (wgn (j := 4) R R R (wlc (cz0 fa_25 R fun w hw => c_spec_l01In w a_c.A 0 5 hv2) R (fun _ => (wgn (j := 4) R R R (wlq (po_not R) R (wlq (pif R R) R (mv R R (wlo (t := 13) t1 R (fun h2 t1 => ?_) fun h2 t1 => ?_))))))))))))
 exact wgf (j := 10) R R R R R (wgf (j := 10) R R R R R (wgf (j := 10) R R R R R (wgf (j := 10) R R R R R (wlq (pit R R) R (wln (wjm _ () (mtE t1) (su2 R R) so1))))))
 exact wgn (j := 10) R R R (wlq (pof fo_57_2 R) R (wgn (j := 10) R R R (wlq (v := iv a_c.B) (plx tk_3 pz R R) R (bdO t1 fun v3 hv3 t1 => (wgn (j := 10) R R R (wlc (cz0 fa_25 R fun w hw => c_spec_l01In w a_c.B 0 5 hv3) R (fun _ => (wgn (j := 10) R R R (wlq (po_not R) R (wlq (pif R R) R (wln (wjm _ () (mtE t1) (su2 R R) so1))))))))))))
 intro j1 _ hp
 obtain rfl : j1 = y1 := hp.symm
 refine wqt (wcO t0 R (fun h3 t0 => ?_) fun h3 t0 => ?_)
 refine wcr (asg R R (wnt (wct (wqr ?_))))
 obtain rfl := oi t0
 exact wq1 R R fun w hw => ⟨R, hw.weak zn⟩
 refine wck (wqt (wcr (wlq (pof fo_57_0 R) R (wlq (v := iv a_c.Split) (plx tk_3 pz R R) R (wlq (pol R R) R (wlq (pof fo_57_1 R) R (wlq (v := iv a_c.A) (plx tk_3 pz R R) R (wlq (pof fo_57_2 R) R (wlq (v := iv a_c.B) (plx tk_3 pz R R) R (wlq (pol R R) R (wlq (po_eql_bool ub_4 R R) R (asg R R (wnt (wct ?_))))))))))))))
 obtain rfl := oi t0
 exact wq1 R R fun w hw => ⟨R, hw.weak zn⟩

theorem c_spec_SplitCell (w : World) (a_split : Int) (a_a : Int) (a_b : Int) {r : GCell} (t0 : spec_SplitCell a_split a_a a_b = some r) : Calls Try.prog 39 #[.int .i64 a_split, .int .i64 a_a, .int .i64 a_b] w fun e w' => e = .returned (.agg #[.int .i64 r.Split, .int .i64 r.A, .int .i64 r.B]) ∧ SH w [] [] w' := by
 refine cwc (args := [_, _, _]) Try.func39 R Try.ntmps39 R ?_
 unfold spec_SplitCell at t0
 refine wcr (wle (eal (cs := [iv 0, iv 0, iv 0]) za_57) R fun b1 => (wnt (wcs (wcr (mv R R (mv R R (wlq (pol R R) R (wnt (wcO t0 R (fun h1 t0 => ?_) fun h1 t0 => ?_)))))))))
 refine wcr (mv R R (bdO t0 fun v1 hv1 t0 => (wlc (cz0 fa_47 R fun w hw => c_spec_WholeCell w a_a hv1) R fun _ => (wls (sbx (cs' := [iv v1.Split, iv v1.A, iv v1.B]) tk_57 pz R R R R R R R) (wnt (wct (wqr ?_)))))))
 obtain rfl := oi t0
 exact wqc R tk_57 R pz R fun w hw => ⟨R, hw.weak zn⟩
 refine wck (wqt (wcr (mv R R (mv R R (mv R R (wlq (po_build R (bd_57_0_1_2 a_split a_a a_b)) R (wle (eal (cs := [iv 0, iv 0, iv 0]) za_57) R fun b2 => (wls (sbx (cs' := [iv a_split, iv a_a, iv a_b]) tk_57 pz R R R R R R R) (wnt (wcs (wcr (wlq (v := .agg #[iv a_split, iv a_a, iv a_b]) (plb tk_57 pz R R R) R (bdO t0 fun v2 hv2 t0 => (wlc (cz0 fa_44 R fun w hw => c_spec_CellOk w (GCell.mk a_split a_a a_b) hv2) R fun _ => (wlq (po_not R) R (wnt (wcO t0 R (fun h2 t0 => ?_) fun h2 t0 => ?_)))))))))))))))))
 refine wcr (wlq (po_build R bd_57) R (wls (sbx (cs' := [iv 0, iv 0, iv 0]) tk_57 pk1 R R R R R R R) (wnt (wct (wqr ?_)))))
 obtain rfl := oi t0
 exact wqc R tk_57 R pz R fun w hw => ⟨R, hw.weak zn⟩
 refine wck (wqt (wcr (wlq (v := .agg #[iv a_split, iv a_a, iv a_b]) (plb tk_57 pz R R R) R (wls (sbx (cs' := [iv a_split, iv a_a, iv a_b]) tk_57 pk1 R R R R R R R) (wnt (wct ?_))))))
 obtain rfl := oi t0
 exact wqc R tk_57 R pz R fun w hw => ⟨R, hw.weak zn⟩

theorem c_spec_l02Cell (w : World) (fp : List Nat) (b0p : Nat) (a_c0 : List UInt8) (v0a : Hd) (r0 : rdF w (dm w fp) (sl v0a) a_c0) (a_c1 : Int) (a_c2 : Int) (o : Ow w [box b0p [(sl v0a), .int .i64 a_c1, .int .i64 a_c2]] fp) {r : GCell × Int × Int} (t0 : spec_l02Cell a_c0 a_c1 a_c2 = some r) : Calls Try.prog 28 #[ptr b0p 0] w fun e w' => ∃ _x : Unit, e = .returned (.agg #[.int .i64 r.1.Split, .int .i64 r.1.A, .int .i64 r.1.B]) ∧ SH w fp [box b0p [(sl v0a), .int .i64 r.2.1, .int .i64 r.2.2]] w' := by
 refine calls_of_wc_own (args := [_]) o Try.func28 R Try.ntmps28 R ?_
 unfold spec_l02Cell at t0
 refine wcr (wle (eal (cs := [iv 0, iv 0, iv 0]) za_57) R fun b1 => (wnt (wcr (mv R R (bdO t0 fun v1 hv1 t0 => (wlc (co_o1 [box b0p [(sl v0a), iv a_c1, iv a_c2]] fa_27 (zc pk1 some_refl) R fun w fp hw => c_spec_l01Below w fp b0p a_c0 v0a ((rdo_arg r0) w fp hw) a_c1 a_c2 3 hw.ow hv1) R fun _ => (mv R R (bdO t0 fun v2 hv2 t0 => (wlc (co_o1 [box b0p [(sl v0a), iv v1.2.1, iv v1.2.2]] fa_27 (zc pz some_refl) R fun w fp hw => c_spec_l01Below w fp b0p a_c0 v0a ((rdo_arg r0) w fp hw) v1.2.1 v1.2.2 3 hw.ow hv2) R fun _ => (mv R R (bdO t0 fun v3 hv3 t0 => (wlc (co_o1 [box b0p [(sl v0a), iv v2.2.1, iv v2.2.2]] fa_27 (zc pz some_refl) R fun w fp hw => c_spec_l01Below w fp b0p a_c0 v0a ((rdo_arg r0) w fp hw) v2.2.1 v2.2.2 3 hw.ow hv3) R fun _ => (bdO t0 fun v4 hv4 t0 => (wlc (cz0 fa_39 R fun w hw => c_spec_SplitCell w v1.1 v2.1 v3.1 hv4) R fun _ => (wls (sbx (cs' := [iv v4.Split, iv v4.A, iv v4.B]) tk_57 pk1 R R R R R R R) (wnt (wct ?_)))))))))))))))))
 obtain rfl := oi t0
 exact wqc R tk_57 R pz R fun w hw => ⟨(), R, hw.weak (zc pk1 zn)⟩

theorem c_spec_l17Blocks (w : World) (fp : List Nat) (b0p : Nat) (a_c0 : List UInt8) (v0a : Hd) (r0 : rdF w (dm w fp) (sl v0a) a_c0) (a_c1 : Int) (a_c2 : Int) (o : Ow w [box b0p [(sl v0a), .int .i64 a_c1, .int .i64 a_c2]] fp) {r : (List GBlock) × Int × Int} (t0 : spec_l17Blocks a_c0 a_c1 a_c2 = some r) : Calls Try.prog 15 #[ptr b0p 0] w fun e w' => ∃ x : Hd × (List Value), e = .returned ((sl x.1)) ∧ SH w fp [own (sl x.1) x.2 r.1, box b0p [(sl v0a), .int .i64 r.2.1, .int .i64 r.2.2]] w' := by
 refine calls_of_wc_own (args := [_]) o Try.func15 R Try.ntmps15 R ?_
 unfold spec_l17Blocks at t0
 refine wcr (asg R R (wnt (wcr (wle (ebs R sb_27_0) R fun b1 => (asg R R (wnt (wcr (mv R R (bdO t0 fun v1 hv1 t0 => (wlc (co_o1 [box b0p [(sl v0a), iv a_c1, iv a_c2]] fa_27 (zc pk1 some_refl) R fun w fp hw => c_spec_l01Below w fp b0p a_c0 v0a ((rdo_arg r0) w fp hw) a_c1 a_c2 3 hw.ow hv1) R fun _ => (wlq (po_add R R) R (asg R R (wnt (wcr (mv R R (bdO t0 fun v2 hv2 t0 => (wlc (co_o1 [box b0p [(sl v0a), iv v1.2.1, iv v1.2.2]] fa_27 (zc pz some_refl) R fun w fp hw => c_spec_l01Below w fp b0p a_c0 v0a ((rdo_arg r0) w fp hw) v1.2.1 v1.2.2 3 hw.ow hv2) R fun _ => (wlq (po_add R R) R (asg R R (wnt (wcs (wcr (asg R R (wnt (gdO t0 fun g1 t0 => (lpO_inv t0 fun y1 l1 t0 => (wj (J := (List GBlock) × Int × Int) (X := Hd × (List Value)) (fun z => y1 = z) (fun _ x => [(3, (sl x.1))]) (fun z x => [box b0p [(sl v0a), iv z.2.1, iv z.2.2], own (sl x.1) x.2 z.1]) ?_ ?_)))))))))))))))))))))))))))
 refine wcb (wcf (X := Hd × (List Value)) l1 (fun k1 s1 x1l => [(0, ptr b0p 0), (3, (sl x1l.1)), (4, iv (wr (1 + v1.1))), (5, iv (wr (1 + v2.1))), (6, iv ((k1 : Nat) : Int))]) (fun k1 s1 x1l => [box b0p [(sl v0a), iv s1.2.1, iv s1.2.2], own (sl x1l.1) x1l.2 s1.1]) ((⟨some ⟨b1, 0, none⟩, 0, 0⟩ : Hd), []) (su5 R R R R R) (zc pz (zc (pick_box_nil pz) zn)) fun k1 s1 x1l hN1 l1 => ?_)
 by_cases hk1 : k1 < ((wr (1 + v1.1))).toNat
 refine fos l1 hk1 fun _ t1 l1 => ?_
 unfold spec_l17Blocks_L1 at t1
 have c1 : (decide (((k1 : Nat) : Int) < (wr (1 + v1.1)))) = true := ddt (by omega)
 refine wcs (wcr (mv R R (mv R R (wlq (pls R R) R (wnt (wft R c1 (wck (wqt (wcs (wcb (wcr (mv R R (wlq (po_build R (bd_44_0 (wr (1 + v2.1)))) R (wle (eal (cs := [iv 0, (sl hn)]) za_44) R fun b2 => (wls (sbx (cs' := [iv (wr (1 + v2.1)), (sl hn)]) tk_44 pz R R R R R R R) (wnt (wcs (wcr (asg R R (wnt (gdO t1 fun g2 t1 => (lpO_inv t1 fun y2 l2 t1 => (wj (J := (List GCell) × Int × Int) (X := Hd) (fun z => y2 = z) (fun _ _ => [(0, ptr b0p 0), (3, (sl x1l.1)), (4, iv (wr (1 + v1.1))), (5, iv (wr (1 + v2.1))), (6, iv ((k1 : Nat) : Int)), (7, ptr b2 0)]) (fun z x => [box b2 [iv (wr (1 + v2.1)), (sl x)], box b0p [(sl v0a), iv z.2.1, iv z.2.2], own (sl x1l.1) x1l.2 s1.1, ownF (sl x) z.1]) ?_ ?_)))))))))))))))))))))))
 refine wcb (wcf (X := Hd) l2 (fun k2 s2 x2l => [(0, ptr b0p 0), (3, (sl x1l.1)), (4, iv (wr (1 + v1.1))), (5, iv (wr (1 + v2.1))), (6, iv ((k1 : Nat) : Int)), (7, ptr b2 0), (8, iv ((k2 : Nat) : Int))]) (fun k2 s2 x2l => [box b2 [iv (wr (1 + v2.1)), (sl x2l)], box b0p [(sl v0a), iv s2.2.1, iv s2.2.2], own (sl x1l.1) x1l.2 s1.1, ownF (sl x2l) s2.1]) hn (su7 R R R R R R R) (zc pz (zc pz (zc pz (zc pick_nil zn)))) fun k2 s2 x2l hN2 l2 => ?_)
 by_cases hk2 : k2 < ((wr ((wr (1 + v2.1)) * (wr (1 + v2.1))))).toNat
 refine fos l2 hk2 fun _ t2 l2 => ?_
 unfold spec_l17Blocks_L2 at t2
 have c2 : (decide (((k2 : Nat) : Int) < (wr ((wr (1 + v2.1)) * (wr (1 + v2.1)))))) = true := ddt (by omega)
 refine wcs (wcr (mv R R (mv R R (mv R R (wlq (po_mul R R) R (wlq (pls R R) R (wnt (wft R c2 (wck (wqt (wcs (wcb (wcr (mv R R (bdO t2 fun v3 hv3 t2 => (wlc (co_o1 [box b0p [(sl v0a), iv s2.2.1, iv s2.2.2]] fa_28 (zc pk1 some_refl) R fun w fp hw => c_spec_l02Cell w fp b0p a_c0 v0a ((rdo_arg r0) w fp hw) s2.2.1 s2.2.2 hw.ow hv3) R fun _ => (wle (eal (cs := [iv 0, iv 0, iv 0]) za_57) R fun b3 => (wls (sbx (cs' := [iv v3.1.Split, iv v3.1.A, iv v3.1.B]) tk_57 pz R R R R R R R) (wnt (wcg (wlq (pof fo_44_1 R) R (wlq (v := (sl x2l)) (plx tk_42 pk2 R R) R (wlq (v := .agg #[iv v3.1.Split, iv v3.1.A, iv v3.1.B]) (plb tk_57 pz R R R) R (wle (ebs R (sb_42_1 v3.1.Split v3.1.A v3.1.B)) R fun b4 => (gdO t2 fun g3 t2 => (wle (eo_append (xs := s2.1) (ys := ([v3.1] : List GCell)) ak_42 pk5 R R (slin_rd fun _ g => Rg.on (rgo (pbo pz (n := 1) (xs := ([v3.1] : List GCell)) R R (by unfold maxLen; omega))) g) g3) R fun x3 => ?_))))))))))))))))))))))))))
 refine wlq (pof fo_44_1 R) R (wls (sbx (cs' := [iv (wr (1 + v2.1)), (sl x3)]) tk_42 pk4 R R R R R R R) (wln (wqb (wqt (wcg (mv R R (wlq (po_inc R R (by omega)) R ?_)))))))
 exact asg R R (wln (wq_rnd hk2 (stpN l2 t2) x3 (su7 R R R R R R R) (zc pz (zc pk3 (zc pk3 so1)))))
 have c2 : (decide (((k2 : Nat) : Int) < (wr ((wr (1 + v2.1)) * (wr (1 + v2.1)))))) = false := ddf (by omega)
 have en1 := foe l2 hk2
 exact wcs (wcr (mv R R (mv R R (mv R R (wlq (po_mul R R) R (wlq (pls R R) R (wnt (wff R c2 (wcx (wqe (wqe (wbx (wjm _ x2l (Sum.inl.inj en1) (su6 R R R R R R) so4)))))))))))))
 intro e2 x2 hp
 obtain rfl : e2 = y2 := hp.symm
 refine wqt (wcg (mv R R (wlq (v := .agg #[iv (wr (1 + v2.1)), (sl x2)]) (plb tk_44 pz R R R) R (wle (ebs R (sb_27_1 (wr (1 + v2.1)) x2)) R fun b5 => (gdO t1 fun g4 t1 => (wle (eo_append_one (us := x1l.2) (xs := s1.1) ak_27 pk3 (pow_GBlock (x := (GBlock.mk (wr (1 + v2.1)) e2.1)) pk3) pz R R R g4) R fun x4 => (asg R R (wln (wqb (wqt (wcg (mv R R (wlq (po_inc R R (by omega)) R ?_)))))))))))))
 exact asg R R (wln (wq_rnd hk1 (stpN l1 t1) (x4, (x1l.2 ++ [iv (wr (1 + v2.1)), (sl x2)])) (su5 R R R R R) (zc pk3 so1)))
 have c1 : (decide (((k1 : Nat) : Int) < (wr (1 + v1.1)))) = false := ddf (by omega)
 have en2 := foe l1 hk1
 exact wcs (wcr (mv R R (mv R R (wlq (pls R R) R (wnt (wff R c1 (wcx (wqe (wqe (wbx (wjm _ (x1l.1, x1l.2) (Sum.inl.inj en2) (su1 R) so2)))))))))))
 intro e1 x1 hp
 obtain rfl : e1 = y1 := hp.symm
 refine wqt (wcr (mv R R (asg R R (wnt (wct ?_)))))
 obtain rfl := oi t0
 exact wq1 R R fun w hw => ⟨(x1.1, x1.2), R, hw.weak (zc pk1 so1)⟩

theorem c_spec_l01Once (w : World) (fp : List Nat) (b0p : Nat) (a_c0 : List UInt8) (v0a : Hd) (r0 : rdF w (dm w fp) (sl v0a) a_c0) (a_c1 : Int) (a_c2 : Int) (a_n : Int) (o : Ow w [box b0p [(sl v0a), .int .i64 a_c1, .int .i64 a_c2]] fp) {r : Bool × Int × Int} (t0 : spec_l01Once a_c0 a_c1 a_c2 a_n = some r) : Calls Try.prog 29 #[ptr b0p 0, .int .i64 a_n] w fun e w' => ∃ _x : Unit, e = .returned (.bool r.1) ∧ SH w fp [box b0p [(sl v0a), .int .i64 r.2.1, .int .i64 r.2.2]] w' := by
 refine calls_of_wc_own (args := [_, _]) o Try.func29 R Try.ntmps29 R ?_
 unfold spec_l01Once at t0
 refine wcr (asg R R (wnt (wcr (mv R R (mv R R (bdO t0 fun v1 hv1 t0 => (wlc (co_o1 [box b0p [(sl v0a), iv a_c1, iv a_c2]] fa_27 (zc pz some_refl) R fun w fp hw => c_spec_l01Below w fp b0p a_c0 v0a ((rdo_arg r0) w fp hw) a_c1 a_c2 a_n hw.ow hv1) R fun _ => (wlq (pol R R) R (asg R R (wnt (wct ?_)))))))))))
 obtain rfl := oi t0
 exact wq1 R R fun w hw => ⟨(), R, hw.weak so1⟩

theorem c_spec_l17Quilt (w : World) (fp : List Nat) (b0p : Nat) (a_c0 : List UInt8) (v0a : Hd) (r0 : rdF w (dm w fp) (sl v0a) a_c0) (a_c1 : Int) (a_c2 : Int) (a_n : Int) (o : Ow w [box b0p [(sl v0a), .int .i64 a_c1, .int .i64 a_c2]] fp) {r : GQuilt × Int × Int} (t0 : spec_l17Quilt a_c0 a_c1 a_c2 a_n = some r) : Calls Try.prog 16 #[ptr b0p 0, .int .i64 a_n] w fun e w' => ∃ x : Hd, e = .returned (.agg #[.int .i64 r.1.Width, .int .i64 r.1.Height, (sl x)]) ∧ SH w fp [ownF (sl x) r.1.Spots, box b0p [(sl v0a), .int .i64 r.2.1, .int .i64 r.2.2]] w' := by
 refine calls_of_wc_own (args := [_, _]) o Try.func16 R Try.ntmps16 R ?_
 unfold spec_l17Quilt at t0
 refine wcr (wle (eal (cs := [iv 0, iv 0, (sl hn)]) za_26) R fun b1 => (wnt (wcr (mv R R (bdO t0 fun v1 hv1 t0 => (wlc (co_o1 [box b0p [(sl v0a), iv a_c1, iv a_c2]] fa_27 (zc pk1 some_refl) R fun w fp hw => c_spec_l01Below w fp b0p a_c0 v0a ((rdo_arg r0) w fp hw) a_c1 a_c2 4 hw.ow hv1) R fun _ => (wlq (po_add R R) R (mv R R (bdO t0 fun v2 hv2 t0 => (wlc (co_o1 [box b0p [(sl v0a), iv v1.2.1, iv v1.2.2]] fa_27 (zc pz some_refl) R fun w fp hw => c_spec_l01Below w fp b0p a_c0 v0a ((rdo_arg r0) w fp hw) v1.2.1 v1.2.2 4 hw.ow hv2) R fun _ => (wlq (po_add R R) R (wlq (po_build R (bd_26_0_1 (wr (1 + v1.1)) (wr (1 + v2.1)))) R (wle (eal (cs := [iv 0, iv 0, (sl hn)]) za_26) R fun b2 => (wls (sbx (cs' := [iv (wr (1 + v1.1)), iv (wr (1 + v2.1)), (sl hn)]) tk_26 pz R R R R R R R) (wnt (wcr (mv R R (bdO t0 fun v3 hv3 t0 => (wlc (co_o1 [box b0p [(sl v0a), iv v2.2.1, iv v2.2.2]] fa_29 (zc pk1 some_refl) R fun w fp hw => c_spec_l01Once w fp b0p a_c0 v0a ((rdo_arg r0) w fp hw) v2.2.1 v2.2.2 3 hw.ow hv3) R fun _ => (asg R R (wnt (wcs (wcr (asg R R (wnt (gdO t0 fun g1 t0 => (lpO_inv t0 fun y1 l1 t0 => (wj (J := Int × Int × (List GSpot)) (X := Hd) (fun z => y1 = z) (fun _ _ => [(4, ptr b1 0), (5, ptr b2 0)]) (fun z x => [box b0p [(sl v0a), iv z.1, iv z.2.1], box b2 [iv (wr (1 + v1.1)), iv (wr (1 + v2.1)), (sl x)], box b1 [iv 0, iv 0, (sl hn)], ownF (sl x) z.2.2]) ?_ ?_))))))))))))))))))))))))))))
 refine wcb (wcf (X := Hd) l1 (fun k1 s1 x1l => [(0, ptr b0p 0), (1, iv a_n), (4, ptr b1 0), (5, ptr b2 0), (6, .bool v3.1), (7, iv ((k1 : Nat) : Int))]) (fun k1 s1 x1l => [box b0p [(sl v0a), iv s1.1, iv s1.2.1], box b2 [iv (wr (1 + v1.1)), iv (wr (1 + v2.1)), (sl x1l)], box b1 [iv 0, iv 0, (sl hn)], ownF (sl x1l) s1.2.2]) hn (su6 R R R R R R) (zc pz (zc pz (zc pz (zc pick_nil zn)))) fun k1 s1 x1l hN1 l1 => ?_)
 by_cases hk1 : k1 < ((wr ((wr (1 + v1.1)) * (wr (1 + v2.1))))).toNat
 refine fos l1 hk1 fun _ t1 l1 => ?_
 unfold spec_l17Quilt_L1 at t1
 have c1 : (decide (((k1 : Nat) : Int) < (wr ((wr (1 + v1.1)) * (wr (1 + v2.1)))))) = true := ddt (by omega)
 refine wcs (wcr (mv R R (wlq (pof fo_26_0 R) R (wlq (v := iv (wr (1 + v1.1))) (plx tk_3 pk1 R R) R (wlq (pof fo_26_1 R) R (wlq (v := iv (wr (1 + v2.1))) (plx tk_3 pk1 R R) R (wlq (po_mul R R) R (wlq (pls R R) R (wnt (wft R c1 (wck (wqt (wcs (wcb (wcr (mv R R (mv R R (bdO t1 fun v4 hv4 t1 => (wlc (co_o1 [box b0p [(sl v0a), iv s1.1, iv s1.2.1]] fa_27 (zc pz some_refl) R fun w fp hw => c_spec_l01Below w fp b0p a_c0 v0a ((rdo_arg r0) w fp hw) s1.1 s1.2.1 a_n hw.ow hv4) R fun _ => (mv R R (bdO t1 fun v5 hv5 t1 => (wlc (co_o1 [box b0p [(sl v0a), iv v4.2.1, iv v4.2.2]] fa_27 (zc pz some_refl) R fun w fp hw => c_spec_l01Below w fp b0p a_c0 v0a ((rdo_arg r0) w fp hw) v4.2.1 v4.2.2 8 hw.ow hv5) R fun _ => (wlq (po_build R (bd_40_0_1 v4.1 v5.1)) R (wle (eal (cs := [iv 0, iv 0]) za_40) R fun b3 => (wls (sbx (cs' := [iv v4.1, iv v5.1]) tk_40 pz R R R R R R R) (wnt (wcs (wcr (mv R R (wnt (bdO t1 fun y2 t2 t1 => (wj (J := GSpot) (X := Unit) (fun z => y2 = z) (fun _ _ => [(0, ptr b0p 0), (1, iv a_n), (4, ptr b1 0), (5, ptr b2 0), (6, .bool v3.1), (7, iv ((k1 : Nat) : Int)), (8, ptr b3 0)]) (fun z _ => [box b3 [iv ((z).Block), iv ((z).Seen)], box b0p [(sl v0a), iv v5.2.1, iv v5.2.2], box b2 [iv (wr (1 + v1.1)), iv (wr (1 + v2.1)), (sl x1l)], box b1 [iv 0, iv 0, (sl hn)], ownF (sl x1l) s1.2.2]) ?_ ?_))))))))))))))))))))))))))))))))
 refine wcO t2 R (fun h1 t2 => ?_) fun h1 t2 => ?_
 refine wcg (mv R R (wlq (po_rem R R (by decide)) R ?_))
 refine mv R R (gdO t2 fun g2 t2 => (wlq (po_rem R R g2) R (mv R R (wlq (po_rem R R (by decide)) R ?_))))
 exact wlq (po_build R (bd_40_0_1 ((((k1 : Nat) : Int).tmod 2).tmod a_n) (((k1 : Nat) : Int).tmod 2))) R (wls (sbx (cs' := [iv ((((k1 : Nat) : Int).tmod 2).tmod a_n), iv (((k1 : Nat) : Int).tmod 2)]) tk_40 pz R R R R R R R) (wln (wjm _ () (mtE t2) (su7 R R R R R R R) so5)))
 exact wck (wjm _ () (mtE t2) (su7 R R R R R R R) so5)
 intro j1 _ hp
 obtain rfl : j1 = y2 := hp.symm
 refine wqt (wcg (wlq (pof fo_26_2 R) R (wlq (v := (sl x1l)) (plx tk_24 pk2 R R) R (wlq (v := .agg #[iv ((j1).Block), iv ((j1).Seen)]) (plb tk_40 pz R R R) R (wle (ebs R (sb_24_1 ((j1).Block) ((j1).Seen))) R fun b4 => (gdO t1 fun g3 t1 => (wle (eo_append (xs := s1.2.2) (ys := ([(j1)] : List GSpot)) ak_24 pk5 R R (slin_rd fun _ g => Rg.on (rgo (pbo pz (n := 1) (xs := ([(j1)] : List GSpot)) R R (by unfold maxLen; omega))) g) g3) R fun x3 => ?_)))))))
 refine wlq (pof fo_26_2 R) R (wls (sbx (cs' := [iv (wr (1 + v1.1)), iv (wr (1 + v2.1)), (sl x3)]) tk_24 pk4 R R R R R R R) (wln (wqb (wqt (wcg (mv R R (wlq (po_inc R R (by omega)) R ?_)))))))
 exact asg R R (wln (wq_rnd hk1 (stpN l1 t1) x3 (su6 R R R R R R) (zc pk4 (zc pz (zc pk3 so1)))))
 have c1 : (decide (((k1 : Nat) : Int) < (wr ((wr (1 + v1.1)) * (wr (1 + v2.1)))))) = false := ddf (by omega)
 have en1 := foe l1 hk1
 exact wcs (wcr (mv R R (wlq (pof fo_26_0 R) R (wlq (v := iv (wr (1 + v1.1))) (plx tk_3 pk1 R R) R (wlq (pof fo_26_1 R) R (wlq (v := iv (wr (1 + v2.1))) (plx tk_3 pk1 R R) R (wlq (po_mul R R) R (wlq (pls R R) R (wnt (wff R c1 (wcx (wqe (wqe (wbx (wjm _ x1l (Sum.inl.inj en1) (su2 R R) so4)))))))))))))))
 intro e1 x1 hp
 obtain rfl : e1 = y1 := hp.symm
 refine wqt (wcr (wlq (v := .agg #[iv (wr (1 + v1.1)), iv (wr (1 + v2.1)), (sl x1)]) (plb tk_26 pk1 R R R) R (wls (sbx (cs' := [iv (wr (1 + v1.1)), iv (wr (1 + v2.1)), (sl x1)]) tk_26 pk2 R R R R R R R) (wnt (wct ?_)))))
 obtain rfl := oi t0
 exact wqc R tk_26 R pz R fun w hw => ⟨x1, R, hw.weak (zc pk3 (zc pk1 zn))⟩

theorem c_spec_DrawQuilt (w : World) (a_code : List UInt8) (v0a : Hd) (r0 : rdF w (dm w []) (sl v0a) a_code) {r : GQuilt × (List GBlock)} (t0 : spec_DrawQuilt a_code = some r) : Calls Try.prog 5 #[(sl v0a)] w fun e w' => ∃ x : Hd × Hd × (List Value), e = .returned (.tuple #[.agg #[.int .i64 r.1.Width, .int .i64 r.1.Height, (sl x.1)], (sl x.2.1)]) ∧ SH w [] [ownF (sl x.1) r.1.Spots, own (sl x.2.1) x.2.2 r.2] w' := by
 refine cwc (args := [_]) Try.func5 R Try.ntmps5 R ?_
 unfold spec_DrawQuilt at t0
 refine wcr (wle (eal (cs := [iv 0, iv 0, (sl hn)]) za_26) R fun b1 => (asg R R (wnt (wcr (mv R R (bdO t0 fun v1 hv1 t0 => (wlc (cz1 fa_14 R fun w hw => c_spec_l01New w a_code v0a (ra r0 hw) hv1) R fun x1 => (asg R R (wnt (wcr (mv R R (bdO t0 fun v2 hv2 t0 => (wlc (co_o2 [box x1 [(sl v0a), iv v1.1, iv v1.2]] fa_15 (zc pz some_refl) R fun w fp hw => c_spec_l17Blocks w fp x1 a_code v0a ((rdo_arg r0) w fp hw) v1.1 v1.2 hw.ow hv2) R fun x2 => (asg R R (wnt (wcr (mv R R (mv R R (wlq (pln (rgo pz) el_27 R) R (bdO t0 fun v3 hv3 t0 => (wlc (co_o2 [box x1 [(sl v0a), iv v2.2.1, iv v2.2.2]] fa_16 (zc pk1 some_refl) R fun w fp hw => c_spec_l17Quilt w fp x1 a_code v0a ((rdo_arg r0) w fp hw) v2.2.1 v2.2.2 ((v2.1.length : Nat) : Int) hw.ow hv3) R fun x3 => (mv R R (wls (sbx (cs' := [iv v3.1.Width, iv v3.1.Height, (sl x3)]) tk_26 pk3 R R R R R R R) (asg R R (wnt (wct ?_))))))))))))))))))))))))))
 obtain rfl := oi t0
 exact wq_retc1 R tk_26 R R pz R fun w hw => ⟨(x3, x2.1, x2.2), R, hw.weak (zc pk1 (zc pk2 zn))⟩

theorem c_impl_within (w : World) (a_n : Int) (a_a : Int) (a_b : Int) {r : Bool} (t0 : impl_within a_n a_a a_b = some r) : Calls Try.prog 31 #[.int .i64 a_n, .int .i64 a_a, .int .i64 a_b] w fun e w' => e = .returned (.bool r) ∧ SH w [] [] w' := by
 refine cwc (args := [_, _, _]) Try.func31 R Try.ntmps31 R ?_
 unfold impl_within at t0
 refine wcr (asg R R (wnt (wcs (wcj (X := Unit) (fun _ => True) (fun _ => [(6, .bool ((decide (a_n ≥ a_a)) && (decide (a_n ≤ a_b))))]) (fun _ => []) ?_ ?_))))
 refine wcg (mv R R (mv R R (wlq (po_geq R R) R (mv R R (wl_fork (t := 10) R (fun h1 => ?_) fun h1 => ?_)))))
 exact wgn (j := 3) R R R (mv R R (wgn (j := 3) R R R (mv R R (wgn (j := 3) R R R (wlq (po_leq R R) R (wlq (pit R R) R (asg R R (wln (wqm () trivial (sub_b R (by rw [h1]; rfl) yn) zn)))))))))
 exact wgf (j := 3) R R R R R (wgf (j := 3) R R R R R (wgf (j := 3) R R R R R (wlq (pif R R) R (asg R R (wln (wqm () trivial (sub_b R (by rw [h1]; rfl) yn) zn))))))
 intro _ _
 refine wqt (wct ?_)
 obtain rfl := oi t0
 exact wq1 R R fun w hw => ⟨R, hw.weak zn⟩

theorem c_impl_isQuilt (w : World) (a_q : GQuilt) (v0a : Hd) (r0 : rdF w (dm w []) (sl v0a) a_q.Spots) (a_most : Int) {r : Bool} (t0 : impl_isQuilt a_q a_most = some r) : Calls Try.prog 30 #[.agg #[.int .i64 a_q.Width, .int .i64 a_q.Height, (sl v0a)], .int .i64 a_most] w fun e w' => e = .returned (.bool r) ∧ SH w [] [] w' := by
 refine cwc (args := [_, _]) Try.func30 R Try.ntmps30 R ?_
 unfold impl_isQuilt at t0
 refine wcr (wle (eo_box R R) R fun b1 => (asg R R (wnt (wcs (wcs (bdO t0 fun y1 t1 t0 => (wj (J := Bool) (X := Unit) (fun z => y1 = z) (fun z _ => [(1, iv a_most), (2, ptr b1 0), (27, .bool z)]) (fun _ _ => [box b1 [iv a_q.Width, iv a_q.Height, (sl v0a)]]) ?_ ?_)))))))
 refine wcg (wlq (pof fo_26_0 R) R (wlq (v := iv a_q.Width) (plx tk_3 pz R R) R (bdO t1 fun v1 hv1 t1 => (wlc (cz0 fa_31 R fun w hw => c_impl_within w a_q.Width 1 6 hv1) R fun _ => (wlq (po_not R) R (mv R R (wlo (t := 11) t1 R (fun h1 t1 => ?_) fun h1 t1 => ?_)))))))
 exact wgf (j := 4) R R R R R (wgf (j := 4) R R R R R (wgf (j := 4) R R R R R (wgf (j := 4) R R R R R (wlq (pit R R) R (mv R R (wgf (j := 10) R R R R R (wgf (j := 10) R R R R R (wgf (j := 10) R R R R R (wgf (j := 10) R R R R R (wgf (j := 10) R R R R R (wgf (j := 10) R R R R R (wgf (j := 10) R R R R R (wgf (j := 10) R R R R R (wgf (j := 10) R R R R R (wlq (pit R R) R (wln (wjm _ () (mtE t1) (su3 R R R) so1)))))))))))))))))
 refine wgn (j := 4) R R R (wlq (pof fo_26_1 R) R (wgn (j := 4) R R R (wlq (v := iv a_q.Height) (plx tk_3 pz R R) R (bdO t1 fun v2 hv2 t1 => (wgn (j := 4) R R R (wlc (cz0 fa_31 R fun w hw => c_impl_within w a_q.Height 1 6 hv2) R (fun _ => (wgn (j := 4) R R R (wlq (po_not R) R (wlq (pif R R) R (mv R R (wlo (t := 17) t1 R (fun h2 t1 => ?_) fun h2 t1 => ?_))))))))))))
 exact wgf (j := 10) R R R R R (wgf (j := 10) R R R R R (wgf (j := 10) R R R R R (wgf (j := 10) R R R R R (wgf (j := 10) R R R R R (wgf (j := 10) R R R R R (wgf (j := 10) R R R R R (wgf (j := 10) R R R R R (wgf (j := 10) R R R R R (wlq (pit R R) R (wln (wjm _ () (mtE t1) (su3 R R R) so1)))))))))))
 exact wgn (j := 10) R R R (wlq (pof fo_26_2 R) R (wgn (j := 10) R R R (wlq (v := (sl v0a)) (plx tk_24 pz R R) R (wgn (j := 10) R R R (wlq (pln (rga r0) el_24 R) R (wgn (j := 10) R R R (wlq (pof fo_26_0 R) R (wgn (j := 10) R R R (wlq (v := iv a_q.Width) (plx tk_3 pz R R) R (wgn (j := 10) R R R (wlq (pof fo_26_1 R) R (wgn (j := 10) R R R (wlq (v := iv a_q.Height) (plx tk_3 pz R R) R (wgn (j := 10) R R R (wlq (po_mul R R) R (wgn (j := 10) R R R (wlq (po_neq R R) R (wlq (pif R R) R (wln (wjm _ () (mtE t1) (su3 R R R) so1))))))))))))))))))))
 intro j1 _ hp
 obtain rfl : j1 = y1 := hp.symm
 refine wqt (wcO t0 R (fun h3 t0 => ?_) fun h3 t0 => ?_)
 refine wcr (asg R R (wnt (wct (wqr ?_))))
 obtain rfl := oi t0
 exact wq1 R R fun w hw => ⟨R, hw.weak zn⟩
 refine wck (wqt (wcs (wcr (wlq (pof fo_26_2 R) R (wlq (v := (sl v0a)) (plx tk_24 pz R R) R (wlq (pln (rga r0) el_24 R) R (mv R R (wnt (gdO t0 fun g1 t0 => (sqO t0 fun y1 l1 t0 => (wj (J := Unit) (X := Unit) (fun z => y1 = .inl z) (fun _ _ => []) (fun _ _ => []) ?_ ?_)))))))))))
 refine wcb (wcf (X := Unit) l1 (fun k1 s1 x1l => [(1, iv a_most), (29, (sl v0a)), (30, iv ((a_q.Spots.length : Nat) : Int)), (31, iv ((k1 : Nat) : Int))]) (fun k1 s1 x1l => []) () (su4 R R R R) zn fun k1 s1 x1l hN1 l1 => ?_)
 by_cases hk1 : k1 < a_q.Spots.length
 refine fos l1 hk1 fun _ t1 l1 => ?_
 unfold impl_isQuilt_L1 at t1
 have c1 : (decide (((k1 : Nat) : Int) < ((a_q.Spots.length : Nat) : Int))) = true := ddt (by omega)
 refine wcr (wlq (pls R R) R (wnt (wcs (wft R c1 (wck (wqt (wcs (wcb (wcr (wlq (po_ixn (k := k1) (rga r0) el_24 R R hk1) R (wlq (v := .agg #[iv ((gx a_q.Spots k1).Block), iv ((gx a_q.Spots k1).Seen)]) (po_ldfs (rga r0) tk_40 R hk1 R R R) R (wle (eal (cs := [iv 0, iv 0]) za_40) R fun b2 => (wls (sbx (cs' := [iv ((gx a_q.Spots k1).Block), iv ((gx a_q.Spots k1).Seen)]) tk_40 pz R R R R R R R) (wnt (wcs (bdO t1 fun y2 t2 t1 => (wj (J := Bool) (X := Unit) (fun z => y2 = z) (fun z _ => [(1, iv a_most), (29, (sl v0a)), (30, iv ((a_q.Spots.length : Nat) : Int)), (31, iv ((k1 : Nat) : Int)), (45, .bool z)]) (fun _ _ => []) ?_ ?_)))))))))))))))))
 refine wcg (wlq (pof fo_40_0 R) R (wlq (v := iv ((gx a_q.Spots k1).Block)) (plx tk_3 pz R R) R (mv R R (bdO t2 fun v3 hv3 t2 => (wlc (cz0 fa_31 R fun w hw => c_impl_within w ((gx a_q.Spots k1).Block) 0 a_most hv3) R fun _ => (wlq (po_not R) R (mv R R (wlo (t := 40) t2 R (fun h4 t2 => ?_) fun h4 t2 => ?_))))))))
 exact wgf (j := 5) R R R R R (wgf (j := 5) R R R R R (wgf (j := 5) R R R R R (wgf (j := 5) R R R R R (wlq (pit R R) R (wln (wjm _ () (mtE t2) (su5 R R R R R) zn))))))
 exact wgn (j := 5) R R R (wlq (pof fo_40_1 R) R (wgn (j := 5) R R R (wlq (v := iv ((gx a_q.Spots k1).Seen)) (plx tk_3 pz R R) R (bdO t2 fun v4 hv4 t2 => (wgn (j := 5) R R R (wlc (cz0 fa_31 R fun w hw => c_impl_within w ((gx a_q.Spots k1).Seen) 0 7 hv4) R (fun _ => (wgn (j := 5) R R R (wlq (po_not R) R (wlq (pif R R) R (wln (wjm _ () (mtE t2) (su5 R R R R R) zn))))))))))))
 intro j2 _ hp
 obtain rfl : j2 = y2 := hp.symm
 refine wqt (wcO t1 R (fun h5 t1 => ?_) fun h5 t1 => ?_)
 refine wcr (asg R R (wnt (wct (wbr (wqr (wqr (wbr (wqr (wqr ?_)))))))))
 replace t0 := lpR t0 l1 t1
 obtain rfl := oi t0
 exact wq1 R R fun w hw => ⟨R, hw.weak zn⟩
 refine wck (wqb (wqt (wcg (wlq (po_inc R R (by omega)) R ?_))))
 exact mv R R (wln (wq_rnd hk1 (stpN l1 t1) () (su4 R R R R) zn))
 have c1 : (decide (((k1 : Nat) : Int) < ((a_q.Spots.length : Nat) : Int))) = false := ddf (by omega)
 have en1 := foe l1 hk1
 exact wcr (wlq (pls R R) R (wnt (wcs (wff R c1 (wcx (wqe (wqe (wbx (wjm _ () en1 yn zn)))))))))
 intro e1 _ hp
 replace t0 := sqE (j := e1) t0 hp
 refine wqt (wcr (asg R R (wnt (wct ?_))))
 obtain rfl := oi t0
 exact wq1 R R fun w hw => ⟨R, hw.weak zn⟩

theorem c_impl_isColor (w : World) (a_a : Int) {r : Bool} (t0 : impl_isColor a_a = some r) : Calls Try.prog 48 #[.int .i64 a_a] w fun e w' => e = .returned (.bool r) ∧ SH w [] [] w' := by
 refine cwc (args := [_]) Try.func48 R Try.ntmps48 R ?_
 unfold impl_isColor at t0
 refine wcr (asg R R (wnt (wcr (mv R R (bdO t0 fun v1 hv1 t0 => (wlc (cz0 fa_31 R fun w hw => c_impl_within w a_a 0 5 hv1) R fun _ => (asg R R (wnt (wct ?_)))))))))
 obtain rfl := oi t0
 exact wq1 R R fun w hw => ⟨R, hw.weak zn⟩

theorem c_impl_CellOk (w : World) (a_c : GCell) {r : Bool} (t0 : impl_CellOk a_c = some r) : Calls Try.prog 40 #[.agg #[.int .i64 a_c.Split, .int .i64 a_c.A, .int .i64 a_c.B]] w fun e w' => e = .returned (.bool r) ∧ SH w [] [] w' := by
 refine cwc (args := [_]) Try.func40 R Try.ntmps40 R ?_
 unfold impl_CellOk at t0
 refine wcr (wle (eo_box R R) R fun b1 => (asg R R (wnt (wcs (bdO t0 fun y1 t1 t0 => (wj (J := Bool) (X := Unit) (fun z => y1 = z) (fun z _ => [(2, .bool z)]) (fun _ _ => []) ?_ ?_))))))
 refine wcg (wlq (pof fo_57_0 R) R (wlq (v := iv a_c.Split) (plx tk_3 pz R R) R (bdO t1 fun v1 hv1 t1 => (wlc (cz0 fa_31 R fun w hw => c_impl_within w a_c.Split 0 2 hv1) R fun _ => (mv R R (wlo (t := 6) t1 R (fun h1 t1 => ?_) fun h1 t1 => ?_))))))
 refine wgn (j := 3) R R R (wlq (pof fo_57_1 R) R (wgn (j := 3) R R R (wlq (v := iv a_c.A) (plx tk_3 pz R R) R (bdO t1 fun v2 hv2 t1 => (wgn (j := 3) R R R (wlc (cz0 fa_48 R fun w hw => c_impl_isColor w a_c.A hv2) R (fun _ => (wlq (pit R R) R (mv R R (wlo (t := 11) t1 R (fun h2 t1 => ?_) fun h2 t1 => ?_))))))))))
 refine wgn (j := 8) R R R (wlq (pof fo_57_2 R) R (wgn (j := 8) R R R (wlq (v := iv a_c.B) (plx tk_3 pz R R) R (bdO t1 fun v3 hv3 t1 => (wgn (j := 8) R R R (wlc (cz0 fa_48 R fun w hw => c_impl_isColor w a_c.B hv3) R (fun _ => (wlq (pit R R) R (mv R R (wlo (t := 16) t1 R (fun h3 t1 => ?_) fun h3 t1 => ?_))))))))))
 exact wgn (j := 13) R R R (wlq (pof fo_57_0 R) R (wgn (j := 13) R R R (wlq (v := iv a_c.Split) (plx tk_3 pz R R) R (wgn (j := 13) R R R (wlq (pol R R) R (wgn (j := 13) R R R (wlq (pof fo_57_1 R) R (wgn (j := 13) R R R (wlq (v := iv a_c.A) (plx tk_3 pz R R) R (wgn (j := 13) R R R (wlq (pof fo_57_2 R) R (wgn (j := 13) R R R (wlq (v := iv a_c.B) (plx tk_3 pz R R) R (wgn (j := 13) R R R (wlq (pol R R) R (wgn (j := 13) R R R (wlq (po_eql_bool ub_4 R R) R (wlq (pit R R) R (asg R R (wln (wjm _ () (mtE t1) (su1 R) zn)))))))))))))))))))))
 exact wgf (j := 13) R R R R R (wgf (j := 13) R R R R R (wgf (j := 13) R R R R R (wgf (j := 13) R R R R R (wgf (j := 13) R R R R R (wgf (j := 13) R R R R R (wgf (j := 13) R R R R R (wgf (j := 13) R R R R R (wgf (j := 13) R R R R R (wlq (pif R R) R (asg R R (wln (wjm _ () (mtE t1) (su1 R) zn))))))))))))
 exact wgf (j := 8) R R R R R (wgf (j := 8) R R R R R (wgf (j := 8) R R R R R (wlq (pif R R) R (mv R R (wgf (j := 13) R R R R R (wgf (j := 13) R R R R R (wgf (j := 13) R R R R R (wgf (j := 13) R R R R R (wgf (j := 13) R R R R R (wgf (j := 13) R R R R R (wgf (j := 13) R R R R R (wgf (j := 13) R R R R R (wgf (j := 13) R R R R R (wlq (pif R R) R (asg R R (wln (wjm _ () (mtE t1) (su1 R) zn)))))))))))))))))
 exact wgf (j := 3) R R R R R (wgf (j := 3) R R R R R (wgf (j := 3) R R R R R (wlq (pif R R) R (mv R R (wgf (j := 8) R R R R R (wgf (j := 8) R R R R R (wgf (j := 8) R R R R R (wlq (pif R R) R (mv R R (wgf (j := 13) R R R R R (wgf (j := 13) R R R R R (wgf (j := 13) R R R R R (wgf (j := 13) R R R R R (wgf (j := 13) R R R R R (wgf (j := 13) R R R R R (wgf (j := 13) R R R R R (wgf (j := 13) R R R R R (wgf (j := 13) R R R R R (wlq (pif R R) R (asg R R (wln (wjm _ () (mtE t1) (su1 R) zn))))))))))))))))))))))
 intro j1 _ hp
 obtain rfl : j1 = y1 := hp.symm
 refine wqt (wct ?_)
 obtain rfl := oi t0
 exact wq1 R R fun w hw => ⟨R, hw.weak zn⟩

theorem c_impl_BlockOk (w : World) (a_b : GBlock) (v0a : Hd) (r0 : rdF w (dm w []) (sl v0a) a_b.Cells) {r : Bool} (t0 : impl_BlockOk a_b = some r) : Calls Try.prog 32 #[.agg #[.int .i64 a_b.Size, (sl v0a)]] w fun e w' => e = .returned (.bool r) ∧ SH w [] [] w' := by
 refine cwc (args := [_]) Try.func32 R Try.ntmps32 R ?_
 unfold impl_BlockOk at t0
 refine wcr (wle (eo_box R R) R fun b1 => (asg R R (wnt (wcs (wcs (bdO t0 fun y1 t1 t0 => (wj (J := Bool) (X := Unit) (fun z => y1 = z) (fun z _ => [(1, ptr b1 0), (19, .bool z)]) (fun _ _ => [box b1 [iv a_b.Size, (sl v0a)]]) ?_ ?_)))))))
 refine wcg (wlq (pof fo_44_0 R) R (wlq (v := iv a_b.Size) (plx tk_3 pz R R) R (bdO t1 fun v1 hv1 t1 => (wlc (cz0 fa_31 R fun w hw => c_impl_within w a_b.Size 1 4 hv1) R fun _ => (wlq (po_not R) R (mv R R (wlo (t := 9) t1 R (fun h1 t1 => ?_) fun h1 t1 => ?_)))))))
 exact wgf (j := 4) R R R R R (wgf (j := 4) R R R R R (wgf (j := 4) R R R R R (wgf (j := 4) R R R R R (wgf (j := 4) R R R R R (wgf (j := 4) R R R R R (wgf (j := 4) R R R R R (wgf (j := 4) R R R R R (wgf (j := 4) R R R R R (wlq (pit R R) R (wln (wjm _ () (mtE t1) (su2 R R) so1)))))))))))
 exact wgn (j := 4) R R R (wlq (pof fo_44_1 R) R (wgn (j := 4) R R R (wlq (v := (sl v0a)) (plx tk_42 pz R R) R (wgn (j := 4) R R R (wlq (pln (rga r0) el_42 R) R (wgn (j := 4) R R R (wlq (pof fo_44_0 R) R (wgn (j := 4) R R R (wlq (v := iv a_b.Size) (plx tk_3 pz R R) R (wgn (j := 4) R R R (wlq (pof fo_44_0 R) R (wgn (j := 4) R R R (wlq (v := iv a_b.Size) (plx tk_3 pz R R) R (wgn (j := 4) R R R (wlq (po_mul R R) R (wgn (j := 4) R R R (wlq (po_neq R R) R (wlq (pif R R) R (wln (wjm _ () (mtE t1) (su2 R R) so1))))))))))))))))))))
 intro j1 _ hp
 obtain rfl : j1 = y1 := hp.symm
 refine wqt (wcO t0 R (fun h2 t0 => ?_) fun h2 t0 => ?_)
 refine wcr (asg R R (wnt (wct (wqr ?_))))
 obtain rfl := oi t0
 exact wq1 R R fun w hw => ⟨R, hw.weak zn⟩
 refine wck (wqt (wcs (wcr (wlq (pof fo_44_1 R) R (wlq (v := (sl v0a)) (plx tk_42 pz R R) R (wlq (pln (rga r0) el_42 R) R (mv R R (wnt (gdO t0 fun g1 t0 => (sqO t0 fun y1 l1 t0 => (wj (J := Unit) (X := Unit) (fun z => y1 = .inl z) (fun _ _ => []) (fun _ _ => []) ?_ ?_)))))))))))
 refine wcb (wcf (X := Unit) l1 (fun k1 s1 x1l => [(21, (sl v0a)), (22, iv ((a_b.Cells.length : Nat) : Int)), (23, iv ((k1 : Nat) : Int))]) (fun k1 s1 x1l => []) () (su3 R R R) zn fun k1 s1 x1l hN1 l1 => ?_)
 by_cases hk1 : k1 < a_b.Cells.length
 refine fos l1 hk1 fun _ t1 l1 => ?_
 unfold impl_BlockOk_L1 at t1
 have c1 : (decide (((k1 : Nat) : Int) < ((a_b.Cells.length : Nat) : Int))) = true := ddt (by omega)
 refine wcr (wlq (pls R R) R (wnt (wcs (wft R c1 (wck (wqt (wcs (wcb (wcr (wlq (po_ixn (k := k1) (rga r0) el_42 R R hk1) R (wlq (v := .agg #[iv ((gx a_b.Cells k1).Split), iv ((gx a_b.Cells k1).A), iv ((gx a_b.Cells k1).B)]) (po_ldfs (rga r0) tk_57 R hk1 R R R) R (wle (eal (cs := [iv 0, iv 0, iv 0]) za_57) R fun b2 => (wls (sbx (cs' := [iv ((gx a_b.Cells k1).Split), iv ((gx a_b.Cells k1).A), iv ((gx a_b.Cells k1).B)]) tk_57 pz R R R R R R R) (wnt (wcr (wlq (v := .agg #[iv ((gx a_b.Cells k1).Split), iv ((gx a_b.Cells k1).A), iv ((gx a_b.Cells k1).B)]) (plb tk_57 pz R R R) R (bdO t1 fun v2 hv2 t1 => (wlc (cz0 fa_40 R fun w hw => c_impl_CellOk w (gx a_b.Cells k1) hv2) R fun _ => (wlq (po_not R) R (wnt (wcO t1 R (fun h3 t1 => ?_) fun h3 t1 => ?_)))))))))))))))))))))
 refine wcr (asg R R (wnt (wct (wbr (wqr (wqr (wbr (wqr (wqr ?_)))))))))
 replace t0 := lpR t0 l1 t1
 obtain rfl := oi t0
 exact wq1 R R fun w hw => ⟨R, hw.weak zn⟩
 refine wck (wqb (wqt (wcg (wlq (po_inc R R (by omega)) R ?_))))
 exact mv R R (wln (wq_rnd hk1 (stpN l1 t1) () (su3 R R R) zn))
 have c1 : (decide (((k1 : Nat) : Int) < ((a_b.Cells.length : Nat) : Int))) = false := ddf (by omega)
 have en1 := foe l1 hk1
 exact wcr (wlq (pls R R) R (wnt (wcs (wff R c1 (wcx (wqe (wqe (wbx (wjm _ () en1 yn zn)))))))))
 intro e1 _ hp
 replace t0 := sqE (j := e1) t0 hp
 refine wqt (wcr (asg R R (wnt (wct ?_))))
 obtain rfl := oi t0
 exact wq1 R R fun w hw => ⟨R, hw.weak zn⟩

theorem c_impl_QuiltOk (w : World) (a_q : GQuilt) (v0a : Hd) (r0 : rdF w (dm w []) (sl v0a) a_q.Spots) (a_blocks : List GBlock) (v1a : Hd) (u1a : List Value) (r1 : RdL w (dm w []) (sl v1a) u1a a_blocks) {r : Bool} (t0 : impl_QuiltOk a_q a_blocks = some r) : Calls Try.prog 17 #[.agg #[.int .i64 a_q.Width, .int .i64 a_q.Height, (sl v0a)], (sl v1a)] w fun e w' => e = .returned (.bool r) ∧ SH w [] [] w' := by
 refine cwc (args := [_, _]) Try.func17 R Try.ntmps17 R ?_
 unfold impl_QuiltOk at t0
 refine wcr (wle (eo_box R R) R fun b1 => (asg R R (wnt (wcs (wcs (bdO t0 fun y1 t1 t0 => (wj (J := Bool) (X := Unit) (fun z => y1 = z) (fun z _ => [(1, (sl v1a)), (18, .bool z)]) (fun _ _ => []) ?_ ?_)))))))
 refine wcg (wlq (v := .agg #[iv a_q.Width, iv a_q.Height, (sl v0a)]) (plb tk_26 pz R R R) R (mv R R (wlq (pln (rga r1) el_27 R) R (wlq (po_sub R R) R (bdO t1 fun v1 hv1 t1 => (wlc (cz0 fa_30 R fun w hw => c_impl_isQuilt w a_q v0a (ra r0 hw) (wr (((a_blocks.length : Nat) : Int) - 1)) hv1) R fun _ => (wlq (po_not R) R (mv R R (wlo (t := 13) t1 R (fun h1 t1 => ?_) fun h1 t1 => ?_)))))))))
 exact wgf (j := 6) R R R R R (wgf (j := 6) R R R R R (wgf (j := 6) R R R R R (wgf (j := 6) R R R R R (wlq (pit R R) R (wln (wjm _ () (mtE t1) (su2 R R) zn))))))
 exact wgn (j := 6) R R R (mv R R (wgn (j := 6) R R R (wlq (pln (rga r1) el_27 R) R (bdO t1 fun v2 hv2 t1 => (wgn (j := 6) R R R (wlc (cz0 fa_31 R fun w hw => c_impl_within w ((a_blocks.length : Nat) : Int) 1 6 hv2) R (fun _ => (wgn (j := 6) R R R (wlq (po_not R) R (wlq (pif R R) R (wln (wjm _ () (mtE t1) (su2 R R) zn))))))))))))
 intro j1 _ hp
 obtain rfl : j1 = y1 := hp.symm
 refine wqt (wcO t0 R (fun h2 t0 => ?_) fun h2 t0 => ?_)
 refine wcr (asg R R (wnt (wct (wqr ?_))))
 obtain rfl := oi t0
 exact wq1 R R fun w hw => ⟨R, hw.weak zn⟩
 refine wck (wqt (wcs (wcr (mv R R (wlq (pln (rga r1) el_27 R) R (mv R R (wnt (gdO t0 fun g1 t0 => (sqO t0 fun y1 l1 t0 => (wj (J := Unit) (X := Unit) (fun z => y1 = .inl z) (fun _ _ => []) (fun _ _ => []) ?_ ?_))))))))))
 refine wcb (wcf (X := Unit) l1 (fun k1 s1 x1l => [(1, (sl v1a)), (19, (sl v1a)), (20, iv ((a_blocks.length : Nat) : Int)), (21, iv ((k1 : Nat) : Int))]) (fun k1 s1 x1l => []) () (su4 R R R R) zn fun k1 s1 x1l hN1 l1 => ?_)
 by_cases hk1 : k1 < a_blocks.length
 refine fos l1 hk1 fun _ t1 l1 => ?_
 unfold impl_QuiltOk_L1 at t1
 have c1 : (decide (((k1 : Nat) : Int) < ((a_blocks.length : Nat) : Int))) = true := ddt (by omega)
 refine wcr (wlq (pls R R) R (wnt (wcs (wft R c1 (wck (wqt (wcs (wcb (wcr (wlq (po_ixn (k := k1) (rga r1) el_27 R R hk1) R (wl_elem (rga r1) hk1 ?_)))))))))))
 rintro ⟨_, _, he1⟩
 obtain ⟨w1, hc1, _⟩ := rd_GBlock.1 he1
 refine wlq (v := .agg #[iv ((gx a_blocks k1).Size), (sl w1)]) (po_ldns (rga r1) tk_44 R hc1 R R R) R (wle (eal (cs := [iv 0, (sl hn)]) za_44) R fun b2 => (wls (sbx (cs' := [iv ((gx a_blocks k1).Size), (sl w1)]) tk_44 pz R R R R R R R) (wnt (wcs (bdO t1 fun y2 t2 t1 => (wj (J := Bool) (X := Unit) (fun z => y2 = z) (fun z _ => [(1, (sl v1a)), (19, (sl v1a)), (20, iv ((a_blocks.length : Nat) : Int)), (21, iv ((k1 : Nat) : Int)), (36, .bool z)]) (fun _ _ => []) ?_ ?_))))))
 refine wcd [box b2 [iv ((gx a_blocks k1).Size), (sl w1)]] 12 mixed (aq (v := .agg #[iv ((gx a_blocks k1).Size), (sl w1)]) 0 R (plb tk_44 pz R R R) so1 R (a1 1 (bdO t2 fun v3 hv3 t2 => (wsc R (cz0 fa_32 R fun w hw => c_impl_BlockOk w (gx a_blocks k1) w1 (Rg.on (er_GBlock_0 hc1 (rga r1) hk1) hw) hv3) (fun _ => (zt so1)) R fun _ => (aq 2 R (po_not R) so1 R (aq 3 R (pom R) so1 R (waO_ (t := 28) t2 R (fun h3 t2 => ?_) fun h3 t2 => ?_)))))))
 exact af 4 3 R R R R R so1 R (af 5 3 R R R R R so1 R (af 6 3 R R R R R so1 R (af 7 3 R R R R R so1 R (af 8 3 R R R R R so1 R (af 9 3 R R R R R so1 R (af 10 3 R R R R R so1 R (aq 11 R (pit R R) so1 R (ae (wjm _ () (mtE t2) (su5 R R R R R) zn)))))))))
 refine an 4 3 R R R R (pof fo_44_0 R) so1 R (an (v := iv ((gx a_blocks k1).Size)) 5 3 R R R R (plx tk_3 pz R R) so1 R (an 6 3 R R R R (pom R) so1 R (gdO t2 fun g2 t2 => (an 7 3 R R R R (po_ixn (k := 0) (rga r1) el_27 R R g2) so1 R (an 8 3 R R R R (po_sfldr (rga r1) g2 fo_44_0 R) so1 R (wa_elem (rga r1) g2 ?_))))))
 rintro ⟨_, _, he2⟩
 obtain ⟨w2, hc2, _⟩ := rd_GBlock.1 he2
 exact an (v := iv ((gx a_blocks 0).Size)) 9 3 R R R R (po_ldn (rga r1) tk_3 R hc2 R) so1 R (an 10 3 R R R R (po_neq R R) so1 R (aq 11 R (pif R R) so1 R (ae (wjm _ () (mtE t2) (su5 R R R R R) zn))))
 intro j2 _ hp
 obtain rfl : j2 = y2 := hp.symm
 refine wqt (wcO t1 R (fun h4 t1 => ?_) fun h4 t1 => ?_)
 refine wcr (asg R R (wnt (wct (wbr (wqr (wqr (wbr (wqr (wqr ?_)))))))))
 replace t0 := lpR t0 l1 t1
 obtain rfl := oi t0
 exact wq1 R R fun w hw => ⟨R, hw.weak zn⟩
 refine wck (wqb (wqt (wcg (wlq (po_inc R R (by omega)) R ?_))))
 exact mv R R (wln (wq_rnd hk1 (stpN l1 t1) () (su4 R R R R) zn))
 have c1 : (decide (((k1 : Nat) : Int) < ((a_blocks.length : Nat) : Int))) = false := ddf (by omega)
 have en1 := foe l1 hk1
 exact wcr (wlq (pls R R) R (wnt (wcs (wff R c1 (wcx (wqe (wqe (wbx (wjm _ () en1 yn zn)))))))))
 intro e1 _ hp
 replace t0 := sqE (j := e1) t0 hp
 refine wqt (wcr (asg R R (wnt (wct ?_))))
 obtain rfl := oi t0
 exact wq1 R R fun w hw => ⟨R, hw.weak zn⟩

theorem c_impl_isShift (w : World) (a_q : GQuilt) (v0a : Hd) (_r0 : rdF w (dm w []) (sl v0a) a_q.Spots) (a_dx : Int) (a_dy : Int) {r : Bool} (t0 : impl_isShift a_q a_dx a_dy = some r) : Calls Try.prog 18 #[.agg #[.int .i64 a_q.Width, .int .i64 a_q.Height, (sl v0a)], .int .i64 a_dx, .int .i64 a_dy] w fun e w' => e = .returned (.bool r) ∧ SH w [] [] w' := by
 refine cwc (args := [_, _, _]) Try.func18 R Try.ntmps18 R ?_
 unfold impl_isShift at t0
 refine wcr (wle (eo_box R R) R fun b1 => (asg R R (wnt (wcs (bdO t0 fun y1 t1 t0 => (wj (J := Bool) (X := Unit) (fun z => y1 = z) (fun z _ => [(6, .bool z)]) (fun _ _ => []) ?_ ?_))))))
 refine wcg (mv R R (wlq (pof fo_26_0 R) R (wlq (v := iv a_q.Width) (plx tk_3 pz R R) R (wlq (po_sub R R) R (bdO t1 fun v1 hv1 t1 => (wlc (cz0 fa_31 R fun w hw => c_impl_within w a_dx 0 (wr (a_q.Width - 1)) hv1) R fun _ => (mv R R (wlo (t := 12) t1 R (fun h1 t1 => ?_) fun h1 t1 => ?_))))))))
 exact wgn (j := 5) R R R (mv R R (wgn (j := 5) R R R (wlq (pof fo_26_1 R) R (wgn (j := 5) R R R (wlq (v := iv a_q.Height) (plx tk_3 pz R R) R (wgn (j := 5) R R R (wlq (po_sub R R) R (bdO t1 fun v2 hv2 t1 => (wgn (j := 5) R R R (wlc (cz0 fa_31 R fun w hw => c_impl_within w a_dy 0 (wr (a_q.Height - 1)) hv2) R (fun _ => (wlq (pit R R) R (asg R R (wln (wjm _ () (mtE t1) (su1 R) zn)))))))))))))))
 exact wgf (j := 5) R R R R R (wgf (j := 5) R R R R R (wgf (j := 5) R R R R R (wgf (j := 5) R R R R R (wgf (j := 5) R R R R R (wlq (pif R R) R (asg R R (wln (wjm _ () (mtE t1) (su1 R) zn))))))))
 intro j1 _ hp
 obtain rfl : j1 = y1 := hp.symm
 refine wqt (wct ?_)
 obtain rfl := oi t0
 exact wq1 R R fun w hw => ⟨R, hw.weak zn⟩

theorem c_impl_Block_copied (w : World) (a_b : GBlock) (v0a : Hd) (r0 : rdF w (dm w []) (sl v0a) a_b.Cells) {r : GBlock} (t0 : impl_Block_copied a_b = some r) : Calls Try.prog 41 #[.agg #[.int .i64 a_b.Size, (sl v0a)]] w fun e w' => ∃ x : Hd, e = .returned (.agg #[.int .i64 r.Size, (sl x)]) ∧ SH w [] [ownF (sl x) r.Cells] w' := by
 refine cwc (args := [_]) Try.func41 R Try.ntmps41 R ?_
 unfold impl_Block_copied at t0
 refine wcr (wle (eo_box R R) R fun b1 => (wle (eal (cs := [iv 0, (sl hn)]) za_44) R fun b2 => (wnt (wcs (wcd [box b2 [iv 0, (sl hn)], box b1 [iv a_b.Size, (sl v0a)]] 7 mixed (aq 0 R (pof fo_44_0 R) so2 R (aq (v := iv a_b.Size) 1 R (plx tk_3 pk1 R R) so2 R (aq 3 R (pof fo_44_1 R) so2 R (aq (v := (sl v0a)) 4 R (plx tk_42 pk1 R R) so2 R (a1 2 (wse R (ebs R sb_42_0) (fun _ => (zt (zc pk1 (zc pk1 zn)))) R fun b3 => (a1 5 (gdO t0 fun g1 t0 => (wse R (eo_append (xs := ([] : List GCell)) (ys := a_b.Cells) ak_42 (pbo pz (n := 0) (xs := ([] : List GCell)) R R (by unfold maxLen; omega)) R R (slin_rd fun _ g => Rg.on (rga r0) g) g1) (fun _ => (zt (zc pk1 (zc pk1 zn)))) R fun x1 => ?_))))))))))))))
 refine aq 6 R (po_build R (bd_44_0_1 a_b.Size x1)) (zc pk1 (zc pk1 zn)) R (a1 7 (ws_skipop R (sbx (cs' := [iv a_b.Size, (sl x1)]) tk_44 pk1 R R R R R R R) (sts_past (by kernel_rfl)) ?_))
 refine ae (wqt (wct ?_))
 obtain rfl := oi t0
 exact wqc R tk_44 R pz R fun w hw => ⟨x1, R, hw.weak (zc pk1 zn)⟩

theorem c_impl_Block_isPlace (w : World) (a_b : GBlock) (v0a : Hd) (r0 : rdF w (dm w []) (sl v0a) a_b.Cells) (a_x : Int) (a_y : Int) {r : Bool} (t0 : impl_Block_isPlace a_b a_x a_y = some r) : Calls Try.prog 55 #[.agg #[.int .i64 a_b.Size, (sl v0a)], .int .i64 a_x, .int .i64 a_y] w fun e w' => e = .returned (.bool r) ∧ SH w [] [] w' := by
 refine cwc (args := [_, _, _]) Try.func55 R Try.ntmps55 R ?_
 unfold impl_Block_isPlace at t0
 refine wcr (wle (eo_box R R) R fun b1 => (asg R R (wnt (wcs (bdO t0 fun y1 t1 t0 => (wj (J := Bool) (X := Unit) (fun z => y1 = z) (fun z _ => [(6, .bool z)]) (fun _ _ => []) ?_ ?_))))))
 refine wcg (wlq (v := .agg #[iv a_b.Size, (sl v0a)]) (plb tk_44 pz R R R) R (bdO t1 fun v1 hv1 t1 => (wlc (cz0 fa_32 R fun w hw => c_impl_BlockOk w a_b v0a (ra r0 hw) hv1) R fun _ => (mv R R (wlo (t := 9) t1 R (fun h1 t1 => ?_) fun h1 t1 => ?_)))))
 refine wgn (j := 2) R R R (mv R R (wgn (j := 2) R R R (wlq (pof fo_44_0 R) R (wgn (j := 2) R R R (wlq (v := iv a_b.Size) (plx tk_3 pz R R) R (wgn (j := 2) R R R (wlq (po_sub R R) R (bdO t1 fun v2 hv2 t1 => (wgn (j := 2) R R R (wlc (cz0 fa_31 R fun w hw => c_impl_within w a_x 0 (wr (a_b.Size - 1)) hv2) R (fun _ => (wlq (pit R R) R (mv R R (wlo (t := 16) t1 R (fun h2 t1 => ?_) fun h2 t1 => ?_))))))))))))))
 exact wgn (j := 9) R R R (mv R R (wgn (j := 9) R R R (wlq (pof fo_44_0 R) R (wgn (j := 9) R R R (wlq (v := iv a_b.Size) (plx tk_3 pz R R) R (wgn (j := 9) R R R (wlq (po_sub R R) R (bdO t1 fun v3 hv3 t1 => (wgn (j := 9) R R R (wlc (cz0 fa_31 R fun w hw => c_impl_within w a_y 0 (wr (a_b.Size - 1)) hv3) R (fun _ => (wlq (pit R R) R (asg R R (wln (wjm _ () (mtE t1) (su1 R) zn)))))))))))))))
 exact wgf (j := 9) R R R R R (wgf (j := 9) R R R R R (wgf (j := 9) R R R R R (wgf (j := 9) R R R R R (wgf (j := 9) R R R R R (wlq (pif R R) R (asg R R (wln (wjm _ () (mtE t1) (su1 R) zn))))))))
 exact wgf (j := 2) R R R R R (wgf (j := 2) R R R R R (wgf (j := 2) R R R R R (wgf (j := 2) R R R R R (wgf (j := 2) R R R R R (wlq (pif R R) R (mv R R (wgf (j := 9) R R R R R (wgf (j := 9) R R R R R (wgf (j := 9) R R R R R (wgf (j := 9) R R R R R (wgf (j := 9) R R R R R (wlq (pif R R) R (asg R R (wln (wjm _ () (mtE t1) (su1 R) zn)))))))))))))))
 intro j1 _ hp
 obtain rfl : j1 = y1 := hp.symm
 refine wqt (wct ?_)
 obtain rfl := oi t0
 exact wq1 R R fun w hw => ⟨R, hw.weak zn⟩

theorem c_impl_CellAt (w : World) (a_b : GBlock) (v0a : Hd) (r0 : rdF w (dm w []) (sl v0a) a_b.Cells) (a_x : Int) (a_y : Int) {r : GCell} (t0 : impl_CellAt a_b a_x a_y = some r) : Calls Try.prog 52 #[.agg #[.int .i64 a_b.Size, (sl v0a)], .int .i64 a_x, .int .i64 a_y] w fun e w' => e = .returned (.agg #[.int .i64 r.Split, .int .i64 r.A, .int .i64 r.B]) ∧ SH w [] [] w' := by
 refine cwc (args := [_, _, _]) Try.func52 R Try.ntmps52 R ?_
 unfold impl_CellAt at t0
 refine wcr (wle (eo_box R R) R fun b1 => (wle (eal (cs := [iv 0, iv 0, iv 0]) za_57) R fun b2 => (wnt (wcs (wcr (wlq (v := .agg #[iv a_b.Size, (sl v0a)]) (plb tk_44 pk1 R R R) R (mv R R (mv R R (bdO t0 fun v1 hv1 t0 => (wlc (cz0 fa_55 R fun w hw => c_impl_Block_isPlace w a_b v0a (ra r0 hw) a_x a_y hv1) R fun _ => (wlq (po_not R) R (wnt (wcO t0 R (fun h1 t0 => ?_) fun h1 t0 => ?_)))))))))))))
 refine wcr (wlq (po_build R bd_57) R (wls (sbx (cs' := [iv 0, iv 0, iv 0]) tk_57 pz R R R R R R R) (wnt (wct (wqr ?_)))))
 obtain rfl := oi t0
 exact wqc R tk_57 R pz R fun w hw => ⟨R, hw.weak zn⟩
 refine wck (wqt (wcr (wlq (pof fo_44_1 R) R (wlq (v := (sl v0a)) (plx tk_42 pk1 R R) R (mv R R (wlq (pof fo_44_0 R) R (wlq (v := iv a_b.Size) (plx tk_3 pk1 R R) R (wlq (po_mul R R) R (mv R R (wlq (po_add R R) R (gdO t0 fun g1 t0 => (wlq (po_ixr (rga r0) el_42 R R g1.1 g1.2) R (wlq (v := .agg #[iv ((gx a_b.Cells (((wr ((wr (a_y * a_b.Size)) + a_x))).toNat)).Split), iv ((gx a_b.Cells (((wr ((wr (a_y * a_b.Size)) + a_x))).toNat)).A), iv ((gx a_b.Cells (((wr ((wr (a_y * a_b.Size)) + a_x))).toNat)).B)]) (po_ldfs (rga r0) tk_57 R (ix_lt g1) R R R) R (wls (sbx (cs' := [iv ((gx a_b.Cells (((wr ((wr (a_y * a_b.Size)) + a_x))).toNat)).Split), iv ((gx a_b.Cells (((wr ((wr (a_y * a_b.Size)) + a_x))).toNat)).A), iv ((gx a_b.Cells (((wr ((wr (a_y * a_b.Size)) + a_x))).toNat)).B)]) tk_57 pz R R R R R R R) (wnt (wct ?_))))))))))))))))
 obtain rfl := oi t0
 exact wqc R tk_57 R pz R fun w hw => ⟨R, hw.weak zn⟩

theorem c_impl_MirrorCell (w : World) (a_c : GCell) {r : GCell} (t0 : impl_MirrorCell a_c = some r) : Calls Try.prog 51 #[.agg #[.int .i64 a_c.Split, .int .i64 a_c.A, .int .i64 a_c.B]] w fun e w' => e = .returned (.agg #[.int .i64 r.Split, .int .i64 r.A, .int .i64 r.B]) ∧ SH w [] [] w' := by
 refine cwc (args := [_]) Try.func51 R Try.ntmps51 R ?_
 unfold impl_MirrorCell at t0
 refine wcr (wle (eo_box R R) R fun b1 => (wle (eal (cs := [iv 0, iv 0, iv 0]) za_57) R fun b2 => (wnt (wcs (wcb (wcr (wlq (v := .agg #[iv a_c.Split, iv a_c.A, iv a_c.B]) (plb tk_57 pk1 R R R) R (bdO t0 fun v1 hv1 t0 => (wlc (cz0 fa_40 R fun w hw => c_impl_CellOk w a_c hv1) R fun _ => (wlq (po_not R) R (asg R R (wnt (wcO t0 R (fun h1 t0 => ?_) fun h1 t0 => ?_)))))))))))))
 refine wcr (wlq (po_build R bd_57) R (wls (sbx (cs' := [iv 0, iv 0, iv 0]) tk_57 pz R R R R R R R) (wnt (wct (wbr (wqr ?_))))))
 obtain rfl := oi t0
 exact wqc R tk_57 R pz R fun w hw => ⟨R, hw.weak zn⟩
 refine wcr (wlq (pof fo_57_0 R) R (wlq (v := iv a_c.Split) (plx tk_3 pk1 R R) R (wlq (pol R R) R (asg R R (wnt (wcO t0 R (fun h2 t0 => ?_) fun h2 t0 => ?_))))))
 refine wcr (wlq (v := .agg #[iv a_c.Split, iv a_c.A, iv a_c.B]) (plb tk_57 pk1 R R R) R (wls (sbx (cs' := [iv a_c.Split, iv a_c.A, iv a_c.B]) tk_57 pz R R R R R R R) (wnt (wct (wbr (wqr ?_))))))
 obtain rfl := oi t0
 exact wqc R tk_57 R pz R fun w hw => ⟨R, hw.weak zn⟩
 refine wck (wqb (wqt (wcr (wlq (pof fo_57_0 R) R (wlq (v := iv a_c.Split) (plx tk_3 pk1 R R) R (wlq (po_sub R R) R (wlq (pof fo_57_2 R) R (wlq (v := iv a_c.B) (plx tk_3 pk1 R R) R (wlq (pof fo_57_1 R) R (wlq (v := iv a_c.A) (plx tk_3 pk1 R R) R (wlq (po_build R (bd_57_0_1_2 (wr (3 - a_c.Split)) a_c.B a_c.A)) R (wls (sbx (cs' := [iv (wr (3 - a_c.Split)), iv a_c.B, iv a_c.A]) tk_57 pz R R R R R R R) (wnt (wct ?_))))))))))))))
 obtain rfl := oi t0
 exact wqc R tk_57 R pz R fun w hw => ⟨R, hw.weak zn⟩

theorem c_impl_MirrorBlock_c1 (w : World) (a_x : Int) (a_y : Int) (c_p2 : GBlock) (v0a : Hd) (r0 : rdF w (dm w []) (sl v0a) c_p2.Cells) (b2c : Nat) (q2 : Bx w b2c [.int .i64 c_p2.Size, (sl v0a)]) {r : GCell} (t0 : impl_MirrorBlock_c1 a_x a_y c_p2 = some r) : Calls Try.prog 50 #[.int .i64 a_x, .int .i64 a_y, ptr b2c 0] w fun e w' => e = .returned (.agg #[.int .i64 r.Split, .int .i64 r.A, .int .i64 r.B]) ∧ SH w [] [] w' := by
 refine cwc (args := [_, _, _]) Try.func50 R Try.ntmps50 R ?_
 unfold impl_MirrorBlock_c1 at t0
 refine wcr (wle (eal (cs := [iv 0, iv 0, iv 0]) za_57) R fun b1 => (wnt (wcr (wlq (v := .agg #[iv c_p2.Size, (sl v0a)]) (po_load_aboxs q2 tk_44 R R R) R (wlq (pof fo_44_0 R) R (wlq (v := iv c_p2.Size) (po_load_abox q2 tk_3 R R) R (wlq (po_sub R R) R (mv R R (wlq (po_sub R R) R (mv R R (bdO t0 fun v1 hv1 t0 => (wlc (cz0 fa_52 R fun w hw => c_impl_CellAt w c_p2 v0a (ra r0 hw) (wr ((wr (c_p2.Size - 1)) - a_x)) a_y hv1) R fun _ => (bdO t0 fun v2 hv2 t0 => (wlc (cz0 fa_51 R fun w hw => c_impl_MirrorCell w v1 hv2) R fun _ => (wls (sbx (cs' := [iv v2.Split, iv v2.A, iv v2.B]) tk_57 pz R R R R R R R) (wnt (wct ?_)))))))))))))))))
 obtain rfl := oi t0
 exact wqc R tk_57 R pz R fun w hw => ⟨R, hw.weak zn⟩

theorem c_impl_made (w : World) (a_size : Int) (a_one : Int → Int → Option GCell) (f1 : Nat) (us1 : List Value) (fn1 : FnAt Try.prog f1) (hg1 : ∀ (w' : World) (z0 : Int) (z1 : Int) (_ : Keep [] w w') (z : GCell) (_ : a_one z0 z1 = some z), Calls Try.prog f1 (([.int .i64 z0, .int .i64 z1] : List Value) ++ us1).toArray w' fun e w'' => e = .returned (.agg #[.int .i64 z.Split, .int .i64 z.A, .int .i64 z.B]) ∧ SH w' [] [] w'') {r : GBlock} (t0 : impl_made a_size a_one = some r) : Calls Try.prog 49 #[.int .i64 a_size, .func (.func f1) #[] us1.toArray] w fun e w' => ∃ x : Hd, e = .returned (.agg #[.int .i64 r.Size, (sl x)]) ∧ SH w [] [ownF (sl x) r.Cells] w' := by
 refine cwc (args := [_, _]) Try.func49 R Try.ntmps49 R ?_
 unfold impl_made at t0
 refine wcr (wle (eal (cs := [iv 0, (sl hn)]) za_44) R fun b1 => (wnt (wcr (mv R R (wlq (po_build R (bd_44_0 a_size)) R (wle (eal (cs := [iv 0, (sl hn)]) za_44) R fun b2 => (wls (sbx (cs' := [iv a_size, (sl hn)]) tk_44 pz R R R R R R R) (wnt (wcs (wcr (mv R R (mv R R (wnt (gdO t0 fun g1 t0 => (lpO_inv t0 fun y1 l1 t0 => (wj (J := List GCell) (X := Hd) (fun z => y1 = z) (fun _ _ => [(4, ptr b1 0), (5, ptr b2 0)]) (fun z x => [box b2 [iv a_size, (sl x)], box b1 [iv 0, (sl hn)], ownF (sl x) z]) ?_ ?_))))))))))))))))
 refine wcb (wcf (X := Hd) l1 (fun k1 s1 x1l => [(0, iv a_size), (1, .func (.func f1) #[] us1.toArray), (4, ptr b1 0), (5, ptr b2 0), (10, iv a_size), (11, iv ((k1 : Nat) : Int))]) (fun k1 s1 x1l => [box b2 [iv a_size, (sl x1l)], box b1 [iv 0, (sl hn)], ownF (sl x1l) s1]) hn (su6 R R R R R R) (zc pz (zc pz (zc pick_nil zn))) fun k1 s1 x1l hN1 l1 => ?_)
 by_cases hk1 : k1 < (a_size).toNat
 refine fos l1 hk1 fun _ t1 l1 => ?_
 unfold impl_made_L1 at t1
 have c1 : (decide (((k1 : Nat) : Int) < a_size)) = true := ddt (by omega)
 refine wcr (wlq (pls R R) R (wnt (wcs (wft R c1 (wck (wqt (wcs (wcb (wcr (mv R R (asg R R (wnt (wcr (mv R R (mv R R (wnt (lpO_inv t1 fun y2 l2 t1 => (wj (J := List GCell) (X := Hd) (fun z => y2 = z) (fun _ _ => [(0, iv a_size), (1, .func (.func f1) #[] us1.toArray), (4, ptr b1 0), (5, ptr b2 0), (10, iv a_size), (11, iv ((k1 : Nat) : Int))]) (fun z x => [box b2 [iv a_size, (sl x)], box b1 [iv 0, (sl hn)], ownF (sl x) z]) ?_ ?_))))))))))))))))))
 refine wcb (wcf (X := Hd) l2 (fun k2 s2 x2l => [(0, iv a_size), (1, .func (.func f1) #[] us1.toArray), (4, ptr b1 0), (5, ptr b2 0), (6, iv ((k1 : Nat) : Int)), (10, iv a_size), (11, iv ((k1 : Nat) : Int)), (14, iv a_size), (15, iv ((k2 : Nat) : Int))]) (fun k2 s2 x2l => [box b2 [iv a_size, (sl x2l)], box b1 [iv 0, (sl hn)], ownF (sl x2l) s2]) x1l (su9 R R R R R R R R R) so3 fun k2 s2 x2l hN2 l2 => ?_)
 by_cases hk2 : k2 < (a_size).toNat
 refine fos l2 hk2 fun _ t2 l2 => ?_
 unfold impl_made_L2 at t2
 have c2 : (decide (((k2 : Nat) : Int) < a_size)) = true := ddt (by omega)
 refine wcr (wlq (pls R R) R (wnt (wcs (wft R c2 (wck (wqt (wcs (wcb (wcr (mv R R (asg R R (wnt (wcd [box b2 [iv a_size, (sl x2l)], box b1 [iv 0, (sl hn)]] 9 mixed (aq 0 R (pof fo_44_1 R) so2 R (aq (v := (sl x2l)) 1 R (plx tk_42 pz R R) so2 R (aq 2 R (pom R) so2 R (aq 3 R (pom R) so2 R (aq 4 R (pom R) so2 R (a1 5 (bdO t2 fun v1 hv1 t2 => (wsc R (co_d fn1 R R fun w hw => hg1 w ((k2 : Nat) : Int) ((k1 : Nat) : Int) hw.keep _ hv1) (fun _ => (zt so2)) R fun _ => (a1 6 (wse R (ebs R (sb_42_1 v1.Split v1.A v1.B)) (fun _ => (zt (zc pk1 (zc pk1 zn)))) R fun b3 => (a1 7 (gdO t2 fun g2 t2 => (wse R (eo_append (xs := s2) (ys := ([v1] : List GCell)) ak_42 pk3 R R (slin_rd fun _ g => Rg.on (rgo (pbo pz (n := 1) (xs := ([v1] : List GCell)) R R (by unfold maxLen; omega))) g) g2) (fun _ => (zt (zc pk2 (zc pk2 zn)))) R fun x3 => ?_))))))))))))))))))))))))))
 refine aq 8 R (pof fo_44_1 R) (zc pk2 (zc pk2 zn)) R (a1 9 (ws_skipop R (sbx (cs' := [iv a_size, (sl x3)]) tk_42 pk2 R R R R R R R) (sts_past (by kernel_rfl)) ?_))
 refine ae (wqb (wqt (wcg (wlq (po_inc R R (by omega)) R ?_))))
 exact mv R R (wln (wq_rnd hk2 (stpN l2 t2) x3 (su9 R R R R R R R R R) (zc pz (zc pk2 so1))))
 have c2 : (decide (((k2 : Nat) : Int) < a_size)) = false := ddf (by omega)
 have en1 := foe l2 hk2
 exact wcr (wlq (pls R R) R (wnt (wcs (wff R c2 (wcx (wqe (wqe (wbx (wjm _ x2l (Sum.inl.inj en1) (su6 R R R R R R) so3)))))))))
 intro e2 x2 hp
 obtain rfl : e2 = y2 := hp.symm
 refine wqb (wqt (wcg (wlq (po_inc R R (by omega)) R ?_)))
 exact mv R R (wln (wq_rnd hk1 (stpN l1 t1) x2 (su6 R R R R R R) so3))
 have c1 : (decide (((k1 : Nat) : Int) < a_size)) = false := ddf (by omega)
 have en2 := foe l1 hk1
 exact wcr (wlq (pls R R) R (wnt (wcs (wff R c1 (wcx (wqe (wqe (wbx (wjm _ x1l (Sum.inl.inj en2) (su2 R R) so3)))))))))
 intro e1 x1 hp
 obtain rfl : e1 = y1 := hp.symm
 refine wqt (wcr (wlq (v := .agg #[iv a_size, (sl x1)]) (plb tk_44 pz R R R) R (wls (sbx (cs' := [iv a_size, (sl x1)]) tk_44 pk1 R R R R R R R) (wnt (wct ?_)))))
 obtain rfl := oi t0
 exact wqc R tk_44 R pz R fun w hw => ⟨x1, R, hw.weak (zc pk2 zn)⟩

theorem c_impl_MirrorBlock (w : World) (a_b : GBlock) (v0a : Hd) (r0 : rdF w (dm w []) (sl v0a) a_b.Cells) {r : GBlock} (t0 : impl_MirrorBlock a_b = some r) : Calls Try.prog 42 #[.agg #[.int .i64 a_b.Size, (sl v0a)]] w fun e w' => ∃ x : Hd, e = .returned (.agg #[.int .i64 r.Size, (sl x)]) ∧ SH w [] [ownF (sl x) r.Cells] w' := by
 refine cwc (args := [_]) Try.func42 R Try.ntmps42 R ?_
 unfold impl_MirrorBlock at t0
 refine wcr (wle (eo_box R R) R fun b1 => (wle (eal (cs := [iv 0, (sl hn)]) za_44) R fun b2 => (wnt (wcs (wcr (wlq (v := .agg #[iv a_b.Size, (sl v0a)]) (plb tk_44 pk1 R R R) R (bdO t0 fun v1 hv1 t0 => (wlc (cz0 fa_32 R fun w hw => c_impl_BlockOk w a_b v0a (ra r0 hw) hv1) R fun _ => (wlq (po_not R) R (wnt (wcO t0 R (fun h1 t0 => ?_) fun h1 t0 => ?_)))))))))))
 refine wcr (wlq (po_build R bd_44) R (wls (sbx (cs' := [iv 0, (sl hn)]) tk_44 pz R R R R R R R) (wnt (wct (wqr ?_)))))
 obtain rfl := oi t0
 exact wqc R tk_44 R pz R fun w hw => ⟨hn, R, hw.weak (zc pick_nil zn)⟩
 refine wck (wqt (wcr (wlq (pof fo_44_0 R) R (wlq (v := iv a_b.Size) (plx tk_3 pk1 R R) R (wlq (po_makeFunc R) R (bdO t0 fun v2 hv2 t0 => (wlc (cz1 fa_49 R fun w hw => c_impl_made w a_b.Size (fun z0 z1 => impl_MirrorBlock_c1 z0 z1 a_b) 50 [ptr b1 0] fa_50 (fun w2 z0 z1  hk _ hz => c_impl_MirrorBlock_c1 w2 z0 z1 a_b v0a (RdL.later (ra r0 hw) hk) b1 (Bx.keep (hw.at_box pk1) hk) hz) hv2) R fun x1 => (wls (sbx (cs' := [iv v2.Size, (sl x1)]) tk_44 pk1 R R R R R R R) (wnt (wct ?_))))))))))
 obtain rfl := oi t0
 exact wqc R tk_44 R pz R fun w hw => ⟨x1, R, hw.weak (zc pk1 zn)⟩

theorem c_impl_TurnCell (w : World) (a_c : GCell) {r : GCell} (t0 : impl_TurnCell a_c = some r) : Calls Try.prog 54 #[.agg #[.int .i64 a_c.Split, .int .i64 a_c.A, .int .i64 a_c.B]] w fun e w' => e = .returned (.agg #[.int .i64 r.Split, .int .i64 r.A, .int .i64 r.B]) ∧ SH w [] [] w' := by
 refine cwc (args := [_]) Try.func54 R Try.ntmps54 R ?_
 unfold impl_TurnCell at t0
 refine wcr (wle (eo_box R R) R fun b1 => (wle (eal (cs := [iv 0, iv 0, iv 0]) za_57) R fun b2 => (wnt (wcs (wcb (wcr (wlq (v := .agg #[iv a_c.Split, iv a_c.A, iv a_c.B]) (plb tk_57 pk1 R R R) R (bdO t0 fun v1 hv1 t0 => (wlc (cz0 fa_40 R fun w hw => c_impl_CellOk w a_c hv1) R fun _ => (wlq (po_not R) R (asg R R (wnt (wcO t0 R (fun h1 t0 => ?_) fun h1 t0 => ?_)))))))))))))
 refine wcr (wlq (po_build R bd_57) R (wls (sbx (cs' := [iv 0, iv 0, iv 0]) tk_57 pz R R R R R R R) (wnt (wct (wbr (wqr ?_))))))
 obtain rfl := oi t0
 exact wqc R tk_57 R pz R fun w hw => ⟨R, hw.weak zn⟩
 refine wcr (wlq (pof fo_57_0 R) R (wlq (v := iv a_c.Split) (plx tk_3 pk1 R R) R (wlq (pol R R) R (asg R R (wnt (wcO t0 R (fun h2 t0 => ?_) fun h2 t0 => ?_))))))
 refine wcr (wlq (pof fo_57_2 R) R (wlq (v := iv a_c.B) (plx tk_3 pk1 R R) R (wlq (pof fo_57_1 R) R (wlq (v := iv a_c.A) (plx tk_3 pk1 R R) R (wlq (po_build R (bd_57_0_1_2 2 a_c.B a_c.A)) R (wls (sbx (cs' := [iv 2, iv a_c.B, iv a_c.A]) tk_57 pz R R R R R R R) (wnt (wct (wbr (wqr ?_))))))))))
 obtain rfl := oi t0
 exact wqc R tk_57 R pz R fun w hw => ⟨R, hw.weak zn⟩
 refine wcr (wlq (pof fo_57_0 R) R (wlq (v := iv a_c.Split) (plx tk_3 pk1 R R) R (wlq (pol R R) R (asg R R (wnt (wcO t0 R (fun h3 t0 => ?_) fun h3 t0 => ?_))))))
 refine wcr (wlq (pof fo_57_1 R) R (wlq (v := iv a_c.A) (plx tk_3 pk1 R R) R (wlq (pof fo_57_2 R) R (wlq (v := iv a_c.B) (plx tk_3 pk1 R R) R (wlq (po_build R (bd_57_0_1_2 1 a_c.A a_c.B)) R (wls (sbx (cs' := [iv 1, iv a_c.A, iv a_c.B]) tk_57 pz R R R R R R R) (wnt (wct (wbr (wqr ?_))))))))))
 obtain rfl := oi t0
 exact wqc R tk_57 R pz R fun w hw => ⟨R, hw.weak zn⟩
 refine wck (wqb (wqt (wcr (wlq (v := .agg #[iv a_c.Split, iv a_c.A, iv a_c.B]) (plb tk_57 pk1 R R R) R (wls (sbx (cs' := [iv a_c.Split, iv a_c.A, iv a_c.B]) tk_57 pz R R R R R R R) (wnt (wct ?_)))))))
 obtain rfl := oi t0
 exact wqc R tk_57 R pz R fun w hw => ⟨R, hw.weak zn⟩

theorem c_impl_TurnBlock_c1 (w : World) (a_x : Int) (a_y : Int) (c_p2 : GBlock) (v0a : Hd) (r0 : rdF w (dm w []) (sl v0a) c_p2.Cells) (b2c : Nat) (q2 : Bx w b2c [.int .i64 c_p2.Size, (sl v0a)]) {r : GCell} (t0 : impl_TurnBlock_c1 a_x a_y c_p2 = some r) : Calls Try.prog 53 #[.int .i64 a_x, .int .i64 a_y, ptr b2c 0] w fun e w' => e = .returned (.agg #[.int .i64 r.Split, .int .i64 r.A, .int .i64 r.B]) ∧ SH w [] [] w' := by
 refine cwc (args := [_, _, _]) Try.func53 R Try.ntmps53 R ?_
 unfold impl_TurnBlock_c1 at t0
 refine wcr (wle (eal (cs := [iv 0, iv 0, iv 0]) za_57) R fun b1 => (wnt (wcr (wlq (v := .agg #[iv c_p2.Size, (sl v0a)]) (po_load_aboxs q2 tk_44 R R R) R (mv R R (wlq (pof fo_44_0 R) R (wlq (v := iv c_p2.Size) (po_load_abox q2 tk_3 R R) R (wlq (po_sub R R) R (mv R R (wlq (po_sub R R) R (bdO t0 fun v1 hv1 t0 => (wlc (cz0 fa_52 R fun w hw => c_impl_CellAt w c_p2 v0a (ra r0 hw) a_y (wr ((wr (c_p2.Size - 1)) - a_x)) hv1) R fun _ => (bdO t0 fun v2 hv2 t0 => (wlc (cz0 fa_54 R fun w hw => c_impl_TurnCell w v1 hv2) R fun _ => (wls (sbx (cs' := [iv v2.Split, iv v2.A, iv v2.B]) tk_57 pz R R R R R R R) (wnt (wct ?_)))))))))))))))))
 obtain rfl := oi t0
 exact wqc R tk_57 R pz R fun w hw => ⟨R, hw.weak zn⟩

theorem c_impl_TurnBlock (w : World) (a_b : GBlock) (v0a : Hd) (r0 : rdF w (dm w []) (sl v0a) a_b.Cells) {r : GBlock} (t0 : impl_TurnBlock a_b = some r) : Calls Try.prog 43 #[.agg #[.int .i64 a_b.Size, (sl v0a)]] w fun e w' => ∃ x : Hd, e = .returned (.agg #[.int .i64 r.Size, (sl x)]) ∧ SH w [] [ownF (sl x) r.Cells] w' := by
 refine cwc (args := [_]) Try.func43 R Try.ntmps43 R ?_
 unfold impl_TurnBlock at t0
 refine wcr (wle (eo_box R R) R fun b1 => (wle (eal (cs := [iv 0, (sl hn)]) za_44) R fun b2 => (wnt (wcs (wcr (wlq (v := .agg #[iv a_b.Size, (sl v0a)]) (plb tk_44 pk1 R R R) R (bdO t0 fun v1 hv1 t0 => (wlc (cz0 fa_32 R fun w hw => c_impl_BlockOk w a_b v0a (ra r0 hw) hv1) R fun _ => (wlq (po_not R) R (wnt (wcO t0 R (fun h1 t0 => ?_) fun h1 t0 => ?_)))))))))))
 refine wcr (wlq (po_build R bd_44) R (wls (sbx (cs' := [iv 0, (sl hn)]) tk_44 pz R R R R R R R) (wnt (wct (wqr ?_)))))
 obtain rfl := oi t0
 exact wqc R tk_44 R pz R fun w hw => ⟨hn, R, hw.weak (zc pick_nil zn)⟩
 refine wck (wqt (wcr (wlq (pof fo_44_0 R) R (wlq (v := iv a_b.Size) (plx tk_3 pk1 R R) R (wlq (po_makeFunc R) R (bdO t0 fun v2 hv2 t0 => (wlc (cz1 fa_49 R fun w hw => c_impl_made w a_b.Size (fun z0 z1 => impl_TurnBlock_c1 z0 z1 a_b) 53 [ptr b1 0] fa_53 (fun w2 z0 z1  hk _ hz => c_impl_TurnBlock_c1 w2 z0 z1 a_b v0a (RdL.later (ra r0 hw) hk) b1 (Bx.keep (hw.at_box pk1) hk) hz) hv2) R fun x1 => (wls (sbx (cs' := [iv v2.Size, (sl x1)]) tk_44 pk1 R R R R R R R) (wnt (wct ?_))))))))))
 obtain rfl := oi t0
 exact wqc R tk_44 R pz R fun w hw => ⟨x1, R, hw.weak (zc pk1 zn)⟩

theorem c_impl_SeenFrom (w : World) (a_b : GBlock) (v0a : Hd) (r0 : rdF w (dm w []) (sl v0a) a_b.Cells) (a_k : Int) {r : GBlock} (t0 : impl_SeenFrom a_b a_k = some r) : Calls Try.prog 33 #[.agg #[.int .i64 a_b.Size, (sl v0a)], .int .i64 a_k] w fun e w' => ∃ x : Hd, e = .returned (.agg #[.int .i64 r.Size, (sl x)]) ∧ SH w [] [ownF (sl x) r.Cells] w' := by
 refine cwc (args := [_, _]) Try.func33 R Try.ntmps33 R ?_
 unfold impl_SeenFrom at t0
 refine wcr (wle (eo_box R R) R fun b1 => (wle (eal (cs := [iv 0, (sl hn)]) za_44) R fun b2 => (wnt (wcs (wcs (bdO t0 fun y1 t1 t0 => (wj (J := Bool) (X := Unit) (fun z => y1 = z) (fun z _ => [(1, iv a_k), (2, ptr b1 0), (4, ptr b2 0), (13, .bool z)]) (fun _ _ => [box b2 [iv 0, (sl hn)], box b1 [iv a_b.Size, (sl v0a)]]) ?_ ?_)))))))
 refine wcg (wlq (v := .agg #[iv a_b.Size, (sl v0a)]) (plb tk_44 pk1 R R R) R (bdO t1 fun v1 hv1 t1 => (wlc (cz0 fa_32 R fun w hw => c_impl_BlockOk w a_b v0a (ra r0 hw) hv1) R fun _ => (wlq (po_not R) R (mv R R (wlo (t := 9) t1 R (fun h1 t1 => ?_) fun h1 t1 => ?_))))))
 exact wgf (j := 3) R R R R R (wgf (j := 3) R R R R R (wgf (j := 3) R R R R R (wlq (pit R R) R (wln (wjm _ () (mtE t1) (su4 R R R R) so2)))))
 exact wgn (j := 3) R R R (mv R R (bdO t1 fun v2 hv2 t1 => (wgn (j := 3) R R R (wlc (cz0 fa_31 R fun w hw => c_impl_within w a_k 0 7 hv2) R (fun _ => (wgn (j := 3) R R R (wlq (po_not R) R (wlq (pif R R) R (wln (wjm _ () (mtE t1) (su4 R R R R) so2))))))))))
 intro j1 _ hp
 obtain rfl : j1 = y1 := hp.symm
 refine wqt (wcO t0 R (fun h2 t0 => ?_) fun h2 t0 => ?_)
 refine wcr (wlq (po_build R bd_44) R (wls (sbx (cs' := [iv 0, (sl hn)]) tk_44 pz R R R R R R R) (wnt (wct (wqr ?_)))))
 obtain rfl := oi t0
 exact wqc R tk_44 R pz R fun w hw => ⟨hn, R, hw.weak (zc pick_nil zn)⟩
 refine wck (wqt (wcr (wlq (v := .agg #[iv a_b.Size, (sl v0a)]) (plb tk_44 pk1 R R R) R (bdO t0 fun v3 hv3 t0 => (wlc (cz1 fa_41 R fun w hw => c_impl_Block_copied w a_b v0a (ra r0 hw) hv3) R fun x2 => (wle (eal (cs := [iv 0, (sl hn)]) za_44) R fun b3 => (wls (sbx (cs' := [iv v3.Size, (sl x2)]) tk_44 pz R R R R R R R) (wnt (wcs (wcr (mv R R (wlq (po_geq R R) R (wnt (bdO t0 fun y1 t1 t0 => (wj (J := GBlock) (X := Hd) (fun z => y1 = z) (fun _ _ => [(1, iv a_k), (4, ptr b2 0), (5, ptr b3 0)]) (fun z x => [box b3 [iv ((z).Size), (sl x)], box b2 [iv 0, (sl hn)], ownF (sl x) ((z).Cells)]) ?_ ?_)))))))))))))))
 refine wcO t1 R (fun h3 t1 => ?_) fun h3 t1 => ?_
 exact wcg (wlq (v := .agg #[iv a_b.Size, (sl v0a)]) (plb tk_44 pk3 R R R) R (bdO t1 fun v4 hv4 t1 => (wlc (cz1 fa_42 R fun w hw => c_impl_MirrorBlock w a_b v0a (ra r0 hw) hv4) R fun x4 => (wls (sbx (cs' := [iv v4.Size, (sl x4)]) tk_44 pk1 R R R R R R R) (wln (wjm _ x4 (mtE t1) (su3 R R R) (zc pz (zc pk2 so1))))))))
 exact wck (wjm _ x2 (mtE t1) (su3 R R R) (zc pz (zc pk1 so1)))
 intro j2 x3 hp
 obtain rfl : j2 = y1 := hp.symm
 refine wqt (wcs (wcr (mv R R (wlq (po_rem R R (by decide)) R ?_))))
 refine mv R R (wnt (gdO t0 fun g1 t0 => (lpO_inv t0 fun y1 l1 t0 => (wj (J := Int × (List GCell)) (X := Hd) (fun z => y1 = z) (fun _ _ => [(4, ptr b2 0), (5, ptr b3 0)]) (fun z x => [box b3 [iv z.1, (sl x)], box b2 [iv 0, (sl hn)], ownF (sl x) z.2]) ?_ ?_))))
 refine wcb (wcf (X := Hd) l1 (fun k1 s1 x1l => [(4, ptr b2 0), (5, ptr b3 0), (22, iv (a_k.tmod 4)), (23, iv ((k1 : Nat) : Int))]) (fun k1 s1 x1l => [box b3 [iv s1.1, (sl x1l)], box b2 [iv 0, (sl hn)], ownF (sl x1l) s1.2]) x3 (su4 R R R R) so3 fun k1 s1 x1l hN1 l1 => ?_)
 by_cases hk1 : k1 < ((a_k.tmod 4)).toNat
 refine fos l1 hk1 fun _ t1 l1 => ?_
 unfold impl_SeenFrom_L1 at t1
 have c1 : (decide (((k1 : Nat) : Int) < (a_k.tmod 4))) = true := ddt (by omega)
 refine wcr (wlq (pls R R) R (wnt (wcs (wft R c1 (wck (wqt (wcs (wcb (wcg (wlq (v := .agg #[iv s1.1, (sl x1l)]) (plb tk_44 pz R R R) R (bdO t1 fun v5 hv5 t1 => (wlc (cz1 fa_43 R fun w hw => c_impl_TurnBlock w (GBlock.mk s1.1 s1.2) x1l (Rg.on (rgo pk2) hw) hv5) R fun x6 => (wls (sbx (cs' := [iv v5.Size, (sl x6)]) tk_44 pk1 R R R R R R R) (wln (wqb (wqt (wcg (wlq (po_inc R R (by omega)) R ?_))))))))))))))))))
 exact mv R R (wln (wq_rnd hk1 (stpN l1 t1) x6 (su4 R R R R) (zc pz (zc pk1 so1))))
 have c1 : (decide (((k1 : Nat) : Int) < (a_k.tmod 4))) = false := ddf (by omega)
 have en1 := foe l1 hk1
 exact wcr (wlq (pls R R) R (wnt (wcs (wff R c1 (wcx (wqe (wqe (wbx (wjm _ x1l (Sum.inl.inj en1) (su2 R R) so3)))))))))
 intro e1 x5 hp
 obtain rfl : e1 = y1 := hp.symm
 refine wqt (wcr (wlq (v := .agg #[iv e1.1, (sl x5)]) (plb tk_44 pz R R R) R (wls (sbx (cs' := [iv e1.1, (sl x5)]) tk_44 pk1 R R R R R R R) (wnt (wct ?_)))))
 obtain rfl := oi t0
 exact wqc R tk_44 R pz R fun w hw => ⟨x5, R, hw.weak (zc pk2 zn)⟩

theorem c_impl_shown (w : World) (a_q : GQuilt) (v0a : Hd) (r0 : rdF w (dm w []) (sl v0a) a_q.Spots) (a_blocks : List GBlock) (v1a : Hd) (u1a : List Value) (r1 : RdL w (dm w []) (sl v1a) u1a a_blocks) {r : List GBlock} (t0 : impl_shown a_q a_blocks = some r) : Calls Try.prog 19 #[.agg #[.int .i64 a_q.Width, .int .i64 a_q.Height, (sl v0a)], (sl v1a)] w fun e w' => ∃ x : Hd × (List Value), e = .returned ((sl x.1)) ∧ SH w [] [own (sl x.1) x.2 r] w' := by
 refine cwc (args := [_, _]) Try.func19 R Try.ntmps19 R ?_
 unfold impl_shown at t0
 refine wcr (wle (eo_box R R) R fun b1 => (asg R R (wnt (wcr (wle (ebs R sb_27_0) R fun b2 => (asg R R (wnt (wcs (wcr (wlq (pof fo_26_2 R) R (wlq (v := (sl v0a)) (plx tk_24 pk1 R R) R (wlq (pln (rga r0) el_24 R) R (mv R R (wnt (gdO t0 fun g1 t0 => (lpO_inv t0 fun y1 l1 t0 => (wj (J := List GBlock) (X := Hd × (List Value)) (fun z => y1 = z) (fun _ x => [(5, (sl x.1))]) (fun z x => [own (sl x.1) x.2 z]) ?_ ?_)))))))))))))))))
 refine wcb (wcf (X := Hd × (List Value)) l1 (fun k1 s1 x1l => [(1, (sl v1a)), (5, (sl x1l.1)), (10, (sl v0a)), (11, iv ((a_q.Spots.length : Nat) : Int)), (12, iv ((k1 : Nat) : Int))]) (fun k1 s1 x1l => [own (sl x1l.1) x1l.2 s1]) ((⟨some ⟨b2, 0, none⟩, 0, 0⟩ : Hd), []) (su5 R R R R R) (zc (pick_box_nil pz) zn) fun k1 s1 x1l hN1 l1 => ?_)
 by_cases hk1 : k1 < a_q.Spots.length
 refine fos l1 hk1 fun _ t1 l1 => ?_
 unfold impl_shown_L1 at t1
 have c1 : (decide (((k1 : Nat) : Int) < ((a_q.Spots.length : Nat) : Int))) = true := ddt (by omega)
 refine wcr (wlq (pls R R) R (wnt (wcs (wft R c1 (wck (wqt (wcs (wcb (wcr (wlq (po_ixn (k := k1) (rga r0) el_24 R R hk1) R (wlq (v := .agg #[iv ((gx a_q.Spots k1).Block), iv ((gx a_q.Spots k1).Seen)]) (po_ldfs (rga r0) tk_40 R hk1 R R R) R (wle (eal (cs := [iv 0, iv 0]) za_40) R fun b3 => (wls (sbx (cs' := [iv ((gx a_q.Spots k1).Block), iv ((gx a_q.Spots k1).Seen)]) tk_40 pz R R R R R R R) (wnt (wcd [box b3 [iv ((gx a_q.Spots k1).Block), iv ((gx a_q.Spots k1).Seen)]] 12 mixed (aq 0 R (pom R) so1 R (aq 1 R (pom R) so1 R (aq 2 R (pof fo_40_0 R) so1 R (aq (v := iv ((gx a_q.Spots k1).Block)) 3 R (plx tk_3 pz R R) so1 R (gdO t1 fun g2 t1 => (aq 4 R (po_ixr (rga r1) el_27 R R g2.1 g2.2) so1 R (wa_elem (rga r1) (ix_lt g2) ?_))))))))))))))))))))))
 rintro ⟨_, _, he1⟩
 obtain ⟨w1, hc1, _⟩ := rd_GBlock.1 he1
 refine aq (v := .agg #[iv ((gx a_blocks (((gx a_q.Spots k1).Block).toNat)).Size), (sl w1)]) 5 R (po_ldns (rga r1) tk_44 R hc1 R R R) so1 R (aq 6 R (pof fo_40_1 R) so1 R (aq (v := iv ((gx a_q.Spots k1).Seen)) 7 R (plx tk_3 pz R R) so1 R (a1 8 (bdO t1 fun v1 hv1 t1 => (wsc R (cz1 fa_33 R fun w hw => c_impl_SeenFrom w (gx a_blocks (((gx a_q.Spots k1).Block).toNat)) w1 (Rg.on (er_GBlock_0 hc1 (rga r1) (ix_lt g2)) hw) ((gx a_q.Spots k1).Seen) hv1) (fun _ => (zt (zc pk1 zn))) R fun x2 => (a1 9 (wse R (ebs R (sb_27_1 v1.Size x2)) (fun _ => (zt (zc pk2 zn))) R fun b4 => (a1 10 (gdO t1 fun g3 t1 => (wse R (eo_append_one (us := x1l.2) (xs := s1) ak_27 pk3 (pow_GBlock (x := v1) pk1) pz R R R g3) (fun _ => (zt (zc pk2 zn))) R fun x3 => (aq 11 R (po_assign R) (zc pk2 zn) R (ae (wqb (wqt (wcg (wlq (po_inc R R (by omega)) R ?_))))))))))))))))
 exact mv R R (wln (wq_rnd hk1 (stpN l1 t1) (x3, (x1l.2 ++ [iv v1.Size, (sl x2)])) (su5 R R R R R) so1))
 have c1 : (decide (((k1 : Nat) : Int) < ((a_q.Spots.length : Nat) : Int))) = false := ddf (by omega)
 have en1 := foe l1 hk1
 exact wcr (wlq (pls R R) R (wnt (wcs (wff R c1 (wcx (wqe (wqe (wbx (wjm _ (x1l.1, x1l.2) (Sum.inl.inj en1) (su1 R) so1)))))))))
 intro e1 x1 hp
 obtain rfl : e1 = y1 := hp.symm
 refine wqt (wcr (mv R R (asg R R (wnt (wct ?_)))))
 obtain rfl := oi t0
 exact wq1 R R fun w hw => ⟨(x1.1, x1.2), R, hw.weak so1⟩

theorem c_impl_shifted (w : World) (a_q : GQuilt) (v0a : Hd) (_r0 : rdF w (dm w []) (sl v0a) a_q.Spots) (a_i : Int) (a_dx : Int) (a_dy : Int) {r : Int} (t0 : impl_shifted a_q a_i a_dx a_dy = some r) : Calls Try.prog 21 #[.agg #[.int .i64 a_q.Width, .int .i64 a_q.Height, (sl v0a)], .int .i64 a_i, .int .i64 a_dx, .int .i64 a_dy] w fun e w' => e = .returned (.int .i64 r) ∧ SH w [] [] w' := by
 refine cwc (args := [_, _, _, _]) Try.func21 R Try.ntmps21 R ?_
 unfold impl_shifted at t0
 refine wcr (wle (eo_box R R) R fun b1 => (asg R R (wnt (wcs (wcd [box b1 [iv a_q.Width, iv a_q.Height, (sl v0a)]] 20 mixed (aq 0 R (pom R) so1 R (aq 1 R (pof fo_26_0 R) so1 R (aq (v := iv a_q.Width) 2 R (plx tk_3 pz R R) so1 R (gdO t0 fun g1 t0 => (aq 3 R (po_rem R R g1) so1 R (aq 4 R (pom R) so1 R (aq 5 R (po_add R R) so1 R (aq 6 R (pof fo_26_0 R) so1 R (aq (v := iv a_q.Width) 7 R (plx tk_3 pz R R) so1 R (aq 8 R (po_rem R R g1) so1 R (aq 9 R (pom R) so1 R (aq 10 R (pof fo_26_0 R) so1 R (aq (v := iv a_q.Width) 11 R (plx tk_3 pz R R) so1 R (aq 12 R (po_quo R R g1) so1 R (aq 13 R (pom R) so1 R (aq 14 R (po_add R R) so1 R (aq 15 R (pof fo_26_1 R) so1 R (aq (v := iv a_q.Height) 16 R (plx tk_3 pz R R) so1 R (gdO t0 fun g2 t0 => (aq 17 R (po_rem R R g2) so1 R (aq 18 R (po_assign R) so1 R (aq 19 R (po_assign R) so1 R (ae (wqt (wcr (mv R R (wlq (pof fo_26_0 R) R (wlq (v := iv a_q.Width) (plx tk_3 pz R R) R (wlq (po_mul R R) R (mv R R (wlq (po_add R R) R (asg R R (wnt (wct ?_)))))))))))))))))))))))))))))))))))))))
 obtain rfl := oi t0
 exact wq1 R R fun w hw => ⟨R, hw.weak zn⟩

theorem c_impl_SameBlock (w : World) (a_b : GBlock) (v0a : Hd) (r0 : rdF w (dm w []) (sl v0a) a_b.Cells) (a_d : GBlock) (v1a : Hd) (r1 : rdF w (dm w []) (sl v1a) a_d.Cells) {r : Bool} (t0 : impl_SameBlock a_b a_d = some r) : Calls Try.prog 20 #[.agg #[.int .i64 a_b.Size, (sl v0a)], .agg #[.int .i64 a_d.Size, (sl v1a)]] w fun e w' => e = .returned (.bool r) ∧ SH w [] [] w' := by
 refine cwc (args := [_, _]) Try.func20 R Try.ntmps20 R ?_
 unfold impl_SameBlock at t0
 refine wcr (wle (eo_box R R) R fun b1 => (wle (eo_box R R) R fun b2 => (asg R R (wnt (wcs (wcs (wcj (X := Unit) (fun _ => True) (fun _ => [(2, ptr b1 0), (3, ptr b2 0), (19, .bool ((a_b.Size != a_d.Size) || (((a_b.Cells.length : Nat) : Int) != ((a_d.Cells.length : Nat) : Int))))]) (fun _ => [box b2 [iv a_d.Size, (sl v1a)], box b1 [iv a_b.Size, (sl v0a)]]) ?_ ?_)))))))
 refine wcg (wlq (pof fo_44_0 R) R (wlq (v := iv a_b.Size) (plx tk_3 pk1 R R) R (wlq (pof fo_44_0 R) R (wlq (v := iv a_d.Size) (plx tk_3 pz R R) R (wlq (po_neq R R) R (mv R R (wl_fork (t := 11) R (fun h1 => ?_) fun h1 => ?_)))))))
 exact wgf (j := 5) R R R R R (wgf (j := 5) R R R R R (wgf (j := 5) R R R R R (wgf (j := 5) R R R R R (wgf (j := 5) R R R R R (wgf (j := 5) R R R R R (wgf (j := 5) R R R R R (wlq (pit R R) R (wln (wqm () trivial (yc R (yc R (sub_b R (by rw [h1]; rfl) yn))) so2)))))))))
 exact wgn (j := 5) R R R (wlq (pof fo_44_1 R) R (wgn (j := 5) R R R (wlq (v := (sl v0a)) (plx tk_42 pk1 R R) R (wgn (j := 5) R R R (wlq (pln (rga r0) el_42 R) R (wgn (j := 5) R R R (wlq (pof fo_44_1 R) R (wgn (j := 5) R R R (wlq (v := (sl v1a)) (plx tk_42 pz R R) R (wgn (j := 5) R R R (wlq (pln (rga r1) el_42 R) R (wgn (j := 5) R R R (wlq (po_neq R R) R (wlq (pif R R) R (wln (wqm () trivial (yc R (yc R (sub_b R (by rw [h1]; rfl) yn))) so2))))))))))))))))
 intro _ _
 refine wqt (wcO t0 R (fun h2 t0 => ?_) fun h2 t0 => ?_)
 refine wcr (asg R R (wnt (wct (wqr ?_))))
 obtain rfl := oi t0
 exact wq1 R R fun w hw => ⟨R, hw.weak zn⟩
 refine wck (wqt (wcs (wcr (wlq (pof fo_44_1 R) R (wlq (v := (sl v0a)) (plx tk_42 pk1 R R) R (wlq (pln (rga r0) el_42 R) R (mv R R (wnt (gdO t0 fun g1 t0 => (sqO t0 fun y1 l1 t0 => (wj (J := Unit) (X := Unit) (fun z => y1 = .inl z) (fun _ _ => []) (fun _ _ => []) ?_ ?_)))))))))))
 refine wcb (wcf (X := Unit) l1 (fun k1 s1 x1l => [(2, ptr b1 0), (3, ptr b2 0), (22, iv ((a_b.Cells.length : Nat) : Int)), (23, iv ((k1 : Nat) : Int))]) (fun k1 s1 x1l => [box b2 [iv a_d.Size, (sl v1a)], box b1 [iv a_b.Size, (sl v0a)]]) () (su4 R R R R) so2 fun k1 s1 x1l hN1 l1 => ?_)
 by_cases hk1 : k1 < a_b.Cells.length
 refine fos l1 hk1 fun _ t1 l1 => ?_
 unfold impl_SameBlock_L1 at t1
 have c1 : (decide (((k1 : Nat) : Int) < ((a_b.Cells.length : Nat) : Int))) = true := ddt (by omega)
 refine wcr (wlq (pls R R) R (wnt (wcs (wft R c1 (wck (wqt (wcs (wcb (wcr (mv R R (asg R R (wnt (wcs (wcd [box b2 [iv a_d.Size, (sl v1a)], box b1 [iv a_b.Size, (sl v0a)]] 11 mixed (aq 0 R (pof fo_44_1 R) so2 R (aq (v := (sl v0a)) 1 R (plx tk_42 pk1 R R) so2 R (aq 2 R (pom R) so2 R (aq 3 R (po_ixn (k := k1) (rga r0) el_42 R R hk1) so2 R (aq (v := .agg #[iv ((gx a_b.Cells k1).Split), iv ((gx a_b.Cells k1).A), iv ((gx a_b.Cells k1).B)]) 4 R (po_ldfs (rga r0) tk_57 R hk1 R R R) so2 R (aq 5 R (pof fo_44_1 R) so2 R (aq (v := (sl v1a)) 6 R (plx tk_42 pz R R) so2 R (aq 7 R (pom R) so2 R (gdO t1 fun g2 t1 => (aq 8 R (po_ixn (k := k1) (rga r1) el_42 R R g2) so2 R (aq (v := .agg #[iv ((gx a_d.Cells k1).Split), iv ((gx a_d.Cells k1).A), iv ((gx a_d.Cells k1).B)]) 9 R (po_ldfs (rga r1) tk_57 R g2 R R R) so2 R (aq 10 R (po_neq_struct (ps := [(gx a_b.Cells k1).Split, (gx a_b.Cells k1).A, (gx a_b.Cells k1).B]) (qs := [(gx a_d.Cells k1).Split, (gx a_d.Cells k1).A, (gx a_d.Cells k1).B]) sq_57 R R R R) so2 R (ae (wqt (wcO t1 R (fun h3 t1 => ?_) fun h3 t1 => ?_)))))))))))))))))))))))))))))
 refine wcr (asg R R (wnt (wct (wbr (wqr (wqr (wbr (wqr (wqr ?_)))))))))
 replace t0 := lpR t0 l1 t1
 obtain rfl := oi t0
 exact wq1 R R fun w hw => ⟨R, hw.weak zn⟩
 refine wck (wqb (wqt (wcg (wlq (po_inc R R (by omega)) R ?_))))
 exact mv R R (wln (wq_rnd hk1 (stpN l1 t1) () (su4 R R R R) so2))
 have c1 : (decide (((k1 : Nat) : Int) < ((a_b.Cells.length : Nat) : Int))) = false := ddf (by omega)
 have en1 := foe l1 hk1
 exact wcr (wlq (pls R R) R (wnt (wcs (wff R c1 (wcx (wqe (wqe (wbx (wjm _ () en1 yn zn)))))))))
 intro e1 _ hp
 replace t0 := sqE (j := e1) t0 hp
 refine wqt (wcr (asg R R (wnt (wct ?_))))
 obtain rfl := oi t0
 exact wq1 R R fun w hw => ⟨R, hw.weak zn⟩

theorem c_impl_HasShift (w : World) (a_q : GQuilt) (v0a : Hd) (r0 : rdF w (dm w []) (sl v0a) a_q.Spots) (a_blocks : List GBlock) (v1a : Hd) (u1a : List Value) (r1 : RdL w (dm w []) (sl v1a) u1a a_blocks) (a_dx : Int) (a_dy : Int) {r : Bool} (t0 : impl_HasShift a_q a_blocks a_dx a_dy = some r) : Calls Try.prog 8 #[.agg #[.int .i64 a_q.Width, .int .i64 a_q.Height, (sl v0a)], (sl v1a), .int .i64 a_dx, .int .i64 a_dy] w fun e w' => e = .returned (.bool r) ∧ SH w [] [] w' := by
 refine cwc (args := [_, _, _, _]) Try.func8 R Try.ntmps8 R ?_
 unfold impl_HasShift at t0
 refine wcr (wle (eo_box R R) R fun b1 => (asg R R (wnt (wcs (wcs (bdO t0 fun y1 t1 t0 => (wj (J := Bool) (X := Unit) (fun z => y1 = z) (fun z _ => [(1, (sl v1a)), (2, iv a_dx), (3, iv a_dy), (4, ptr b1 0), (21, .bool z)]) (fun _ _ => [box b1 [iv a_q.Width, iv a_q.Height, (sl v0a)]]) ?_ ?_)))))))
 refine wcg (wlq (v := .agg #[iv a_q.Width, iv a_q.Height, (sl v0a)]) (plb tk_26 pz R R R) R (mv R R (bdO t1 fun v1 hv1 t1 => (wlc (cz0 fa_17 R fun w hw => c_impl_QuiltOk w a_q v0a (ra r0 hw) a_blocks v1a u1a (ra r1 hw) hv1) R fun _ => (wlq (po_not R) R (mv R R (wlo (t := 15) t1 R (fun h1 t1 => ?_) fun h1 t1 => ?_)))))))
 exact wgf (j := 4) R R R R R (wgf (j := 4) R R R R R (wgf (j := 4) R R R R R (wgf (j := 4) R R R R R (wgf (j := 4) R R R R R (wlq (pit R R) R (wln (wjm _ () (mtE t1) (su5 R R R R R) so1)))))))
 exact wgn (j := 4) R R R (wlq (v := .agg #[iv a_q.Width, iv a_q.Height, (sl v0a)]) (plb tk_26 pz R R R) R (wgn (j := 4) R R R (mv R R (wgn (j := 4) R R R (mv R R (bdO t1 fun v2 hv2 t1 => (wgn (j := 4) R R R (wlc (cz0 fa_18 R fun w hw => c_impl_isShift w a_q v0a (ra r0 hw) a_dx a_dy hv2) R (fun _ => (wgn (j := 4) R R R (wlq (po_not R) R (wlq (pif R R) R (wln (wjm _ () (mtE t1) (su5 R R R R R) so1))))))))))))))
 intro j1 _ hp
 obtain rfl : j1 = y1 := hp.symm
 refine wqt (wcO t0 R (fun h2 t0 => ?_) fun h2 t0 => ?_)
 refine wcr (asg R R (wnt (wct (wqr ?_))))
 obtain rfl := oi t0
 exact wq1 R R fun w hw => ⟨R, hw.weak zn⟩
 refine wck (wqt (wcr (wlq (v := .agg #[iv a_q.Width, iv a_q.Height, (sl v0a)]) (plb tk_26 pz R R R) R (mv R R (bdO t0 fun v3 hv3 t0 => (wlc (cz1 fa_19 R fun w hw => c_impl_shown w a_q v0a (ra r0 hw) a_blocks v1a u1a (ra r1 hw) hv3) R fun x2 => (asg R R (wnt (wcs (wcr (mv R R (wlq (pln (rgo pz) el_27 R) R (mv R R (wnt (gdO t0 fun g1 t0 => (sqO t0 fun y1 l1 t0 => (wj (J := Unit) (X := Unit) (fun z => y1 = .inl z) (fun _ _ => []) (fun _ _ => []) ?_ ?_)))))))))))))))))
 refine wcb (wcf (X := Unit) l1 (fun k1 s1 x1l => [(2, iv a_dx), (3, iv a_dy), (4, ptr b1 0), (9, (sl x2.1)), (26, iv ((v3.length : Nat) : Int)), (27, iv ((k1 : Nat) : Int))]) (fun k1 s1 x1l => [own (sl x2.1) x2.2 v3, box b1 [iv a_q.Width, iv a_q.Height, (sl v0a)]]) () (su6 R R R R R R) so2 fun k1 s1 x1l hN1 l1 => ?_)
 by_cases hk1 : k1 < v3.length
 refine fos l1 hk1 fun _ t1 l1 => ?_
 unfold impl_HasShift_L1 at t1
 have c1 : (decide (((k1 : Nat) : Int) < ((v3.length : Nat) : Int))) = true := ddt (by omega)
 refine wcr (wlq (pls R R) R (wnt (wcs (wft R c1 (wck (wqt (wcs (wcb (wcr (mv R R (asg R R (wnt (wcs (wcd [own (sl x2.1) x2.2 v3, box b1 [iv a_q.Width, iv a_q.Height, (sl v0a)]] 14 mixed (aq 0 R (pom R) so2 R (aq 1 R (pom R) so2 R (aq 2 R (po_ixn (k := k1) (rgo pz) el_27 R R hk1) so2 R (wa_elem (rgo pz) hk1 ?_))))))))))))))))))
 rintro ⟨_, _, he1⟩
 obtain ⟨w1, hc1, _⟩ := rd_GBlock.1 he1
 refine aq (v := .agg #[iv ((gx v3 k1).Size), (sl w1)]) 3 R (po_ldns (rgo pz) tk_44 R hc1 R R R) so2 R (aq 4 R (pom R) so2 R (aq (v := .agg #[iv a_q.Width, iv a_q.Height, (sl v0a)]) 5 R (plb tk_26 pk1 R R R) so2 R (aq 6 R (pom R) so2 R (aq 7 R (pom R) so2 R (aq 8 R (pom R) so2 R (a1 9 (bdO t1 fun v4 hv4 t1 => (wsc R (cz0 fa_21 R fun w hw => c_impl_shifted w a_q v0a (ra r0 hw) ((k1 : Nat) : Int) a_dx a_dy hv4) (fun _ => (zt so2)) R fun _ => (gdO t1 fun g2 t1 => (aq 10 R (po_ixr (rgo pz) el_27 R R g2.1 g2.2) so2 R (wa_elem (rgo pz) (ix_lt g2) ?_)))))))))))
 rintro ⟨_, _, he2⟩
 obtain ⟨w2, hc2, _⟩ := rd_GBlock.1 he2
 refine aq (v := .agg #[iv ((gx v3 ((v4).toNat)).Size), (sl w2)]) 11 R (po_ldns (rgo pz) tk_44 R hc2 R R R) so2 R (a1 12 (bdO t1 fun v5 hv5 t1 => (wsc R (cz0 fa_20 R fun w hw => c_impl_SameBlock w (gx v3 k1) w1 (Rg.on (er_GBlock_0 hc1 (rgo pz) hk1) hw) (gx v3 ((v4).toNat)) w2 (Rg.on (er_GBlock_0 hc2 (rgo pz) (ix_lt g2)) hw) hv5) (fun _ => (zt so2)) R fun _ => (aq 13 R (po_not R) so2 R (ae (wqt (wcO t1 R (fun h3 t1 => ?_) fun h3 t1 => ?_)))))))
 refine wcr (asg R R (wnt (wct (wbr (wqr (wqr (wbr (wqr (wqr ?_)))))))))
 replace t0 := lpR t0 l1 t1
 obtain rfl := oi t0
 exact wq1 R R fun w hw => ⟨R, hw.weak zn⟩
 refine wck (wqb (wqt (wcg (wlq (po_inc R R (by omega)) R ?_))))
 exact mv R R (wln (wq_rnd hk1 (stpN l1 t1) () (su6 R R R R R R) so2))
 have c1 : (decide (((k1 : Nat) : Int) < ((v3.length : Nat) : Int))) = false := ddf (by omega)
 have en1 := foe l1 hk1
 exact wcr (wlq (pls R R) R (wnt (wcs (wff R c1 (wcx (wqe (wqe (wbx (wjm _ () en1 yn zn)))))))))
 intro e1 _ hp
 replace t0 := sqE (j := e1) t0 hp
 refine wqt (wcr (asg R R (wnt (wct ?_))))
 obtain rfl := oi t0
 exact wq1 R R fun w hw => ⟨R, hw.weak zn⟩

theorem c_impl_ShiftsOf (w : World) (a_q : GQuilt) (v0a : Hd) (r0 : rdF w (dm w []) (sl v0a) a_q.Spots) (a_blocks : List GBlock) (v1a : Hd) (u1a : List Value) (r1 : RdL w (dm w []) (sl v1a) u1a a_blocks) {r : List (List Int)} (t0 : impl_ShiftsOf a_q a_blocks = some r) : Calls Try.prog 6 #[.agg #[.int .i64 a_q.Width, .int .i64 a_q.Height, (sl v0a)], (sl v1a)] w fun e w' => ∃ x : Hd × (List Value), e = .returned ((sl x.1)) ∧ SH w [] [own (sl x.1) x.2 r] w' := by
 refine cwc (args := [_, _]) Try.func6 R Try.ntmps6 R ?_
 unfold impl_ShiftsOf at t0
 refine wcr (wle (eo_box R R) R fun b1 => (asg R R (wnt (wcs (wcr (wlq (v := .agg #[iv a_q.Width, iv a_q.Height, (sl v0a)]) (plb tk_26 pz R R R) R (mv R R (bdO t0 fun v1 hv1 t0 => (wlc (cz0 fa_17 R fun w hw => c_impl_QuiltOk w a_q v0a (ra r0 hw) a_blocks v1a u1a (ra r1 hw) hv1) R fun _ => (wlq (po_not R) R (wnt (wcO t0 R (fun h1 t0 => ?_) fun h1 t0 => ?_))))))))))))
 refine wcr (asg R R (wnt (wct (wqr ?_))))
 obtain rfl := oi t0
 exact wq1 R R fun w hw => ⟨(hn, []), R, hw.weak (zc pick_nil zn)⟩
 refine wck (wqt (wcr (wle (ebs R sb_30_0) R fun b2 => (asg R R (wnt (wcs (wcr (wlq (pof fo_26_1 R) R (wlq (v := iv a_q.Height) (plx tk_3 pk1 R R) R (mv R R (wnt (gdO t0 fun g1 t0 => (lpO_inv t0 fun y1 l1 t0 => (wj (J := List (List Int)) (X := Hd × (List Value)) (fun z => y1 = z) (fun _ x => [(5, (sl x.1))]) (fun z x => [own (sl x.1) x.2 z]) ?_ ?_))))))))))))))
 refine wcb (wcf (X := Hd × (List Value)) l1 (fun k1 s1 x1l => [(1, (sl v1a)), (2, ptr b1 0), (5, (sl x1l.1)), (14, iv a_q.Height), (15, iv ((k1 : Nat) : Int))]) (fun k1 s1 x1l => [box b1 [iv a_q.Width, iv a_q.Height, (sl v0a)], own (sl x1l.1) x1l.2 s1]) ((⟨some ⟨b2, 0, none⟩, 0, 0⟩ : Hd), []) (su5 R R R R R) (zc pk1 (zc (pick_box_nil pz) zn)) fun k1 s1 x1l hN1 l1 => ?_)
 by_cases hk1 : k1 < (a_q.Height).toNat
 refine fos l1 hk1 fun _ t1 l1 => ?_
 unfold impl_ShiftsOf_L1 at t1
 have c1 : (decide (((k1 : Nat) : Int) < a_q.Height)) = true := ddt (by omega)
 refine wcr (wlq (pls R R) R (wnt (wcs (wft R c1 (wck (wqt (wcs (wcb (wcr (mv R R (asg R R (wnt (wcr (wlq (pof fo_26_0 R) R (wlq (v := iv a_q.Width) (plx tk_3 pz R R) R (mv R R (wnt (gdO t1 fun g2 t1 => (lpO_inv t1 fun y2 l2 t1 => (wj (J := List (List Int)) (X := Hd × (List Value)) (fun z => y2 = z) (fun _ x => [(1, (sl v1a)), (2, ptr b1 0), (5, (sl x.1)), (14, iv a_q.Height), (15, iv ((k1 : Nat) : Int))]) (fun z x => [box b1 [iv a_q.Width, iv a_q.Height, (sl v0a)], own (sl x.1) x.2 z]) ?_ ?_))))))))))))))))))))
 refine wcb (wcf (X := Hd × (List Value)) l2 (fun k2 s2 x2l => [(1, (sl v1a)), (2, ptr b1 0), (5, (sl x2l.1)), (6, iv ((k1 : Nat) : Int)), (14, iv a_q.Height), (15, iv ((k1 : Nat) : Int)), (19, iv a_q.Width), (20, iv ((k2 : Nat) : Int))]) (fun k2 s2 x2l => [box b1 [iv a_q.Width, iv a_q.Height, (sl v0a)], own (sl x2l.1) x2l.2 s2]) (x1l.1, x1l.2) (su8 R R R R R R R R) so2 fun k2 s2 x2l hN2 l2 => ?_)
 by_cases hk2 : k2 < (a_q.Width).toNat
 refine fos l2 hk2 fun _ t2 l2 => ?_
 unfold impl_ShiftsOf_L2 at t2
 have c2 : (decide (((k2 : Nat) : Int) < a_q.Width)) = true := ddt (by omega)
 refine wcr (wlq (pls R R) R (wnt (wcs (wft R c2 (wck (wqt (wcs (wcb (wcr (mv R R (asg R R (wnt (wcr (wlq (v := .agg #[iv a_q.Width, iv a_q.Height, (sl v0a)]) (plb tk_26 pz R R R) R (mv R R (mv R R (mv R R (bdO t2 fun v2 hv2 t2 => (wlc (cz0 fa_8 R fun w hw => c_impl_HasShift w a_q v0a (ra r0 hw) a_blocks v1a u1a (ra r1 hw) ((k2 : Nat) : Int) ((k1 : Nat) : Int) hv2) R fun _ => (wnt (bdO t2 fun y3 t3 t2 => (wj (J := List (List Int)) (X := Hd × (List Value)) (fun z => y3 = z) (fun _ x => [(1, (sl v1a)), (2, ptr b1 0), (5, (sl x.1)), (6, iv ((k1 : Nat) : Int)), (14, iv a_q.Height), (15, iv ((k1 : Nat) : Int)), (19, iv a_q.Width), (20, iv ((k2 : Nat) : Int))]) (fun z x => [box b1 [iv a_q.Width, iv a_q.Height, (sl v0a)], own (sl x.1) x.2 z]) ?_ ?_))))))))))))))))))))))
 refine wcO t3 R (fun h2 t3 => ?_) fun h2 t3 => ?_
 refine wcg (mv R R (mv R R (mv R R (wle (ebs R (sb_34_2 ((k2 : Nat) : Int) ((k1 : Nat) : Int))) R fun b3 => (wle (ebs R (sb_30_1 (⟨some ⟨b3, 0, none⟩, 2, 2⟩ : Hd))) R fun b4 => (gdO t3 fun g3 t3 => (wle (eo_append_one (us := x2l.2) (xs := s2) ak_30 pk3 (pow_LF (pbo pk1 (n := 2) (xs := ([((k2 : Nat) : Int), ((k1 : Nat) : Int)] : List Int)) R R (by unfold maxLen; omega))) pz R R R g3) R fun x4 => ?_)))))))
 exact asg R R (wln (wjm _ (x4, (x2l.2 ++ [(sl (⟨some ⟨b3, 0, none⟩, 2, 2⟩ : Hd))])) (mtE t3) (su8 R R R R R R R R) (zc pk2 so1)))
 exact wck (wjm _ (x2l.1, x2l.2) (mtE t3) (su8 R R R R R R R R) so2)
 intro j1 x3 hp
 obtain rfl : j1 = y3 := hp.symm
 refine wqb (wqt (wcg (wlq (po_inc R R (by omega)) R ?_)))
 exact mv R R (wln (wq_rnd hk2 (stpN l2 t2) (x3.1, x3.2) (su8 R R R R R R R R) so2))
 have c2 : (decide (((k2 : Nat) : Int) < a_q.Width)) = false := ddf (by omega)
 have en1 := foe l2 hk2
 exact wcr (wlq (pls R R) R (wnt (wcs (wff R c2 (wcx (wqe (wqe (wbx (wjm _ (x2l.1, x2l.2) (Sum.inl.inj en1) (su5 R R R R R) so2)))))))))
 intro e2 x2 hp
 obtain rfl : e2 = y2 := hp.symm
 refine wqb (wqt (wcg (wlq (po_inc R R (by omega)) R ?_)))
 exact mv R R (wln (wq_rnd hk1 (stpN l1 t1) (x2.1, x2.2) (su5 R R R R R) so2))
 have c1 : (decide (((k1 : Nat) : Int) < a_q.Height)) = false := ddf (by omega)
 have en2 := foe l1 hk1
 exact wcr (wlq (pls R R) R (wnt (wcs (wff R c1 (wcx (wqe (wqe (wbx (wjm _ (x1l.1, x1l.2) (Sum.inl.inj en2) (su1 R) (zc pk1 zn))))))))))
 intro e1 x1 hp
 obtain rfl : e1 = y1 := hp.symm
 refine wqt (wcr (mv R R (asg R R (wnt (wct ?_)))))
 obtain rfl := oi t0
 exact wq1 R R fun w hw => ⟨(x1.1, x1.2), R, hw.weak so1⟩

theorem c_impl_CountMotifs (w : World) (a_q : GQuilt) (v0a : Hd) (r0 : rdF w (dm w []) (sl v0a) a_q.Spots) (a_blocks : List GBlock) (v1a : Hd) (u1a : List Value) (r1 : RdL w (dm w []) (sl v1a) u1a a_blocks) {r : Int} (t0 : impl_CountMotifs a_q a_blocks = some r) : Calls Try.prog 7 #[.agg #[.int .i64 a_q.Width, .int .i64 a_q.Height, (sl v0a)], (sl v1a)] w fun e w' => e = .returned (.int .i64 r) ∧ SH w [] [] w' := by
 refine cwc (args := [_, _]) Try.func7 R Try.ntmps7 R ?_
 unfold impl_CountMotifs at t0
 refine wcr (wle (eo_box R R) R fun b1 => (asg R R (wnt (wcs (wcr (wlq (v := .agg #[iv a_q.Width, iv a_q.Height, (sl v0a)]) (plb tk_26 pz R R R) R (mv R R (bdO t0 fun v1 hv1 t0 => (wlc (cz0 fa_17 R fun w hw => c_impl_QuiltOk w a_q v0a (ra r0 hw) a_blocks v1a u1a (ra r1 hw) hv1) R fun _ => (wlq (po_not R) R (wnt (wcO t0 R (fun h1 t0 => ?_) fun h1 t0 => ?_))))))))))))
 refine wcr (asg R R (wnt (wct (wqr ?_))))
 obtain rfl := oi t0
 exact wq1 R R fun w hw => ⟨R, hw.weak zn⟩
 refine wck (wqt (wcs (wcd [box b1 [iv a_q.Width, iv a_q.Height, (sl v0a)]] 9 mixed (aq 0 R (pof fo_26_2 R) so1 R (aq (v := (sl v0a)) 1 R (plx tk_24 pz R R) so1 R (aq 2 R (pln (rga r0) el_24 R) so1 R (aq (v := .agg #[iv a_q.Width, iv a_q.Height, (sl v0a)]) 3 R (plb tk_26 pz R R R) so1 R (aq 4 R (pom R) so1 R (a1 5 (bdO t0 fun v2 hv2 t0 => (wsc R (cz1 fa_6 R fun w hw => c_impl_ShiftsOf w a_q v0a (ra r0 hw) a_blocks v1a u1a (ra r1 hw) hv2) (fun _ => (zt (zc pk1 zn))) R fun x1 => (a1 6 (ws_pure R (pln (rgo pz) el_30 R) (zt (zc pk1 zn)) R (gdO t0 fun g1 t0 => (aq 7 R (po_quo R R g1) (zc pk1 zn) R (aq 8 R (po_assign R) (zc pk1 zn) R (ae (wqt (wct ?_)))))))))))))))))))
 obtain rfl := oi t0
 exact wq1 R R fun w hw => ⟨R, hw.weak zn⟩

theorem c_laws_at (w : World) (a_code : List UInt8) (v0a : Hd) (r0 : rdF w (dm w []) (sl v0a) a_code) (a_i : Int) {r : Int} (t0 : laws_at a_code a_i = some r) : Calls Try.prog 9 #[(sl v0a), .int .i64 a_i] w fun e w' => e = .returned (.int .i64 r) ∧ SH w [] [] w' := by
 refine cwc (args := [_, _]) Try.func9 R Try.ntmps9 R ?_
 unfold laws_at at t0
 refine wcr (asg R R (wnt (wcs (wcr (mv R R (wlq (pln (rga r0) el_22 R) R (wlq (pol R R) R (wnt (wcO t0 R (fun h1 t0 => ?_) fun h1 t0 => ?_)))))))))
 refine wcr (asg R R (wnt (wct (wqr ?_))))
 obtain rfl := oi t0
 exact wq1 R R fun w hw => ⟨R, hw.weak zn⟩
 refine wck (wqt (wcr (mv R R (mv R R (wlq (po_mul R R) R (wlq (po_add R R) R (mv R R (wlq (pln (rga r0) el_22 R) R (gdO t0 fun g1 t0 => (wlq (po_rem R R g1) R (gdO t0 fun g2 t0 => (wlq (po_ixr (rga r0) el_22 R R g2.1 g2.2) R (wlq (v := .int .u8 ((gx a_code ((((wr ((wr (a_i * 5)) + 1)).tmod ((a_code.length : Nat) : Int))).toNat)).toNat : Int)) (po_ldf (rga r0) tk_5 R (ix_lt g2) R) R (wlq (po_u8int isU8_5 isInt_3 R) R (asg R R (wnt (wct ?_)))))))))))))))))
 obtain rfl := oi t0
 exact wq1 R R fun w hw => ⟨R, hw.weak zn⟩

theorem c_impl_Quilt_copied (w : World) (a_q : GQuilt) (v0a : Hd) (r0 : rdF w (dm w []) (sl v0a) a_q.Spots) {r : GQuilt} (t0 : impl_Quilt_copied a_q = some r) : Calls Try.prog 22 #[.agg #[.int .i64 a_q.Width, .int .i64 a_q.Height, (sl v0a)]] w fun e w' => ∃ x : Hd, e = .returned (.agg #[.int .i64 r.Width, .int .i64 r.Height, (sl x)]) ∧ SH w [] [ownF (sl x) r.Spots] w' := by
 refine cwc (args := [_]) Try.func22 R Try.ntmps22 R ?_
 unfold impl_Quilt_copied at t0
 refine wcr (wle (eo_box R R) R fun b1 => (wle (eal (cs := [iv 0, iv 0, (sl hn)]) za_26) R fun b2 => (wnt (wcs (wcd [box b2 [iv 0, iv 0, (sl hn)], box b1 [iv a_q.Width, iv a_q.Height, (sl v0a)]] 9 mixed (aq 0 R (pof fo_26_0 R) so2 R (aq (v := iv a_q.Width) 1 R (plx tk_3 pk1 R R) so2 R (aq 2 R (pof fo_26_1 R) so2 R (aq (v := iv a_q.Height) 3 R (plx tk_3 pk1 R R) so2 R (aq 5 R (pof fo_26_2 R) so2 R (aq (v := (sl v0a)) 6 R (plx tk_24 pk1 R R) so2 R (a1 4 (wse R (ebs R sb_24_0) (fun _ => (zt (zc pk1 (zc pk1 zn)))) R fun b3 => (a1 7 (gdO t0 fun g1 t0 => (wse R (eo_append (xs := ([] : List GSpot)) (ys := a_q.Spots) ak_24 (pbo pz (n := 0) (xs := ([] : List GSpot)) R R (by unfold maxLen; omega)) R R (slin_rd fun _ g => Rg.on (rga r0) g) g1) (fun _ => (zt (zc pk1 (zc pk1 zn)))) R fun x1 => ?_))))))))))))))))
 refine aq 8 R (po_build R (bd_26_0_1_2 a_q.Width a_q.Height x1)) (zc pk1 (zc pk1 zn)) R (a1 9 (ws_skipop R (sbx (cs' := [iv a_q.Width, iv a_q.Height, (sl x1)]) tk_26 pk1 R R R R R R R) (sts_past (by kernel_rfl)) ?_))
 refine ae (wqt (wct ?_))
 obtain rfl := oi t0
 exact wqc R tk_26 R pz R fun w hw => ⟨x1, R, hw.weak (zc pk1 zn)⟩

theorem c_impl_ShiftQuilt (w : World) (a_q : GQuilt) (v0a : Hd) (r0 : rdF w (dm w []) (sl v0a) a_q.Spots) (a_blocks : List GBlock) (v1a : Hd) (u1a : List Value) (r1 : RdL w (dm w []) (sl v1a) u1a a_blocks) (a_dx : Int) (a_dy : Int) {r : GQuilt × Bool} (t0 : impl_ShiftQuilt a_q a_blocks a_dx a_dy = some r) : Calls Try.prog 10 #[.agg #[.int .i64 a_q.Width, .int .i64 a_q.Height, (sl v0a)], (sl v1a), .int .i64 a_dx, .int .i64 a_dy] w fun e w' => ∃ x : Hd, e = .returned (.tuple #[.agg #[.int .i64 r.1.Width, .int .i64 r.1.Height, (sl x)], .bool r.2]) ∧ SH w [] [ownF (sl x) r.1.Spots] w' := by
 refine cwc (args := [_, _, _, _]) Try.func10 R Try.ntmps10 R ?_
 unfold impl_ShiftQuilt at t0
 refine wcr (wle (eo_box R R) R fun b1 => (wle (eal (cs := [iv 0, iv 0, (sl hn)]) za_26) R fun b2 => (asg R R (wnt (wcr (wlq (v := .agg #[iv a_q.Width, iv a_q.Height, (sl v0a)]) (plb tk_26 pk1 R R R) R (bdO t0 fun v1 hv1 t0 => (wlc (cz1 fa_22 R fun w hw => c_impl_Quilt_copied w a_q v0a (ra r0 hw) hv1) R fun x1 => (wle (eal (cs := [iv 0, iv 0, (sl hn)]) za_26) R fun b3 => (wls (sbx (cs' := [iv v1.Width, iv v1.Height, (sl x1)]) tk_26 pz R R R R R R R) (wnt (wcs (wcs (bdO t0 fun y1 t1 t0 => (wj (J := Bool) (X := Unit) (fun z => y1 = z) (fun z _ => [(2, iv a_dx), (3, iv a_dy), (4, ptr b1 0), (8, ptr b2 0), (10, ptr b3 0), (24, .bool z)]) (fun _ _ => [box b3 [iv v1.Width, iv v1.Height, (sl x1)], box b2 [iv 0, iv 0, (sl hn)], box b1 [iv a_q.Width, iv a_q.Height, (sl v0a)], ownF (sl x1) v1.Spots]) ?_ ?_)))))))))))))))
 refine wcg (wlq (v := .agg #[iv a_q.Width, iv a_q.Height, (sl v0a)]) (plb tk_26 pk3 R R R) R (mv R R (bdO t1 fun v2 hv2 t1 => (wlc (cz0 fa_17 R fun w hw => c_impl_QuiltOk w a_q v0a (ra r0 hw) a_blocks v1a u1a (ra r1 hw) hv2) R fun _ => (wlq (po_not R) R (mv R R (wlo (t := 18) t1 R (fun h1 t1 => ?_) fun h1 t1 => ?_)))))))
 exact wgf (j := 4) R R R R R (wgf (j := 4) R R R R R (wgf (j := 4) R R R R R (wgf (j := 4) R R R R R (wgf (j := 4) R R R R R (wlq (pit R R) R (wln (wjm _ () (mtE t1) (su6 R R R R R R) (zc pz (zc pk1 (zc pk1 so1))))))))))
 exact wgn (j := 4) R R R (wlq (v := .agg #[iv a_q.Width, iv a_q.Height, (sl v0a)]) (plb tk_26 pk3 R R R) R (wgn (j := 4) R R R (mv R R (wgn (j := 4) R R R (mv R R (bdO t1 fun v3 hv3 t1 => (wgn (j := 4) R R R (wlc (cz0 fa_18 R fun w hw => c_impl_isShift w a_q v0a (ra r0 hw) a_dx a_dy hv3) R (fun _ => (wgn (j := 4) R R R (wlq (po_not R) R (wlq (pif R R) R (wln (wjm _ () (mtE t1) (su6 R R R R R R) (zc pz (zc pk1 (zc pk1 so1)))))))))))))))))
 intro j1 _ hp
 obtain rfl : j1 = y1 := hp.symm
 refine wqt (wcO t0 R (fun h2 t0 => ?_) fun h2 t0 => ?_)
 refine wcr (wlq (v := .agg #[iv v1.Width, iv v1.Height, (sl x1)]) (plb tk_26 pz R R R) R (wls (sbx (cs' := [iv v1.Width, iv v1.Height, (sl x1)]) tk_26 pk1 R R R R R R R) (asg R R (wnt (wct (wqr ?_))))))
 obtain rfl := oi t0
 exact wq_retc1 R tk_26 R R pz R fun w hw => ⟨x1, R, hw.weak (zc pk3 zn)⟩
 refine wck (wqt (wcs (wcr (wlq (pof fo_26_2 R) R (wlq (v := (sl x1)) (plx tk_24 pz R R) R (wlq (pln (rgo pk3) el_24 R) R (mv R R (wnt (gdO t0 fun g1 t0 => (lpO_inv t0 fun y1 l1 t0 => (wj (J := List GSpot) (X := Unit) (fun z => y1 = z) (fun _ _ => [(8, ptr b2 0), (10, ptr b3 0)]) (fun z _ => [box b3 [iv v1.Width, iv v1.Height, (sl x1)], box b2 [iv 0, iv 0, (sl hn)], ownF (sl x1) z]) ?_ ?_)))))))))))
 refine wcb (wcf (X := Unit) l1 (fun k1 s1 x1l => [(2, iv a_dx), (3, iv a_dy), (4, ptr b1 0), (8, ptr b2 0), (10, ptr b3 0), (28, iv ((v1.Spots.length : Nat) : Int)), (29, iv ((k1 : Nat) : Int))]) (fun k1 s1 x1l => [box b3 [iv v1.Width, iv v1.Height, (sl x1)], box b2 [iv 0, iv 0, (sl hn)], box b1 [iv a_q.Width, iv a_q.Height, (sl v0a)], ownF (sl x1) s1]) () (su7 R R R R R R R) so4 fun k1 s1 x1l hN1 l1 => ?_)
 by_cases hk1 : k1 < v1.Spots.length
 refine fos l1 hk1 fun _ t1 l1 => ?_
 unfold impl_ShiftQuilt_L1 at t1
 have c1 : (decide (((k1 : Nat) : Int) < ((v1.Spots.length : Nat) : Int))) = true := ddt (by omega)
 refine wcr (wlq (pls R R) R (wnt (wcs (wft R c1 (wck (wqt (wcs (wcb (wcr (mv R R (asg R R (wnt (wcd [box b3 [iv v1.Width, iv v1.Height, (sl x1)], box b2 [iv 0, iv 0, (sl hn)], box b1 [iv a_q.Width, iv a_q.Height, (sl v0a)], ownF (sl x1) s1] 13 mixed (aq 0 R (pof fo_26_2 R) so4 R (aq (v := (sl x1)) 1 R (plx tk_24 pz R R) so4 R (aq 2 R (pom R) so4 R (aq 3 R (pof fo_26_2 R) so4 R (aq (v := (sl v0a)) 4 R (plx tk_24 pk2 R R) so4 R (aq (v := .agg #[iv a_q.Width, iv a_q.Height, (sl v0a)]) 5 R (plb tk_26 pk2 R R R) so4 R (aq 6 R (pom R) so4 R (aq 7 R (pom R) so4 R (aq 8 R (pom R) so4 R (a1 9 (bdO t1 fun v4 hv4 t1 => (wsc R (cz0 fa_21 R fun w hw => c_impl_shifted w a_q v0a (ra r0 hw) ((k1 : Nat) : Int) a_dx a_dy hv4) (fun _ => (zt so4)) R fun _ => (gdO t1 fun g2 t1 => (aq 10 R (po_ixr (rga r0) el_24 R R g2.1 g2.2) so4 R (aq (v := .agg #[iv ((gx a_q.Spots ((v4).toNat)).Block), iv ((gx a_q.Spots ((v4).toNat)).Seen)]) 11 R (po_ldfs (rga r0) tk_40 R (ix_lt g2) R R R) so4 R (gdO t1 fun g3 t1 => (aq 12 R (po_ixn (k := k1) (rgo pk3) el_24 R R g3) so4 R (a1 13 (ws_skipop R (so_own (x' := (gx a_q.Spots ((v4).toNat))) tk_40 pk3 R R R R R R g3 R) (sts_past (by kernel_rfl)) ?_))))))))))))))))))))))))))))))))
 refine ae (wqb (wqt (wcg (wlq (po_inc R R (by omega)) R ?_))))
 exact mv R R (wln (wq_rnd hk1 (stpN l1 t1) () (su7 R R R R R R R) (zc pk1 (zc pk1 (zc pk1 so1)))))
 have c1 : (decide (((k1 : Nat) : Int) < ((v1.Spots.length : Nat) : Int))) = false := ddf (by omega)
 have en1 := foe l1 hk1
 exact wcr (wlq (pls R R) R (wnt (wcs (wff R c1 (wcx (wqe (wqe (wbx (wjm _ () (Sum.inl.inj en1) (su2 R R) (zc pz (zc pz (zc pk1 zn))))))))))))
 intro e1 _ hp
 obtain rfl : e1 = y1 := hp.symm
 refine wqt (wcr (wlq (v := .agg #[iv v1.Width, iv v1.Height, (sl x1)]) (plb tk_26 pz R R R) R (wls (sbx (cs' := [iv v1.Width, iv v1.Height, (sl x1)]) tk_26 pk1 R R R R R R R) (asg R R (wnt (wct ?_))))))
 obtain rfl := oi t0
 exact wq_retc1 R tk_26 R R pz R fun w hw => ⟨x1, R, hw.weak (zc pk2 zn)⟩

theorem c_impl_isLess (w : World) (a_a : List GSpot) (v0a : Hd) (r0 : rdF w (dm w []) (sl v0a) a_a) (a_b : List GSpot) (v1a : Hd) (r1 : rdF w (dm w []) (sl v1a) a_b) {r : Bool} (t0 : impl_isLess a_a a_b = some r) : Calls Try.prog 23 #[(sl v0a), (sl v1a)] w fun e w' => e = .returned (.bool r) ∧ SH w [] [] w' := by
 refine cwc (args := [_, _]) Try.func23 R Try.ntmps23 R ?_
 unfold impl_isLess at t0
 refine wcr (asg R R (wnt (wcs (wcr (mv R R (wlq (pln (rga r0) el_24 R) R (mv R R (wnt (gdO t0 fun g1 t0 => (sqO t0 fun y1 l1 t0 => (wj (J := Unit) (X := Unit) (fun z => y1 = .inl z) (fun _ _ => []) (fun _ _ => []) ?_ ?_)))))))))))
 refine wcb (wcf (X := Unit) l1 (fun k1 s1 x1l => [(0, (sl v0a)), (1, (sl v1a)), (7, iv ((a_a.length : Nat) : Int)), (8, iv ((k1 : Nat) : Int))]) (fun k1 s1 x1l => []) () (su4 R R R R) zn fun k1 s1 x1l hN1 l1 => ?_)
 by_cases hk1 : k1 < a_a.length
 refine fos l1 hk1 fun _ t1 l1 => ?_
 unfold impl_isLess_L1 at t1
 have c1 : (decide (((k1 : Nat) : Int) < ((a_a.length : Nat) : Int))) = true := ddt (by omega)
 refine wcr (wlq (pls R R) R (wnt (wcs (wft R c1 (wck (wqt (wcs (wcb (wcr (mv R R (asg R R (wnt (wcs (wcd [] 9 mixed (aq 0 R (pom R) zn R (aq 1 R (pom R) zn R (aq 2 R (po_ixn (k := k1) (rga r0) el_24 R R hk1) zn R (aq (v := .agg #[iv ((gx a_a k1).Block), iv ((gx a_a k1).Seen)]) 3 R (po_ldfs (rga r0) tk_40 R hk1 R R R) zn R (aq 4 R (pom R) zn R (aq 5 R (pom R) zn R (gdO t1 fun g2 t1 => (aq 6 R (po_ixn (k := k1) (rga r1) el_24 R R g2) zn R (aq (v := .agg #[iv ((gx a_b k1).Block), iv ((gx a_b k1).Seen)]) 7 R (po_ldfs (rga r1) tk_40 R g2 R R R) zn R (aq 8 R (po_neq_struct (ps := [(gx a_a k1).Block, (gx a_a k1).Seen]) (qs := [(gx a_b k1).Block, (gx a_b k1).Seen]) sq_40 R R R R) zn R (ae (wqt (wcO t1 R (fun h1 t1 => ?_) fun h1 t1 => ?_)))))))))))))))))))))))))))
 refine wcs (wcj (X := Unit) (fun _ => True) (fun _ => [(4, .bool ((decide ((gx a_a k1).Block < (gx a_b k1).Block)) || (((gx a_a k1).Block == (gx a_b k1).Block) && (decide ((gx a_a k1).Seen < (gx a_b k1).Seen)))))]) (fun _ => []) ?_ ?_)
 refine wcd [] 38 mixed (aq 0 R (pom R) zn R (aq 1 R (pom R) zn R (aq 2 R (po_ixn (k := k1) (rga r0) el_24 R R hk1) zn R (aq 3 R (po_sfldr (rga r0) hk1 fo_40_0 R) zn R (aq (v := iv ((gx a_a k1).Block)) 4 R (po_ldf (rga r0) tk_3 R hk1 R) zn R (aq 5 R (pom R) zn R (aq 6 R (pom R) zn R (aq 7 R (po_ixn (k := k1) (rga r1) el_24 R R g2) zn R (aq 8 R (po_sfldr (rga r1) g2 fo_40_0 R) zn R (aq (v := iv ((gx a_b k1).Block)) 9 R (po_ldf (rga r1) tk_3 R g2 R) zn R (aq 10 R (pls R R) zn R (aq 11 R (pom R) zn R (wa_fork (t := 31) R (fun h2 => ?_) fun h2 => ?_)))))))))))))
 exact af 12 11 R R R R R zn R (af 13 11 R R R R R zn R (af 14 11 R R R R R zn R (af 15 11 R R R R R zn R (af 16 11 R R R R R zn R (af 17 11 R R R R R zn R (af 18 11 R R R R R zn R (af 19 11 R R R R R zn R (af 20 11 R R R R R zn R (af 21 11 R R R R R zn R (af 22 11 R R R R R zn R (af 23 11 R R R R R zn R (au 24 23 R R R R zn R (au 25 23 R R R R zn R (au 26 23 R R R R zn R (au 27 23 R R R R zn R (au 28 23 R R R R zn R (au 29 23 R R R R zn R (au 30 23 R R R R zn R (au 31 23 R R R R zn R (au 32 23 R R R R zn R (au 33 23 R R R R zn R (au 34 23 R R R R zn R (af 35 11 R R R R R zn R (aq 36 R (pit R R) zn R (aq 37 R (po_assign R) zn R (ae (wqm () trivial (sub_b R (by rw [h2]; rfl) yn) zn)))))))))))))))))))))))))))
 refine an 12 11 R R R R (pom R) zn R (an 13 11 R R R R (pom R) zn R (an 14 11 R R R R (po_ixn (k := k1) (rga r0) el_24 R R hk1) zn R (an 15 11 R R R R (po_sfldr (rga r0) hk1 fo_40_0 R) zn R (an (v := iv ((gx a_a k1).Block)) 16 11 R R R R (po_ldf (rga r0) tk_3 R hk1 R) zn R (an 17 11 R R R R (pom R) zn R (an 18 11 R R R R (pom R) zn R (an 19 11 R R R R (po_ixn (k := k1) (rga r1) el_24 R R g2) zn R (an 20 11 R R R R (po_sfldr (rga r1) g2 fo_40_0 R) zn R (an (v := iv ((gx a_b k1).Block)) 21 11 R R R R (po_ldf (rga r1) tk_3 R g2 R) zn R (an 22 11 R R R R (pol R R) zn R (an 23 11 R R R R (pom R) zn R (wa_fork (t := 43) R (fun h3 => ?_) fun h3 => ?_))))))))))))
 exact an 24 23 R R R R (pom R) zn R (an 25 23 R R R R (pom R) zn R (an 26 23 R R R R (po_ixn (k := k1) (rga r0) el_24 R R hk1) zn R (an 27 23 R R R R (po_sfldr (rga r0) hk1 fo_40_1 R) zn R (an (v := iv ((gx a_a k1).Seen)) 28 23 R R R R (po_ldf (rga r0) tk_3 R hk1 R) zn R (an 29 23 R R R R (pom R) zn R (an 30 23 R R R R (pom R) zn R (an 31 23 R R R R (po_ixn (k := k1) (rga r1) el_24 R R g2) zn R (an 32 23 R R R R (po_sfldr (rga r1) g2 fo_40_1 R) zn R (an (v := iv ((gx a_b k1).Seen)) 33 23 R R R R (po_ldf (rga r1) tk_3 R g2 R) zn R (an 34 23 R R R R (pls R R) zn R (an 35 11 R R R R (pit R R) zn R (aq 36 R (pif R R) zn R (aq 37 R (po_assign R) zn R (ae (wqm () trivial (sub_b R (by rw [h2, h3]; rfl) yn) zn)))))))))))))))
 exact af 24 23 R R R R R zn R (af 25 23 R R R R R zn R (af 26 23 R R R R R zn R (af 27 23 R R R R R zn R (af 28 23 R R R R R zn R (af 29 23 R R R R R zn R (af 30 23 R R R R R zn R (af 31 23 R R R R R zn R (af 32 23 R R R R R zn R (af 33 23 R R R R R zn R (af 34 23 R R R R R zn R (an 35 11 R R R R (pif R R) zn R (aq 36 R (pif R R) zn R (aq 37 R (po_assign R) zn R (ae (wqm () trivial (sub_b R (by rw [h2, h3]; rfl) yn) zn)))))))))))))))
 intro _ _
 refine wqt (wct (wbr (wqr (wqr (wbr (wqr (wqr ?_)))))))
 replace t0 := lpR t0 l1 t1
 obtain rfl := oi t0
 exact wq1 R R fun w hw => ⟨R, hw.weak zn⟩
 refine wck (wqb (wqt (wcg (wlq (po_inc R R (by omega)) R ?_))))
 exact mv R R (wln (wq_rnd hk1 (stpN l1 t1) () (su4 R R R R) zn))
 have c1 : (decide (((k1 : Nat) : Int) < ((a_a.length : Nat) : Int))) = false := ddf (by omega)
 have en1 := foe l1 hk1
 exact wcr (wlq (pls R R) R (wnt (wcs (wff R c1 (wcx (wqe (wqe (wbx (wjm _ () en1 yn zn)))))))))
 intro e1 _ hp
 replace t0 := sqE (j := e1) t0 hp
 refine wqt (wcr (asg R R (wnt (wct ?_))))
 obtain rfl := oi t0
 exact wq1 R R fun w hw => ⟨R, hw.weak zn⟩

theorem c_impl_LeastShift (w : World) (a_q : GQuilt) (v0a : Hd) (r0 : rdF w (dm w []) (sl v0a) a_q.Spots) (a_blocks : List GBlock) (v1a : Hd) (u1a : List Value) (r1 : RdL w (dm w []) (sl v1a) u1a a_blocks) {r : GQuilt} (t0 : impl_LeastShift a_q a_blocks = some r) : Calls Try.prog 11 #[.agg #[.int .i64 a_q.Width, .int .i64 a_q.Height, (sl v0a)], (sl v1a)] w fun e w' => ∃ x : Hd, e = .returned (.agg #[.int .i64 r.Width, .int .i64 r.Height, (sl x)]) ∧ SH w [] [ownF (sl x) r.Spots] w' := by
 refine cwc (args := [_, _]) Try.func11 R Try.ntmps11 R ?_
 unfold impl_LeastShift at t0
 refine wcr (wle (eo_box R R) R fun b1 => (wle (eal (cs := [iv 0, iv 0, (sl hn)]) za_26) R fun b2 => (wnt (wcr (wlq (v := .agg #[iv a_q.Width, iv a_q.Height, (sl v0a)]) (plb tk_26 pk1 R R R) R (bdO t0 fun v1 hv1 t0 => (wlc (cz1 fa_22 R fun w hw => c_impl_Quilt_copied w a_q v0a (ra r0 hw) hv1) R fun x1 => (wle (eal (cs := [iv 0, iv 0, (sl hn)]) za_26) R fun b3 => (wls (sbx (cs' := [iv v1.Width, iv v1.Height, (sl x1)]) tk_26 pz R R R R R R R) (wnt (wcs (wcr (wlq (v := .agg #[iv a_q.Width, iv a_q.Height, (sl v0a)]) (plb tk_26 pk3 R R R) R (mv R R (bdO t0 fun v2 hv2 t0 => (wlc (cz0 fa_17 R fun w hw => c_impl_QuiltOk w a_q v0a (ra r0 hw) a_blocks v1a u1a (ra r1 hw) hv2) R fun _ => (wlq (po_not R) R (wnt (wcO t0 R (fun h1 t0 => ?_) fun h1 t0 => ?_)))))))))))))))))))
 refine wcr (wlq (v := .agg #[iv v1.Width, iv v1.Height, (sl x1)]) (plb tk_26 pz R R R) R (wls (sbx (cs' := [iv v1.Width, iv v1.Height, (sl x1)]) tk_26 pk2 R R R R R R R) (wnt (wct (wqr ?_)))))
 obtain rfl := oi t0
 exact wqc R tk_26 R pz R fun w hw => ⟨x1, R, hw.weak (zc pk2 zn)⟩
 refine wck (wqt (wcs (wcr (wlq (pof fo_26_1 R) R (wlq (v := iv a_q.Height) (plx tk_3 pk3 R R) R (mv R R (wnt (gdO t0 fun g1 t0 => (lpO_inv t0 fun y1 l1 t0 => (wj (J := Int × Int × (List GSpot)) (X := Hd) (fun z => y1 = z) (fun _ _ => [(4, ptr b2 0), (5, ptr b3 0)]) (fun z x => [box b3 [iv z.1, iv z.2.1, (sl x)], ownF (sl x) z.2.2, box b2 [iv 0, iv 0, (sl hn)]]) ?_ ?_))))))))))
 refine wcb (wcf (X := Hd) l1 (fun k1 s1 x1l => [(1, (sl v1a)), (2, ptr b1 0), (4, ptr b2 0), (5, ptr b3 0), (18, iv a_q.Height), (19, iv ((k1 : Nat) : Int))]) (fun k1 s1 x1l => [box b3 [iv s1.1, iv s1.2.1, (sl x1l)], ownF (sl x1l) s1.2.2, box b2 [iv 0, iv 0, (sl hn)], box b1 [iv a_q.Width, iv a_q.Height, (sl v0a)]]) x1 (su6 R R R R R R) so4 fun k1 s1 x1l hN1 l1 => ?_)
 by_cases hk1 : k1 < (a_q.Height).toNat
 refine fos l1 hk1 fun _ t1 l1 => ?_
 unfold impl_LeastShift_L1 at t1
 have c1 : (decide (((k1 : Nat) : Int) < a_q.Height)) = true := ddt (by omega)
 refine wcr (wlq (pls R R) R (wnt (wcs (wft R c1 (wck (wqt (wcs (wcb (wcr (mv R R (asg R R (wnt (wcr (wlq (pof fo_26_0 R) R (wlq (v := iv a_q.Width) (plx tk_3 pk3 R R) R (mv R R (wnt (gdO t1 fun g2 t1 => (lpO_inv t1 fun y2 l2 t1 => (wj (J := Int × Int × (List GSpot)) (X := Hd) (fun z => y2 = z) (fun _ _ => [(1, (sl v1a)), (2, ptr b1 0), (4, ptr b2 0), (5, ptr b3 0), (18, iv a_q.Height), (19, iv ((k1 : Nat) : Int))]) (fun z x => [box b3 [iv z.1, iv z.2.1, (sl x)], ownF (sl x) z.2.2, box b2 [iv 0, iv 0, (sl hn)], box b1 [iv a_q.Width, iv a_q.Height, (sl v0a)]]) ?_ ?_))))))))))))))))))))
 refine wcb (wcf (X := Hd) l2 (fun k2 s2 x2l => [(1, (sl v1a)), (2, ptr b1 0), (4, ptr b2 0), (5, ptr b3 0), (6, iv ((k1 : Nat) : Int)), (18, iv a_q.Height), (19, iv ((k1 : Nat) : Int)), (23, iv a_q.Width), (24, iv ((k2 : Nat) : Int))]) (fun k2 s2 x2l => [box b3 [iv s2.1, iv s2.2.1, (sl x2l)], ownF (sl x2l) s2.2.2, box b2 [iv 0, iv 0, (sl hn)], box b1 [iv a_q.Width, iv a_q.Height, (sl v0a)]]) x1l (su9 R R R R R R R R R) so4 fun k2 s2 x2l hN2 l2 => ?_)
 by_cases hk2 : k2 < (a_q.Width).toNat
 refine fos l2 hk2 fun _ t2 l2 => ?_
 unfold impl_LeastShift_L2 at t2
 have c2 : (decide (((k2 : Nat) : Int) < a_q.Width)) = true := ddt (by omega)
 refine wcr (wlq (pls R R) R (wnt (wcs (wft R c2 (wck (wqt (wcs (wcb (wcr (mv R R (asg R R (wnt (wcr (wlq (v := .agg #[iv a_q.Width, iv a_q.Height, (sl v0a)]) (plb tk_26 pk3 R R R) R (mv R R (mv R R (mv R R (bdO t2 fun v3 hv3 t2 => (wlc (cz1 fa_10 R fun w hw => c_impl_ShiftQuilt w a_q v0a (ra r0 hw) a_blocks v1a u1a (ra r1 hw) ((k2 : Nat) : Int) ((k1 : Nat) : Int) hv3) R fun x4 => (mv R R (wlq (pex R R) R (wlq (pex R R) R (wle (eal (cs := [iv 0, iv 0, (sl hn)]) za_26) R fun b4 => (wls (sbx (cs' := [iv v3.1.Width, iv v3.1.Height, (sl x4)]) tk_26 pz R R R R R R R) (asg R R (wnt (wcr (wlq (pof fo_26_2 R) R (wlq (v := (sl x4)) (plx tk_24 pz R R) R (wlq (pof fo_26_2 R) R (wlq (v := (sl x2l)) (plx tk_24 pk2 R R) R (bdO t2 fun v4 hv4 t2 => (wlc (cz0 fa_23 R fun w hw => c_impl_isLess w v3.1.Spots x4 (Rg.on (rgo pk1) hw) s2.2.2 x2l (Rg.on (rgo pk3) hw) hv4) R fun _ => (wnt (wcj (X := Hd) (fun _ => True) (fun z => [(1, (sl v1a)), (2, ptr b1 0), (4, ptr b2 0), (5, ptr b3 0), (6, iv ((k1 : Nat) : Int)), (18, iv a_q.Height), (19, iv ((k1 : Nat) : Int)), (23, iv a_q.Width), (24, iv ((k2 : Nat) : Int))]) (fun z => [box b3 [iv ((bif v4 then v3.1 else (GQuilt.mk s2.1 s2.2.1 s2.2.2)).Width), iv ((bif v4 then v3.1 else (GQuilt.mk s2.1 s2.2.1 s2.2.2)).Height), (sl z)], box b2 [iv 0, iv 0, (sl hn)], box b1 [iv a_q.Width, iv a_q.Height, (sl v0a)], ownF (sl z) ((bif v4 then v3.1 else (GQuilt.mk s2.1 s2.2.1 s2.2.2)).Spots)]) ?_ ?_)))))))))))))))))))))))))))))))))))
 refine wc_cond R (fun h2 => ?_) fun h2 => ?_
 exact wcg (wlq (v := .agg #[iv v3.1.Width, iv v3.1.Height, (sl x4)]) (plb tk_26 pz R R R) R (wls (sbx (cs' := [iv v3.1.Width, iv v3.1.Height, (sl x4)]) tk_26 pk2 R R R R R R R) (wln (wqm x4 trivial (su9 R R R R R R R R R) (zc (by simp only [h2, cond_true]; exact pz) (zc pk3 (zc pk3 (zc (by simp only [h2, cond_true]; exact pk1) zn))))))))
 exact wck (wqm x2l trivial (su9 R R R R R R R R R) (zc (by simp only [h2, cond_false]; exact pk2) (zc pk3 (zc pk3 (zc (by simp only [h2, cond_false]; exact pk2) zn)))))
 intro x5 _
 refine wqb (wqt (wcg (wlq (po_inc R R (by omega)) R ?_)))
 exact mv R R (wln (wq_rnd hk2 (stpN l2 t2) x5 (su9 R R R R R R R R R) (zc pz (zc pk2 so2))))
 have c2 : (decide (((k2 : Nat) : Int) < a_q.Width)) = false := ddf (by omega)
 have en1 := foe l2 hk2
 exact wcr (wlq (pls R R) R (wnt (wcs (wff R c2 (wcx (wqe (wqe (wbx (wjm _ x2l (Sum.inl.inj en1) (su6 R R R R R R) so4)))))))))
 intro e2 x3 hp
 obtain rfl : e2 = y2 := hp.symm
 refine wqb (wqt (wcg (wlq (po_inc R R (by omega)) R ?_)))
 exact mv R R (wln (wq_rnd hk1 (stpN l1 t1) x3 (su6 R R R R R R) so4))
 have c1 : (decide (((k1 : Nat) : Int) < a_q.Height)) = false := ddf (by omega)
 have en2 := foe l1 hk1
 exact wcr (wlq (pls R R) R (wnt (wcs (wff R c1 (wcx (wqe (wqe (wbx (wjm _ x1l (Sum.inl.inj en2) (su2 R R) so3)))))))))
 intro e1 x2 hp
 obtain rfl : e1 = y1 := hp.symm
 refine wqt (wcr (wlq (v := .agg #[iv e1.1, iv e1.2.1, (sl x2)]) (plb tk_26 pz R R R) R (wls (sbx (cs' := [iv e1.1, iv e1.2.1, (sl x2)]) tk_26 pk2 R R R R R R R) (wnt (wct ?_)))))
 obtain rfl := oi t0
 exact wqc R tk_26 R pz R fun w hw => ⟨x2, R, hw.weak (zc pk2 zn)⟩

theorem c_spec_BlockOk (w : World) (a_b : GBlock) (v0a : Hd) (r0 : rdF w (dm w []) (sl v0a) a_b.Cells) {r : Bool} (t0 : spec_BlockOk a_b = some r) : Calls Try.prog 34 #[.agg #[.int .i64 a_b.Size, (sl v0a)]] w fun e w' => e = .returned (.bool r) ∧ SH w [] [] w' := by
 refine cwc (args := [_]) Try.func34 R Try.ntmps34 R ?_
 unfold spec_BlockOk at t0
 refine wcr (wle (eo_box R R) R fun b1 => (asg R R (wnt (wcs (wcs (bdO t0 fun y1 t1 t0 => (wj (J := Bool) (X := Unit) (fun z => y1 = z) (fun z _ => [(1, ptr b1 0), (18, .bool z)]) (fun _ _ => [box b1 [iv a_b.Size, (sl v0a)]]) ?_ ?_)))))))
 refine wcg (wlq (pof fo_44_0 R) R (wlq (v := iv a_b.Size) (plx tk_3 pz R R) R (bdO t1 fun v1 hv1 t1 => (wlc (cz0 fa_25 R fun w hw => c_spec_l01In w a_b.Size 1 4 hv1) R fun _ => (wlq (po_not R) R (mv R R (wlo (t := 8) t1 R (fun h1 t1 => ?_) fun h1 t1 => ?_)))))))
 exact wgf (j := 4) R R R R R (wgf (j := 4) R R R R R (wgf (j := 4) R R R R R (wgf (j := 4) R R R R R (wgf (j := 4) R R R R R (wgf (j := 4) R R R R R (wgf (j := 4) R R R R R (wgf (j := 4) R R R R R (wgf (j := 4) R R R R R (wlq (pit R R) R (wln (wjm _ () (mtE t1) (su2 R R) so1)))))))))))
 exact wgn (j := 4) R R R (wlq (pof fo_44_1 R) R (wgn (j := 4) R R R (wlq (v := (sl v0a)) (plx tk_42 pz R R) R (wgn (j := 4) R R R (wlq (pln (rga r0) el_42 R) R (wgn (j := 4) R R R (wlq (pof fo_44_0 R) R (wgn (j := 4) R R R (wlq (v := iv a_b.Size) (plx tk_3 pz R R) R (wgn (j := 4) R R R (wlq (pof fo_44_0 R) R (wgn (j := 4) R R R (wlq (v := iv a_b.Size) (plx tk_3 pz R R) R (wgn (j := 4) R R R (wlq (po_mul R R) R (wgn (j := 4) R R R (wlq (po_neq R R) R (wlq (pif R R) R (wln (wjm _ () (mtE t1) (su2 R R) so1))))))))))))))))))))
 intro j1 _ hp
 obtain rfl : j1 = y1 := hp.symm
 refine wqt (wcO t0 R (fun h2 t0 => ?_) fun h2 t0 => ?_)
 refine wcr (asg R R (wnt (wct (wqr ?_))))
 obtain rfl := oi t0
 exact wq1 R R fun w hw => ⟨R, hw.weak zn⟩
 refine wck (wqt (wcs (wcr (asg R R (wnt (gdO t0 fun g1 t0 => (sqO t0 fun y1 l1 t0 => (wj (J := Unit) (X := Unit) (fun z => y1 = .inl z) (fun _ _ => []) (fun _ _ => []) ?_ ?_))))))))
 refine wcb (wcf (X := Unit) l1 (fun k1 s1 x1l => [(1, ptr b1 0), (3, iv ((k1 : Nat) : Int))]) (fun k1 s1 x1l => [box b1 [iv a_b.Size, (sl v0a)]]) () (su2 R R) so1 fun k1 s1 x1l hN1 l1 => ?_)
 by_cases hk1 : k1 < a_b.Cells.length
 refine fos l1 hk1 fun _ t1 l1 => ?_
 unfold spec_BlockOk_L1 at t1
 have c1 : (decide (((k1 : Nat) : Int) < ((a_b.Cells.length : Nat) : Int))) = true := ddt (by omega)
 refine wcs (wcr (mv R R (wlq (pof fo_44_1 R) R (wlq (v := (sl v0a)) (plx tk_42 pz R R) R (wlq (pln (rga r0) el_42 R) R (wlq (pls R R) R (wnt (wft R c1 (wck (wqt (wcs (wcb (wcr (wlq (pof fo_44_1 R) R (wlq (v := (sl v0a)) (plx tk_42 pz R R) R (mv R R (wlq (po_ixn (k := k1) (rga r0) el_42 R R hk1) R (wlq (v := .agg #[iv ((gx a_b.Cells k1).Split), iv ((gx a_b.Cells k1).A), iv ((gx a_b.Cells k1).B)]) (po_ldfs (rga r0) tk_57 R hk1 R R R) R (bdO t1 fun v2 hv2 t1 => (wlc (cz0 fa_44 R fun w hw => c_spec_CellOk w (gx a_b.Cells k1) hv2) R fun _ => (wlq (po_not R) R (wnt (wcO t1 R (fun h3 t1 => ?_) fun h3 t1 => ?_)))))))))))))))))))))))
 refine wcr (asg R R (wnt (wct (wbr (wqr (wqr (wbr (wqr (wqr ?_)))))))))
 replace t0 := lpR t0 l1 t1
 obtain rfl := oi t0
 exact wq1 R R fun w hw => ⟨R, hw.weak zn⟩
 refine wck (wqb (wqt (wcg (mv R R (wlq (po_inc R R (by omega)) R ?_)))))
 exact asg R R (wln (wq_rnd hk1 (stpN l1 t1) () (su2 R R) so1))
 have c1 : (decide (((k1 : Nat) : Int) < ((a_b.Cells.length : Nat) : Int))) = false := ddf (by omega)
 have en1 := foe l1 hk1
 exact wcs (wcr (mv R R (wlq (pof fo_44_1 R) R (wlq (v := (sl v0a)) (plx tk_42 pz R R) R (wlq (pln (rga r0) el_42 R) R (wlq (pls R R) R (wnt (wff R c1 (wcx (wqe (wqe (wbx (wjm _ () en1 yn zn)))))))))))))
 intro e1 _ hp
 replace t0 := sqE (j := e1) t0 hp
 refine wqt (wcr (asg R R (wnt (wct ?_))))
 obtain rfl := oi t0
 exact wq1 R R fun w hw => ⟨R, hw.weak zn⟩

end Go.Proofs.Ytkahnmhkfmjomae
