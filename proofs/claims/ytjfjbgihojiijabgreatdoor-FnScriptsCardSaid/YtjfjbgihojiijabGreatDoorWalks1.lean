/-
 Each Go function computes its Lean function (part 1).
-/
import Derived.Test.YtjfjbgihojiijabGreatDoorLibs
namespace Go.Proofs.YtjfjbgihojiijabGreatDoor
open Go Go.RowKit Go.Proofs
set_option maxRecDepth 100000

theorem Ztm (w : World) (a_code : List UInt8) (v0a : Hd) (r0 : rdF w (dm w []) (sl v0a) a_code) {r : Bool} (t0 : ZlN a_code = some r) : Calls Tryz.prog 4 #[(sl v0a)] w fun e w' => e = .returned (.bool r) ∧ SH w [] [] w' := by
 refine cwc (args := [_]) Tryz.func4 R Tryz.ntmps4 R ?_
 unfold ZlN at t0
 refine wcr (asg R R (wnt (wcr (mv R R (wlq (pln (rga r0) ZlO R) R (wlq (ZaD R R) R (asg R R (wnt (wct ?_)))))))))
 obtain rfl := oi t0
 exact wq1 R R fun w hw => ⟨R, hw.weak zn⟩

theorem ZqY (w : World) (a_code : List UInt8) (v0a : Hd) (r0 : rdF w (dm w []) (sl v0a) a_code) {r : Int × Int} (t0 : Zhq a_code = some r) : Calls Tryz.prog 13 #[(sl v0a)] w fun e w' => ∃ x : Nat, e = .returned (ptr x 0) ∧ SH w [] [box x [(sl v0a), .int .i64 r.1, .int .i64 r.2]] w' := by
 refine cwc (args := [_]) Tryz.func13 R Tryz.ntmps13 R ?_
 unfold Zhq at t0
 refine wcr (asg R R (wnt (wcr (mv R R (wlq (pln (rga r0) ZlO R) R (wlq (Z4 R R) R (asg R R (wnt (wcs (wcr (asg R R (wnt (gdO t0 fun g1 t0 => (Zr t0 fun y1 l1 t0 => (wj (J := Int) (X := Unit) (fun z => y1 = z) (fun z _ => [(0, (sl v0a)), (3, iv z)]) (fun _ _ => []) ?_ ?_)))))))))))))))
 refine wcb (wcf (X := Unit) l1 (fun k1 s1 x1l => [(0, (sl v0a)), (3, iv s1), (4, iv ((k1 : Nat) : Int))]) (fun k1 s1 x1l => []) () (su3 R R R) zn fun k1 s1 x1l hN1 l1 => ?_)
 by_cases hk1 : k1 < a_code.length
 refine fos l1 hk1 fun _ t1 l1 => ?_
 unfold Zhf at t1
 have c1 : (decide (((k1 : Nat) : Int) < ((a_code.length : Nat) : Int))) = true := ddt (by omega)
 refine wcs (wcr (mv R R (mv R R (wlq (pln (rga r0) ZlO R) R (wlq (pls R R) R (mv R R (ZhW (t := 12) R c1 (wgn (j := 4) R R R (mv R R (wgn (j := 4) R R R (wlq (pls R R) R (wlq (pit R R) R (wnt (wcO t1 R (fun h1 t1 => ?_) fun h1 t1 => ?_))))))))))))))
 refine wck (wqt (wcs (wcb (wcg (mv R R (wlq (Zcu R R) R (mv R R (mv R R (wlq (Zv (k := k1) (rga r0) ZlO R R hk1) R (wlq (v := .int .u8 ((gx a_code k1).toNat : Int)) (ZD (rga r0) tk_5 R hk1 R) R (wlq (ZrY Zo2 Zm9 R) R (wlq (Z4 R R) R (wlq (Z4 R R) R (wlq (Zpy R R) R (asg R R (wln (wqb (wqt (wcg (mv R R (wlq (Zj R R (by omega)) R ?_)))))))))))))))))))))
 exact asg R R (wln (Zl hk1 (stpN l1 t1) () (su3 R R R) zn))
 exact wcx (wqe (wqe (wbx (wjm _ () (Sum.inl.inj (stpB l1 t1)) (su2 R R) zn))))
 have c1 : (decide (((k1 : Nat) : Int) < ((a_code.length : Nat) : Int))) = false := ddf (by omega)
 have en1 := foe l1 hk1
 exact wcs (wcr (mv R R (mv R R (wlq (pln (rga r0) ZlO R) R (wlq (pls R R) R (mv R R (ZhW (t := 12) R c1 (wgf (j := 4) R R R R R (wgf (j := 4) R R R R R (wlq (pif R R) R (wnt (wff R R (wcx (wqe (wqe (wbx (wjm _ () (Sum.inl.inj en1) (su2 R R) zn)))))))))))))))))
 intro e1 _ hp
 obtain rfl : e1 = y1 := hp.symm
 refine wqt (wcr (mv R R (mv R R (wlq (Zk R (ZtZ v0a e1)) R (wle (Zh R R) R fun b1 => (asg R R (wnt (wct ?_))))))))
 obtain rfl := oi t0
 exact wq1 R R fun w hw => ⟨b1, R, hw.weak so1⟩

theorem ZeQ (w : World) (fp : List Nat) (b0p : Nat) (a_c0 : List UInt8) (v0a : Hd) (r0 : rdF w (dm w fp) (sl v0a) a_c0) (a_c1 : Int) (a_c2 : Int) (o : Ow w [box b0p [(sl v0a), .int .i64 a_c1, .int .i64 a_c2]] fp) {r : Int × Int × Int} (t0 : Zca a_c0 a_c1 a_c2 = some r) : Calls Tryz.prog 68 #[ptr b0p 0] w fun e w' => ∃ _x : Unit, e = .returned (.int .i64 r.1) ∧ SH w fp [box b0p [(sl v0a), .int .i64 r.2.1, .int .i64 r.2.2]] w' := by
 refine ZaS (args := [_]) o Tryz.func68 R Tryz.ntmps68 R ?_
 unfold Zca at t0
 refine wcr (asg R R (wnt (wcr (mv R R (mv R R (wlq (Zb2 R) R (wlq (pof Zm6 R) R (wlq (v := iv a_c2) (plx tk_3 pz R R) R (wlq (Zcu R R) R (wlq (Z4 R R) R (wlq (Zb2 R) R (wlq (pof Zm6 R) R (wls (sbx (cs' := [(sl v0a), iv a_c1, iv (wr ((wr (a_c2 * 6364136223846793005)) + 1442695040888963407))]) tk_3 pz R R R R R R R) (wnt (wcs (wcd [box b0p [(sl v0a), iv a_c1, iv (wr ((wr (a_c2 * 6364136223846793005)) + 1442695040888963407))]] 13 mixed (aq 0 R (pom R) so1 R (aq 1 R (Zb2 R) so1 R (aq 2 R (pof Zm6 R) so1 R (aq (v := iv (wr ((wr (a_c2 * 6364136223846793005)) + 1442695040888963407))) 3 R (plx tk_3 pz R R) so1 R (aq 4 R (ZrC R R (by decide)) so1 R ?_)))))))))))))))))))))
 refine aq 5 R (pom R) so1 R (aq 6 R (Zb2 R) so1 R (aq 7 R (pof Zm6 R) so1 R (aq (v := iv (wr ((wr (a_c2 * 6364136223846793005)) + 1442695040888963407))) 8 R (plx tk_3 pz R R) so1 R (aq 9 R (ZrC R R (by decide)) so1 R ?_))))
 refine aq 10 R (ZwG R R) so1 R (aq 11 R (Zpy R R) so1 R (aq 12 R (Zu R) so1 R (ae (wqt (wcs (wcs (wcd [box b0p [(sl v0a), iv a_c1, iv (wr ((wr (a_c2 * 6364136223846793005)) + 1442695040888963407))]] 10 mixed (aq 0 R (pom R) so1 R (aq 1 R (Zb2 R) so1 R (aq 2 R (pof Zm5 R) so1 R (aq (v := iv a_c1) 3 R (plx tk_3 pz R R) so1 R (aq 4 R (pom R) so1 R (aq 5 R (Zb2 R) so1 R (aq 6 R (pof ZsP R) so1 R (aq (v := (sl v0a)) 7 R (plx Zvi pz R R) so1 R (aq 8 R (pln (rga r0) ZlO R) so1 R (aq 9 R (pls R R) so1 R (ae (wqt (bdO t0 fun y1 t1 t0 => (wj (J := Int × Int) (X := Unit) (fun z => y1 = z) (fun z _ => [(3, iv z.1)]) (fun z _ => [box b0p [(sl v0a), iv z.2, iv (wr ((wr (a_c2 * 6364136223846793005)) + 1442695040888963407))]]) ?_ ?_)))))))))))))))))))))
 refine wcO t1 R (fun h1 t1 => ?_) fun h1 t1 => ?_
 exact wcs (wcd [box b0p [(sl v0a), iv a_c1, iv (wr ((wr (a_c2 * 6364136223846793005)) + 1442695040888963407))]] 15 mixed (aq 0 R (pom R) so1 R (aq 1 R (pom R) so1 R (aq 2 R (Zb2 R) so1 R (aq 3 R (pof ZsP R) so1 R (aq (v := (sl v0a)) 4 R (plx Zvi pz R R) so1 R (aq 5 R (pom R) so1 R (aq 6 R (Zb2 R) so1 R (aq 7 R (pof Zm5 R) so1 R (aq (v := iv a_c1) 8 R (plx tk_3 pz R R) so1 R (gdO t1 fun g1 t1 => (aq 9 R (Z8 (rga r0) ZlO R R g1.1 g1.2) so1 R (aq (v := .int .u8 ((gx a_c0 ((a_c1).toNat)).toNat : Int)) 10 R (ZD (rga r0) tk_5 R (ZK g1) R) so1 R (aq 11 R (ZrY Zo2 Zm9 R) so1 R (aq 12 R (Z4 R R) so1 R (aq 13 R (Zpy R R) so1 R (aq 14 R (Zu R) so1 R (ae (wqt (wcg (mv R R (mv R R (wlq (Zb2 R) R (wlq (pof Zm5 R) R (wlq (v := iv a_c1) (plx tk_3 pz R R) R (wlq (Z4 R R) R (wlq (Zb2 R) R (wlq (pof Zm5 R) R (wls (sbx (cs' := [(sl v0a), iv (wr (a_c1 + 1)), iv (wr ((wr (a_c2 * 6364136223846793005)) + 1442695040888963407))]) tk_3 pz R R R R R R R) (wln (wjm _ () (mtE t1) (su1 R) so1)))))))))))))))))))))))))))))))
 exact wck (wjm _ () (mtE t1) (su1 R) so1)
 intro j1 _ hp
 obtain rfl : j1 = y1 := hp.symm
 refine wqt (wcr (mv R R (asg R R (wnt (wct ?_)))))
 obtain rfl := oi t0
 exact wq1 R R fun w hw => ⟨(), R, hw.weak so1⟩

theorem ZQ (w : World) (fp : List Nat) (b0p : Nat) (a_c0 : List UInt8) (v0a : Hd) (r0 : rdF w (dm w fp) (sl v0a) a_c0) (a_c1 : Int) (a_c2 : Int) (a_n : Int) (o : Ow w [box b0p [(sl v0a), .int .i64 a_c1, .int .i64 a_c2]] fp) {r : Int × Int × Int} (t0 : ZN a_c0 a_c1 a_c2 a_n = some r) : Calls Tryz.prog 32 #[ptr b0p 0, .int .i64 a_n] w fun e w' => ∃ _x : Unit, e = .returned (.int .i64 r.1) ∧ SH w fp [box b0p [(sl v0a), .int .i64 r.2.1, .int .i64 r.2.2]] w' := by
 refine ZaS (args := [_, _]) o Tryz.func32 R Tryz.ntmps32 R ?_
 unfold ZN at t0
 refine wcr (asg R R (wnt (wcs (wcr (mv R R (wlq (Zdf R R) R (wnt (wcO t0 R (fun h1 t0 => ?_) fun h1 t0 => ?_))))))))
 refine wcr (asg R R (wnt (wct (wqr ?_))))
 obtain rfl := oi t0
 exact wq1 R R fun w hw => ⟨(), R, hw.weak so1⟩
 refine wck (wqt (wcs (wcr (mv R R (wlq (Zdf R R) R (wnt (wcO t0 R (fun h2 t0 => ?_) fun h2 t0 => ?_)))))))
 refine wcr (mv R R (bdO t0 fun v1 hv1 t0 => (wlc (Zbi [box b0p [(sl v0a), iv a_c1, iv a_c2]] Zpb (zc pz Zz) R fun w fp hw => ZeQ w fp b0p a_c0 v0a ((Zt r0) w fp hw) a_c1 a_c2 hw.ow hv1) R fun _ => (mv R R (gdO t0 fun g1 t0 => (wlq (Zia R R g1) R (asg R R (wnt (wct (wqr ?_))))))))))
 obtain rfl := oi t0
 exact wq1 R R fun w hw => ⟨(), R, hw.weak so1⟩
 refine wck (wqt (wcr (mv R R (bdO t0 fun v2 hv2 t0 => (wlc (Zbi [box b0p [(sl v0a), iv a_c1, iv a_c2]] Zpb (zc pz Zz) R fun w fp hw => ZeQ w fp b0p a_c0 v0a ((Zt r0) w fp hw) a_c1 a_c2 hw.ow hv2) R fun _ => (asg R R (wnt (wcr (mv R R (bdO t0 fun v3 hv3 t0 => (wlc (Zbi [box b0p [(sl v0a), iv v2.2.1, iv v2.2.2]] Zpb (zc pz Zz) R fun w fp hw => ZeQ w fp b0p a_c0 v0a ((Zt r0) w fp hw) v2.2.1 v2.2.2 hw.ow hv3) R fun _ => (asg R R (wnt (wcr (mv R R (bdO t0 fun v4 hv4 t0 => (wlc (Zbi [box b0p [(sl v0a), iv v3.2.1, iv v3.2.2]] Zpb (zc pz Zz) R fun w fp hw => ZeQ w fp b0p a_c0 v0a ((Zt r0) w fp hw) v3.2.1 v3.2.2 hw.ow hv4) R fun _ => (asg R R (wnt (wcr (mv R R (bdO t0 fun v5 hv5 t0 => (wlc (Zbi [box b0p [(sl v0a), iv v4.2.1, iv v4.2.2]] Zpb (zc pz Zz) R fun w fp hw => ZeQ w fp b0p a_c0 v0a ((Zt r0) w fp hw) v4.2.1 v4.2.2 hw.ow hv5) R fun _ => (asg R R (wnt (wcr (mv R R (wlq (Zcu R R) R (mv R R (wlq (Zcu R R) R (wlq (Z4 R R) R (mv R R (wlq (Zcu R R) R (wlq (Z4 R R) R (mv R R (wlq (Z4 R R) R (mv R R (gdO t0 fun g2 t0 => (wlq (Zia R R g2) R ?_)))))))))))))))))))))))))))))))))))))))
 refine asg R R (wnt (wct ?_))
 obtain rfl := oi t0
 exact wq1 R R fun w hw => ⟨(), R, hw.weak so1⟩

theorem Zk4 (w : World) (fp : List Nat) (b0p : Nat) (a_c0 : List UInt8) (v0a : Hd) (r0 : rdF w (dm w fp) (sl v0a) a_c0) (a_c1 : Int) (a_c2 : Int) (a_n : Int) (o : Ow w [box b0p [(sl v0a), .int .i64 a_c1, .int .i64 a_c2]] fp) {r : Bool × Int × Int} (t0 : ZeZ a_c0 a_c1 a_c2 a_n = some r) : Calls Tryz.prog 29 #[ptr b0p 0, .int .i64 a_n] w fun e w' => ∃ _x : Unit, e = .returned (.bool r.1) ∧ SH w fp [box b0p [(sl v0a), .int .i64 r.2.1, .int .i64 r.2.2]] w' := by
 refine ZaS (args := [_, _]) o Tryz.func29 R Tryz.ntmps29 R ?_
 unfold ZeZ at t0
 refine wcr (asg R R (wnt (wcr (mv R R (mv R R (bdO t0 fun v1 hv1 t0 => (wlc (Zbi [box b0p [(sl v0a), iv a_c1, iv a_c2]] Zdu (zc pz Zz) R fun w fp hw => ZQ w fp b0p a_c0 v0a ((Zt r0) w fp hw) a_c1 a_c2 a_n hw.ow hv1) R fun _ => (wlq (pol R R) R (asg R R (wnt (wct ?_)))))))))))
 obtain rfl := oi t0
 exact wq1 R R fun w hw => ⟨(), R, hw.weak so1⟩

theorem ZT (w : World) (a_x : Int) (a_least : Int) (a_most : Int) {r : Bool} (t0 : ZI a_x a_least a_most = some r) : Calls Tryz.prog 115 #[.int .i64 a_x, .int .i64 a_least, .int .i64 a_most] w fun e w' => e = .returned (.bool r) ∧ SH w [] [] w' := by
 refine cwc (args := [_, _, _]) Tryz.func115 R Tryz.ntmps115 R ?_
 unfold ZI at t0
 refine wcr (asg R R (wnt (wcs (wcj (X := Unit) (fun _ => True) (fun _ => [(6, .bool ((decide (a_x ≥ a_least)) && (decide (a_x ≤ a_most))))]) (fun _ => []) ?_ ?_))))
 refine wcg (mv R R (mv R R (wlq (Ze1 R R) R (mv R R (Zah (t := 10) R (fun h1 => ?_) fun h1 => ?_)))))
 exact wgn (j := 3) R R R (mv R R (wgn (j := 3) R R R (mv R R (wgn (j := 3) R R R (wlq (Zdf R R) R (wlq (pit R R) R (asg R R (wln (wqm () trivial (Z2 R (by rw [h1]; rfl) yn) zn)))))))))
 exact wgf (j := 3) R R R R R (wgf (j := 3) R R R R R (wgf (j := 3) R R R R R (wlq (pif R R) R (asg R R (wln (wqm () trivial (Z2 R (by rw [h1]; rfl) yn) zn))))))
 intro _ _
 refine wqt (wct ?_)
 obtain rfl := oi t0
 exact wq1 R R fun w hw => ⟨R, hw.weak zn⟩

theorem ZcB (w : World) (a_list : List GMember) (v0a : Hd) (r0 : rdF w (dm w []) (sl v0a) a_list) {r : Bool} (t0 : Zbe a_list = some r) : Calls Tryz.prog 112 #[(sl v0a)] w fun e w' => e = .returned (.bool r) ∧ SH w [] [] w' := by
 refine cwc (args := [_]) Tryz.func112 R Tryz.ntmps112 R ?_
 unfold Zbe at t0
 refine wcr (asg R R (wnt (wcs (wcr (asg R R (wnt (gdO t0 fun g1 t0 => (sqO t0 fun y1 l1 t0 => (wj (J := Unit) (X := Unit) (fun z => y1 = .inl z) (fun _ _ => [(0, (sl v0a))]) (fun _ _ => []) ?_ ?_)))))))))
 refine wcb (wcf (X := Unit) l1 (fun k1 s1 x1l => [(0, (sl v0a)), (3, iv ((k1 : Nat) : Int))]) (fun k1 s1 x1l => []) () (su2 R R) zn fun k1 s1 x1l hN1 l1 => ?_)
 by_cases hk1 : k1 < a_list.length
 refine fos l1 hk1 fun _ t1 l1 => ?_
 unfold ZeC at t1
 have c1 : (decide (((k1 : Nat) : Int) < ((a_list.length : Nat) : Int))) = true := ddt (by omega)
 refine wcs (wcr (mv R R (mv R R (wlq (pln (rga r0) Zan R) R (wlq (pls R R) R (wnt (wft R c1 (wck (wqt (wcs (wcb (wcr (mv R R (mv R R (wlq (Zv (k := k1) (rga r0) Zan R R hk1) R (wlq (v := .agg #[iv ((gx a_list k1).Number), iv ((gx a_list k1).Since), iv ((gx a_list k1).Paid)]) (ZaB (rga r0) ZiP R hk1 R R R) R (wle (eal (cs := [iv 0, iv 0, iv 0]) ZoQ) R fun b1 => (wls (sbx (cs' := [iv ((gx a_list k1).Number), iv ((gx a_list k1).Since), iv ((gx a_list k1).Paid)]) ZiP pz R R R R R R R) (wnt (wcs (bdO t1 fun y2 t2 t1 => (wj (J := Bool) (X := Unit) (fun z => y2 = z) (fun z _ => [(0, (sl v0a)), (3, iv ((k1 : Nat) : Int)), (48, .bool z)]) (fun _ _ => []) ?_ ?_))))))))))))))))))))))
 refine wcd [box b1 [iv ((gx a_list k1).Number), iv ((gx a_list k1).Since), iv ((gx a_list k1).Paid)]] 34 mixed (aq 0 R (pof Zch R) so1 R (aq (v := iv ((gx a_list k1).Number)) 1 R (plx tk_3 pz R R) so1 R (a1 2 (bdO t2 fun v1 hv1 t2 => (wsc R (cz0 Zbo R fun w hw => ZT w ((gx a_list k1).Number) 1 999 hv1) (fun _ => (zt so1)) R fun _ => (aq 3 R (Zd R) so1 R (aq 4 R (pom R) so1 R (waO_ (t := 19) t2 R (fun h1 t2 => ?_) fun h1 t2 => ?_))))))))
 exact af 5 4 R R R R R so1 R (af 6 4 R R R R R so1 R (af 7 4 R R R R R so1 R (af 8 4 R R R R R so1 R (aq 9 R (pit R R) so1 R (aq 10 R (pom R) so1 R (af 11 10 R R R R R so1 R (af 12 10 R R R R R so1 R (af 13 10 R R R R R so1 R (af 14 10 R R R R R so1 R (af 15 10 R R R R R so1 R (af 16 10 R R R R R so1 R (af 17 10 R R R R R so1 R (aq 18 R (pit R R) so1 R (aq 19 R (pom R) so1 R (af 20 19 R R R R R so1 R (af 21 19 R R R R R so1 R (af 22 19 R R R R R so1 R (au 23 22 R R R R so1 R (au 24 22 R R R R so1 R (au 25 22 R R R R so1 R (au 26 22 R R R R so1 R (au 27 22 R R R R so1 R (au 28 22 R R R R so1 R (au 29 22 R R R R so1 R (au 30 22 R R R R so1 R (au 31 22 R R R R so1 R (af 32 19 R R R R R so1 R (aq 33 R (pit R R) so1 R (ae (wjm _ () (mtE t2) (su3 R R R) zn))))))))))))))))))))))))))))))
 refine an 5 4 R R R R (pof ZjB R) so1 R (an (v := iv ((gx a_list k1).Since)) 6 4 R R R R (plx tk_3 pz R R) so1 R (a1 7 (bdO t2 fun v2 hv2 t2 => (ZW (j := 4) R R R R (cz0 Zbo R fun w hw => ZT w ((gx a_list k1).Since) 1900 2999 hv2) (fun _ => (zt so1)) R fun _ => (an 8 4 R R R R (Zd R) so1 R (aq 9 R (pif R R) so1 R (aq 10 R (pom R) so1 R (waO_ (t := 25) t2 R (fun h2 t2 => ?_) fun h2 t2 => ?_))))))))
 exact af 11 10 R R R R R so1 R (af 12 10 R R R R R so1 R (af 13 10 R R R R R so1 R (af 14 10 R R R R R so1 R (af 15 10 R R R R R so1 R (af 16 10 R R R R R so1 R (af 17 10 R R R R R so1 R (aq 18 R (pit R R) so1 R (aq 19 R (pom R) so1 R (af 20 19 R R R R R so1 R (af 21 19 R R R R R so1 R (af 22 19 R R R R R so1 R (au 23 22 R R R R so1 R (au 24 22 R R R R so1 R (au 25 22 R R R R so1 R (au 26 22 R R R R so1 R (au 27 22 R R R R so1 R (au 28 22 R R R R so1 R (au 29 22 R R R R so1 R (au 30 22 R R R R so1 R (au 31 22 R R R R so1 R (af 32 19 R R R R R so1 R (aq 33 R (pit R R) so1 R (ae (wjm _ () (mtE t2) (su3 R R R) zn))))))))))))))))))))))))
 refine an 11 10 R R R R (pof Zg6 R) so1 R (an (v := iv ((gx a_list k1).Paid)) 12 10 R R R R (plx tk_3 pz R R) so1 R (an 13 10 R R R R (pof ZjB R) so1 R (an (v := iv ((gx a_list k1).Since)) 14 10 R R R R (plx tk_3 pz R R) so1 R (an 15 10 R R R R (Zad R R) so1 R (a1 16 (bdO t2 fun v3 hv3 t2 => (ZW (j := 10) R R R R (cz0 Zbo R fun w hw => ZT w ((gx a_list k1).Paid) (wr ((gx a_list k1).Since - 1)) 2999 hv3) (fun _ => (zt so1)) R fun _ => (an 17 10 R R R R (Zd R) so1 R (aq 18 R (pif R R) so1 R (aq 19 R (pom R) so1 R (waO_ (t := 34) t2 R (fun h3 t2 => ?_) fun h3 t2 => ?_)))))))))))
 exact af 20 19 R R R R R so1 R (af 21 19 R R R R R so1 R (af 22 19 R R R R R so1 R (au 23 22 R R R R so1 R (au 24 22 R R R R so1 R (au 25 22 R R R R so1 R (au 26 22 R R R R so1 R (au 27 22 R R R R so1 R (au 28 22 R R R R so1 R (au 29 22 R R R R so1 R (au 30 22 R R R R so1 R (au 31 22 R R R R so1 R (af 32 19 R R R R R so1 R (aq 33 R (pit R R) so1 R (ae (wjm _ () (mtE t2) (su3 R R R) zn)))))))))))))))
 refine an 20 19 R R R R (pom R) so1 R (an 21 19 R R R R (ZaD R R) so1 R (an 22 19 R R R R (pom R) so1 R (waO_ (t := 37) t2 R (fun h4 t2 => ?_) fun h4 t2 => ?_)))
 exact an 23 22 R R R R (pof Zch R) so1 R (an (v := iv ((gx a_list k1).Number)) 24 22 R R R R (plx tk_3 pz R R) so1 R (an 25 22 R R R R (pom R) so1 R (an 26 22 R R R R (pom R) so1 R (an 27 22 R R R R (Zad R R) so1 R (gdO t2 fun g2 t2 => (an 28 22 R R R R (Z8 (rga r0) Zan R R g2.1 g2.2) so1 R (an 29 22 R R R R (Zak (rga r0) (ZK g2) Zch R) so1 R (an (v := iv ((gx a_list (((wr (((k1 : Nat) : Int) - 1))).toNat)).Number)) 30 22 R R R R (ZD (rga r0) tk_3 R (ZK g2) R) so1 R (an 31 22 R R R R (Zdf R R) so1 R (an 32 19 R R R R (pit R R) so1 R (aq 33 R (pif R R) so1 R (ae (wjm _ () (mtE t2) (su3 R R R) zn)))))))))))))
 exact af 23 22 R R R R R so1 R (af 24 22 R R R R R so1 R (af 25 22 R R R R R so1 R (af 26 22 R R R R R so1 R (af 27 22 R R R R R so1 R (af 28 22 R R R R R so1 R (af 29 22 R R R R R so1 R (af 30 22 R R R R R so1 R (af 31 22 R R R R R so1 R (an 32 19 R R R R (pif R R) so1 R (aq 33 R (pif R R) so1 R (ae (wjm _ () (mtE t2) (su3 R R R) zn))))))))))))
 intro j1 _ hp
 obtain rfl : j1 = y2 := hp.symm
 refine wqt (wcO t1 R (fun h5 t1 => ?_) fun h5 t1 => ?_)
 refine wcr (asg R R (wnt (wct (wbr (wqr (wqr (wbr (wqr (wqr ?_)))))))))
 replace t0 := lpR t0 l1 t1
 obtain rfl := oi t0
 exact wq1 R R fun w hw => ⟨R, hw.weak zn⟩
 refine wck (wqb (wqt (wcg (mv R R (wlq (Zj R R (by omega)) R ?_)))))
 exact asg R R (wln (Zl hk1 (stpN l1 t1) () (su2 R R) zn))
 have c1 : (decide (((k1 : Nat) : Int) < ((a_list.length : Nat) : Int))) = false := ddf (by omega)
 have en1 := foe l1 hk1
 exact wcs (wcr (mv R R (mv R R (wlq (pln (rga r0) Zan R) R (wlq (pls R R) R (wnt (wff R c1 (wcx (wqe (wqe (wbx (wjm _ () en1 (su1 R) zn))))))))))))
 intro e1 _ hp
 replace t0 := sqE (j := e1) t0 hp
 refine wqt (wcr (mv R R (wlq (pln (rga r0) Zan R) R (wlq (Zdf R R) R (asg R R (wnt (wct ?_)))))))
 obtain rfl := oi t0
 exact wq1 R R fun w hw => ⟨R, hw.weak zn⟩

theorem Zqk (w : World) (a_stock : List Int) (v0a : Hd) (r0 : rdF w (dm w []) (sl v0a) a_stock) {r : Bool} (t0 : Zcc a_stock = some r) : Calls Tryz.prog 113 #[(sl v0a)] w fun e w' => e = .returned (.bool r) ∧ SH w [] [] w' := by
 refine cwc (args := [_]) Tryz.func113 R Tryz.ntmps113 R ?_
 unfold Zcc at t0
 refine wcr (asg R R (wnt (wcs (wcr (asg R R (wnt (gdO t0 fun g1 t0 => (sqO t0 fun y1 l1 t0 => (wj (J := Unit) (X := Unit) (fun z => y1 = .inl z) (fun _ _ => [(0, (sl v0a))]) (fun _ _ => []) ?_ ?_)))))))))
 refine wcb (wcf (X := Unit) l1 (fun k1 s1 x1l => [(0, (sl v0a)), (3, iv ((k1 : Nat) : Int))]) (fun k1 s1 x1l => []) () (su2 R R) zn fun k1 s1 x1l hN1 l1 => ?_)
 by_cases hk1 : k1 < a_stock.length
 refine fos l1 hk1 fun _ t1 l1 => ?_
 unfold Zgd at t1
 have c1 : (decide (((k1 : Nat) : Int) < ((a_stock.length : Nat) : Int))) = true := ddt (by omega)
 refine wcs (wcr (mv R R (mv R R (wlq (pln (rga r0) ZH R) R (wlq (pls R R) R (wnt (wft R c1 (wck (wqt (wcs (wcb (wcr (mv R R (mv R R (wlq (Zv (k := k1) (rga r0) ZH R R hk1) R (wlq (v := iv (gx a_stock k1)) (ZD (rga r0) tk_3 R hk1 R) R (bdO t1 fun v1 hv1 t1 => (wlc (cz0 Zbo R fun w hw => ZT w (gx a_stock k1) 0 1000000 hv1) R fun _ => (wlq (Zd R) R (wnt (wcO t1 R (fun h1 t1 => ?_) fun h1 t1 => ?_)))))))))))))))))))))
 refine wcr (asg R R (wnt (wct (wbr (wqr (wqr (wbr (wqr (wqr ?_)))))))))
 replace t0 := lpR t0 l1 t1
 obtain rfl := oi t0
 exact wq1 R R fun w hw => ⟨R, hw.weak zn⟩
 refine wck (wqb (wqt (wcg (mv R R (wlq (Zj R R (by omega)) R ?_)))))
 exact asg R R (wln (Zl hk1 (stpN l1 t1) () (su2 R R) zn))
 have c1 : (decide (((k1 : Nat) : Int) < ((a_stock.length : Nat) : Int))) = false := ddf (by omega)
 have en1 := foe l1 hk1
 exact wcs (wcr (mv R R (mv R R (wlq (pln (rga r0) ZH R) R (wlq (pls R R) R (wnt (wff R c1 (wcx (wqe (wqe (wbx (wjm _ () en1 (su1 R) zn))))))))))))
 intro e1 _ hp
 replace t0 := sqE (j := e1) t0 hp
 refine wqt (wcr (mv R R (wlq (pln (rga r0) ZH R) R (wlq (pol R R) R (asg R R (wnt (wct ?_)))))))
 obtain rfl := oi t0
 exact wq1 R R fun w hw => ⟨R, hw.weak zn⟩

theorem Zh7 (w : World) (a_list : List GBooking) (v0a : Hd) (r0 : rdF w (dm w []) (sl v0a) a_list) {r : Bool} (t0 : Zc6 a_list = some r) : Calls Tryz.prog 114 #[(sl v0a)] w fun e w' => e = .returned (.bool r) ∧ SH w [] [] w' := by
 refine cwc (args := [_]) Tryz.func114 R Tryz.ntmps114 R ?_
 unfold Zc6 at t0
 refine wcr (asg R R (wnt (wcs (wcr (asg R R (wnt (gdO t0 fun g1 t0 => (sqO t0 fun y1 l1 t0 => (wj (J := Unit) (X := Unit) (fun z => y1 = .inl z) (fun _ _ => [(0, (sl v0a))]) (fun _ _ => []) ?_ ?_)))))))))
 refine wcb (wcf (X := Unit) l1 (fun k1 s1 x1l => [(0, (sl v0a)), (3, iv ((k1 : Nat) : Int))]) (fun k1 s1 x1l => []) () (su2 R R) zn fun k1 s1 x1l hN1 l1 => ?_)
 by_cases hk1 : k1 < a_list.length
 refine fos l1 hk1 fun _ t1 l1 => ?_
 unfold Zfk at t1
 have c1 : (decide (((k1 : Nat) : Int) < ((a_list.length : Nat) : Int))) = true := ddt (by omega)
 refine wcs (wcr (mv R R (mv R R (wlq (pln (rga r0) Zge R) R (wlq (pls R R) R (wnt (wft R c1 (wck (wqt (wcs (wcb (wcr (mv R R (mv R R (wlq (Zv (k := k1) (rga r0) Zge R R hk1) R (wlq (v := .agg #[iv ((gx a_list k1).Day), iv ((gx a_list k1).From), iv ((gx a_list k1).To), iv ((gx a_list k1).Sum)]) (ZaB (rga r0) Zm7 R hk1 R R R) R (wle (eal (cs := [iv 0, iv 0, iv 0, iv 0]) ZvE) R fun b1 => (wls (sbx (cs' := [iv ((gx a_list k1).Day), iv ((gx a_list k1).From), iv ((gx a_list k1).To), iv ((gx a_list k1).Sum)]) Zm7 pz R R R R R R R) (wnt (wcs (bdO t1 fun y2 t2 t1 => (wj (J := Bool) (X := Unit) (fun z => y2 = z) (fun z _ => [(0, (sl v0a)), (3, iv ((k1 : Nat) : Int)), (58, .bool z)]) (fun _ _ => []) ?_ ?_))))))))))))))))))))))
 refine wcd [box b1 [iv ((gx a_list k1).Day), iv ((gx a_list k1).From), iv ((gx a_list k1).To), iv ((gx a_list k1).Sum)]] 44 mixed (aq 0 R (pof ZhU R) so1 R (aq (v := iv ((gx a_list k1).Day)) 1 R (plx tk_3 pz R R) so1 R (a1 2 (bdO t2 fun v1 hv1 t2 => (wsc R (cz0 Zbo R fun w hw => ZT w ((gx a_list k1).Day) 0 9999 hv1) (fun _ => (zt so1)) R fun _ => (aq 3 R (Zd R) so1 R (aq 4 R (pom R) so1 R (waO_ (t := 19) t2 R (fun h1 t2 => ?_) fun h1 t2 => ?_))))))))
 refine af 5 4 R R R R R so1 R (af 6 4 R R R R R so1 R (af 7 4 R R R R R so1 R (af 8 4 R R R R R so1 R (aq 9 R (pit R R) so1 R (aq 10 R (pom R) so1 R (af 11 10 R R R R R so1 R (af 12 10 R R R R R so1 R (af 13 10 R R R R R so1 R (af 14 10 R R R R R so1 R (aq 15 R (pit R R) so1 R (aq 16 R (pom R) so1 R (af 17 16 R R R R R so1 R (af 18 16 R R R R R so1 R (af 19 16 R R R R R so1 R (af 20 16 R R R R R so1 R (af 21 16 R R R R R so1 R (aq 22 R (pit R R) so1 R (aq 23 R (pom R) so1 R (af 24 23 R R R R R so1 R (af 25 23 R R R R R so1 R (af 26 23 R R R R R so1 R (af 27 23 R R R R R so1 R (aq 28 R (pit R R) so1 R (aq 29 R (pom R) so1 R (af 30 29 R R R R R so1 R (af 31 29 R R R R R so1 R (af 32 29 R R R R R so1 R (au 33 32 R R R R so1 R (au 34 32 R R R R so1 R (au 35 32 R R R R so1 R (au 36 32 R R R R so1 R (au 37 32 R R R R so1 R (au 38 32 R R R R so1 R (au 39 32 R R R R so1 R (au 40 32 R R R R so1 R (au 41 32 R R R R so1 R (af 42 29 R R R R R so1 R (aq 43 R (pit R R) so1 R (ae ?_)))))))))))))))))))))))))))))))))))))))
 exact wjm _ () (mtE t2) (su3 R R R) zn
 refine an 5 4 R R R R (pof ZjE R) so1 R (an (v := iv ((gx a_list k1).From)) 6 4 R R R R (plx tk_3 pz R R) so1 R (a1 7 (bdO t2 fun v2 hv2 t2 => (ZW (j := 4) R R R R (cz0 Zbo R fun w hw => ZT w ((gx a_list k1).From) 0 4 hv2) (fun _ => (zt so1)) R fun _ => (an 8 4 R R R R (Zd R) so1 R (aq 9 R (pif R R) so1 R (aq 10 R (pom R) so1 R (waO_ (t := 25) t2 R (fun h2 t2 => ?_) fun h2 t2 => ?_))))))))
 exact af 11 10 R R R R R so1 R (af 12 10 R R R R R so1 R (af 13 10 R R R R R so1 R (af 14 10 R R R R R so1 R (aq 15 R (pit R R) so1 R (aq 16 R (pom R) so1 R (af 17 16 R R R R R so1 R (af 18 16 R R R R R so1 R (af 19 16 R R R R R so1 R (af 20 16 R R R R R so1 R (af 21 16 R R R R R so1 R (aq 22 R (pit R R) so1 R (aq 23 R (pom R) so1 R (af 24 23 R R R R R so1 R (af 25 23 R R R R R so1 R (af 26 23 R R R R R so1 R (af 27 23 R R R R R so1 R (aq 28 R (pit R R) so1 R (aq 29 R (pom R) so1 R (af 30 29 R R R R R so1 R (af 31 29 R R R R R so1 R (af 32 29 R R R R R so1 R (au 33 32 R R R R so1 R (au 34 32 R R R R so1 R (au 35 32 R R R R so1 R (au 36 32 R R R R so1 R (au 37 32 R R R R so1 R (au 38 32 R R R R so1 R (au 39 32 R R R R so1 R (au 40 32 R R R R so1 R (au 41 32 R R R R so1 R (af 42 29 R R R R R so1 R (aq 43 R (pit R R) so1 R (ae (wjm _ () (mtE t2) (su3 R R R) zn))))))))))))))))))))))))))))))))))
 refine an 11 10 R R R R (pof Zjv R) so1 R (an (v := iv ((gx a_list k1).To)) 12 10 R R R R (plx tk_3 pz R R) so1 R (a1 13 (bdO t2 fun v3 hv3 t2 => (ZW (j := 10) R R R R (cz0 Zbo R fun w hw => ZT w ((gx a_list k1).To) 0 4 hv3) (fun _ => (zt so1)) R fun _ => (an 14 10 R R R R (Zd R) so1 R (aq 15 R (pif R R) so1 R (aq 16 R (pom R) so1 R (waO_ (t := 31) t2 R (fun h3 t2 => ?_) fun h3 t2 => ?_))))))))
 exact af 17 16 R R R R R so1 R (af 18 16 R R R R R so1 R (af 19 16 R R R R R so1 R (af 20 16 R R R R R so1 R (af 21 16 R R R R R so1 R (aq 22 R (pit R R) so1 R (aq 23 R (pom R) so1 R (af 24 23 R R R R R so1 R (af 25 23 R R R R R so1 R (af 26 23 R R R R R so1 R (af 27 23 R R R R R so1 R (aq 28 R (pit R R) so1 R (aq 29 R (pom R) so1 R (af 30 29 R R R R R so1 R (af 31 29 R R R R R so1 R (af 32 29 R R R R R so1 R (au 33 32 R R R R so1 R (au 34 32 R R R R so1 R (au 35 32 R R R R so1 R (au 36 32 R R R R so1 R (au 37 32 R R R R so1 R (au 38 32 R R R R so1 R (au 39 32 R R R R so1 R (au 40 32 R R R R so1 R (au 41 32 R R R R so1 R (af 42 29 R R R R R so1 R (aq 43 R (pit R R) so1 R (ae (wjm _ () (mtE t2) (su3 R R R) zn))))))))))))))))))))))))))))
 refine an 17 16 R R R R (pof ZjE R) so1 R (an (v := iv ((gx a_list k1).From)) 18 16 R R R R (plx tk_3 pz R R) so1 R (an 19 16 R R R R (pof Zjv R) so1 R (an (v := iv ((gx a_list k1).To)) 20 16 R R R R (plx tk_3 pz R R) so1 R (an 21 16 R R R R (pol R R) so1 R (aq 22 R (pif R R) so1 R (aq 23 R (pom R) so1 R (waO_ (t := 38) t2 R (fun h4 t2 => ?_) fun h4 t2 => ?_)))))))
 exact af 24 23 R R R R R so1 R (af 25 23 R R R R R so1 R (af 26 23 R R R R R so1 R (af 27 23 R R R R R so1 R (aq 28 R (pit R R) so1 R (aq 29 R (pom R) so1 R (af 30 29 R R R R R so1 R (af 31 29 R R R R R so1 R (af 32 29 R R R R R so1 R (au 33 32 R R R R so1 R (au 34 32 R R R R so1 R (au 35 32 R R R R so1 R (au 36 32 R R R R so1 R (au 37 32 R R R R so1 R (au 38 32 R R R R so1 R (au 39 32 R R R R so1 R (au 40 32 R R R R so1 R (au 41 32 R R R R so1 R (af 42 29 R R R R R so1 R (aq 43 R (pit R R) so1 R (ae (wjm _ () (mtE t2) (su3 R R R) zn)))))))))))))))))))))
 refine an 24 23 R R R R (pof Zqo R) so1 R (an (v := iv ((gx a_list k1).Sum)) 25 23 R R R R (plx tk_3 pz R R) so1 R (a1 26 (bdO t2 fun v4 hv4 t2 => (ZW (j := 23) R R R R (cz0 Zbo R fun w hw => ZT w ((gx a_list k1).Sum) 1 100000 hv4) (fun _ => (zt so1)) R fun _ => (an 27 23 R R R R (Zd R) so1 R (aq 28 R (pif R R) so1 R (aq 29 R (pom R) so1 R (waO_ (t := 44) t2 R (fun h5 t2 => ?_) fun h5 t2 => ?_))))))))
 exact af 30 29 R R R R R so1 R (af 31 29 R R R R R so1 R (af 32 29 R R R R R so1 R (au 33 32 R R R R so1 R (au 34 32 R R R R so1 R (au 35 32 R R R R so1 R (au 36 32 R R R R so1 R (au 37 32 R R R R so1 R (au 38 32 R R R R so1 R (au 39 32 R R R R so1 R (au 40 32 R R R R so1 R (au 41 32 R R R R so1 R (af 42 29 R R R R R so1 R (aq 43 R (pit R R) so1 R (ae (wjm _ () (mtE t2) (su3 R R R) zn)))))))))))))))
 refine an 30 29 R R R R (pom R) so1 R (an 31 29 R R R R (ZaD R R) so1 R (an 32 29 R R R R (pom R) so1 R (waO_ (t := 47) t2 R (fun h6 t2 => ?_) fun h6 t2 => ?_)))
 exact an 33 32 R R R R (pof ZhU R) so1 R (an (v := iv ((gx a_list k1).Day)) 34 32 R R R R (plx tk_3 pz R R) so1 R (an 35 32 R R R R (pom R) so1 R (an 36 32 R R R R (pom R) so1 R (an 37 32 R R R R (Zad R R) so1 R (gdO t2 fun g2 t2 => (an 38 32 R R R R (Z8 (rga r0) Zge R R g2.1 g2.2) so1 R (an 39 32 R R R R (Zak (rga r0) (ZK g2) ZhU R) so1 R (an (v := iv ((gx a_list (((wr (((k1 : Nat) : Int) - 1))).toNat)).Day)) 40 32 R R R R (ZD (rga r0) tk_3 R (ZK g2) R) so1 R (an 41 32 R R R R (pls R R) so1 R (an 42 29 R R R R (pit R R) so1 R (aq 43 R (pif R R) so1 R (ae (wjm _ () (mtE t2) (su3 R R R) zn)))))))))))))
 exact af 33 32 R R R R R so1 R (af 34 32 R R R R R so1 R (af 35 32 R R R R R so1 R (af 36 32 R R R R R so1 R (af 37 32 R R R R R so1 R (af 38 32 R R R R R so1 R (af 39 32 R R R R R so1 R (af 40 32 R R R R R so1 R (af 41 32 R R R R R so1 R (an 42 29 R R R R (pif R R) so1 R (aq 43 R (pif R R) so1 R (ae (wjm _ () (mtE t2) (su3 R R R) zn))))))))))))
 intro j1 _ hp
 obtain rfl : j1 = y2 := hp.symm
 refine wqt (wcO t1 R (fun h7 t1 => ?_) fun h7 t1 => ?_)
 refine wcr (asg R R (wnt (wct (wbr (wqr (wqr (wbr (wqr (wqr ?_)))))))))
 replace t0 := lpR t0 l1 t1
 obtain rfl := oi t0
 exact wq1 R R fun w hw => ⟨R, hw.weak zn⟩
 refine wck (wqb (wqt (wcg (mv R R (wlq (Zj R R (by omega)) R ?_)))))
 exact asg R R (wln (Zl hk1 (stpN l1 t1) () (su2 R R) zn))
 have c1 : (decide (((k1 : Nat) : Int) < ((a_list.length : Nat) : Int))) = false := ddf (by omega)
 have en1 := foe l1 hk1
 exact wcs (wcr (mv R R (mv R R (wlq (pln (rga r0) Zge R) R (wlq (pls R R) R (wnt (wff R c1 (wcx (wqe (wqe (wbx (wjm _ () en1 (su1 R) zn))))))))))))
 intro e1 _ hp
 replace t0 := sqE (j := e1) t0 hp
 refine wqt (wcr (mv R R (wlq (pln (rga r0) Zge R) R (wlq (Zdf R R) R (asg R R (wnt (wct ?_)))))))
 obtain rfl := oi t0
 exact wq1 R R fun w hw => ⟨R, hw.weak zn⟩

theorem Zc7 (w : World) (a_c : GCell) {r : Bool} (t0 : Zbr a_c = some r) : Calls Tryz.prog 120 #[.agg #[.int .i64 a_c.Split, .int .i64 a_c.A, .int .i64 a_c.B]] w fun e w' => e = .returned (.bool r) ∧ SH w [] [] w' := by
 refine cwc (args := [_]) Tryz.func120 R Tryz.ntmps120 R ?_
 unfold Zbr at t0
 refine wcr (wle (Zh R R) R fun b1 => (asg R R (wnt (wcs (wcs (bdO t0 fun y1 t1 t0 => (wj (J := Bool) (X := Unit) (fun z => y1 = z) (fun z _ => [(1, ptr b1 0), (18, .bool z)]) (fun _ _ => [box b1 [iv a_c.Split, iv a_c.A, iv a_c.B]]) ?_ ?_)))))))
 refine wcg (wlq (pof ZaX R) R (wlq (v := iv a_c.Split) (plx tk_3 pz R R) R (bdO t1 fun v1 hv1 t1 => (wlc (cz0 Zbo R fun w hw => ZT w a_c.Split 0 2 hv1) R fun _ => (wlq (Zd R) R (mv R R (wlo (t := 7) t1 R (fun h1 t1 => ?_) fun h1 t1 => ?_)))))))
 exact wgf (j := 4) R R R R R (wgf (j := 4) R R R R R (wgf (j := 4) R R R R R (wgf (j := 4) R R R R R (wlq (pit R R) R (mv R R (wgf (j := 10) R R R R R (wgf (j := 10) R R R R R (wgf (j := 10) R R R R R (wgf (j := 10) R R R R R (wlq (pit R R) R (wln (wjm _ () (mtE t1) (su2 R R) so1))))))))))))
 refine wgn (j := 4) R R R (wlq (pof ZaF R) R (wgn (j := 4) R R R (wlq (v := iv a_c.A) (plx tk_3 pz R R) R (bdO t1 fun v2 hv2 t1 => (wgn (j := 4) R R R (wlc (cz0 Zbo R fun w hw => ZT w a_c.A 0 5 hv2) R (fun _ => (wgn (j := 4) R R R (wlq (Zd R) R (wlq (pif R R) R (mv R R (wlo (t := 13) t1 R (fun h2 t1 => ?_) fun h2 t1 => ?_))))))))))))
 exact wgf (j := 10) R R R R R (wgf (j := 10) R R R R R (wgf (j := 10) R R R R R (wgf (j := 10) R R R R R (wlq (pit R R) R (wln (wjm _ () (mtE t1) (su2 R R) so1))))))
 exact wgn (j := 10) R R R (wlq (pof ZaY R) R (wgn (j := 10) R R R (wlq (v := iv a_c.B) (plx tk_3 pz R R) R (bdO t1 fun v3 hv3 t1 => (wgn (j := 10) R R R (wlc (cz0 Zbo R fun w hw => ZT w a_c.B 0 5 hv3) R (fun _ => (wgn (j := 10) R R R (wlq (Zd R) R (wlq (pif R R) R (wln (wjm _ () (mtE t1) (su2 R R) so1))))))))))))
 intro j1 _ hp
 obtain rfl : j1 = y1 := hp.symm
 refine wqt (wcO t0 R (fun h3 t0 => ?_) fun h3 t0 => ?_)
 refine wcr (asg R R (wnt (wct (wqr ?_))))
 obtain rfl := oi t0
 exact wq1 R R fun w hw => ⟨R, hw.weak zn⟩
 refine wck (wqt (wcr (wlq (pof ZaX R) R (wlq (v := iv a_c.Split) (plx tk_3 pz R R) R (wlq (pol R R) R (wlq (pof ZaF R) R (wlq (v := iv a_c.A) (plx tk_3 pz R R) R (wlq (pof ZaY R) R (wlq (v := iv a_c.B) (plx tk_3 pz R R) R (wlq (pol R R) R (wlq (ZnT ub_4 R R) R (asg R R (wnt (wct ?_))))))))))))))
 obtain rfl := oi t0
 exact wq1 R R fun w hw => ⟨R, hw.weak zn⟩

theorem Zaz (w : World) (a_b : GBlock) (v0a : Hd) (r0 : rdF w (dm w []) (sl v0a) a_b.Cells) {r : Bool} (t0 : Zab a_b = some r) : Calls Tryz.prog 142 #[.agg #[.int .i64 a_b.Size, (sl v0a)]] w fun e w' => e = .returned (.bool r) ∧ SH w [] [] w' := by
 refine cwc (args := [_]) Tryz.func142 R Tryz.ntmps142 R ?_
 unfold Zab at t0
 refine wcr (wle (Zh R R) R fun b1 => (asg R R (wnt (wcs (wcs (bdO t0 fun y1 t1 t0 => (wj (J := Bool) (X := Unit) (fun z => y1 = z) (fun z _ => [(1, ptr b1 0), (18, .bool z)]) (fun _ _ => [box b1 [iv a_b.Size, (sl v0a)]]) ?_ ?_)))))))
 refine wcg (wlq (pof ZL R) R (wlq (v := iv a_b.Size) (plx tk_3 pz R R) R (bdO t1 fun v1 hv1 t1 => (wlc (cz0 Zbo R fun w hw => ZT w a_b.Size 1 4 hv1) R fun _ => (wlq (Zd R) R (mv R R (wlo (t := 8) t1 R (fun h1 t1 => ?_) fun h1 t1 => ?_)))))))
 exact wgf (j := 4) R R R R R (wgf (j := 4) R R R R R (wgf (j := 4) R R R R R (wgf (j := 4) R R R R R (wgf (j := 4) R R R R R (wgf (j := 4) R R R R R (wgf (j := 4) R R R R R (wgf (j := 4) R R R R R (wgf (j := 4) R R R R R (wlq (pit R R) R (wln (wjm _ () (mtE t1) (su2 R R) so1)))))))))))
 exact wgn (j := 4) R R R (wlq (pof Zx R) R (wgn (j := 4) R R R (wlq (v := (sl v0a)) (plx ZR pz R R) R (wgn (j := 4) R R R (wlq (pln (rga r0) Z7 R) R (wgn (j := 4) R R R (wlq (pof ZL R) R (wgn (j := 4) R R R (wlq (v := iv a_b.Size) (plx tk_3 pz R R) R (wgn (j := 4) R R R (wlq (pof ZL R) R (wgn (j := 4) R R R (wlq (v := iv a_b.Size) (plx tk_3 pz R R) R (wgn (j := 4) R R R (wlq (Zcu R R) R (wgn (j := 4) R R R (wlq (Zeh R R) R (wlq (pif R R) R (wln (wjm _ () (mtE t1) (su2 R R) so1))))))))))))))))))))
 intro j1 _ hp
 obtain rfl : j1 = y1 := hp.symm
 refine wqt (wcO t0 R (fun h2 t0 => ?_) fun h2 t0 => ?_)
 refine wcr (asg R R (wnt (wct (wqr ?_))))
 obtain rfl := oi t0
 exact wq1 R R fun w hw => ⟨R, hw.weak zn⟩
 refine wck (wqt (wcs (wcr (asg R R (wnt (gdO t0 fun g1 t0 => (sqO t0 fun y1 l1 t0 => (wj (J := Unit) (X := Unit) (fun z => y1 = .inl z) (fun _ _ => []) (fun _ _ => []) ?_ ?_))))))))
 refine wcb (wcf (X := Unit) l1 (fun k1 s1 x1l => [(1, ptr b1 0), (3, iv ((k1 : Nat) : Int))]) (fun k1 s1 x1l => [box b1 [iv a_b.Size, (sl v0a)]]) () (su2 R R) so1 fun k1 s1 x1l hN1 l1 => ?_)
 by_cases hk1 : k1 < a_b.Cells.length
 refine fos l1 hk1 fun _ t1 l1 => ?_
 unfold Zgk at t1
 have c1 : (decide (((k1 : Nat) : Int) < ((a_b.Cells.length : Nat) : Int))) = true := ddt (by omega)
 refine wcs (wcr (mv R R (wlq (pof Zx R) R (wlq (v := (sl v0a)) (plx ZR pz R R) R (wlq (pln (rga r0) Z7 R) R (wlq (pls R R) R (wnt (wft R c1 (wck (wqt (wcs (wcb (wcr (wlq (pof Zx R) R (wlq (v := (sl v0a)) (plx ZR pz R R) R (mv R R (wlq (Zv (k := k1) (rga r0) Z7 R R hk1) R (wlq (v := .agg #[iv ((gx a_b.Cells k1).Split), iv ((gx a_b.Cells k1).A), iv ((gx a_b.Cells k1).B)]) (ZaB (rga r0) Zf R hk1 R R R) R (bdO t1 fun v2 hv2 t1 => (wlc (cz0 ZjL R fun w hw => Zc7 w (gx a_b.Cells k1) hv2) R fun _ => (wlq (Zd R) R (wnt (wcO t1 R (fun h3 t1 => ?_) fun h3 t1 => ?_)))))))))))))))))))))))
 refine wcr (asg R R (wnt (wct (wbr (wqr (wqr (wbr (wqr (wqr ?_)))))))))
 replace t0 := lpR t0 l1 t1
 obtain rfl := oi t0
 exact wq1 R R fun w hw => ⟨R, hw.weak zn⟩
 refine wck (wqb (wqt (wcg (mv R R (wlq (Zj R R (by omega)) R ?_)))))
 exact asg R R (wln (Zl hk1 (stpN l1 t1) () (su2 R R) so1))
 have c1 : (decide (((k1 : Nat) : Int) < ((a_b.Cells.length : Nat) : Int))) = false := ddf (by omega)
 have en1 := foe l1 hk1
 exact wcs (wcr (mv R R (wlq (pof Zx R) R (wlq (v := (sl v0a)) (plx ZR pz R R) R (wlq (pln (rga r0) Z7 R) R (wlq (pls R R) R (wnt (wff R c1 (wcx (wqe (wqe (wbx (wjm _ () en1 yn zn)))))))))))))
 intro e1 _ hp
 replace t0 := sqE (j := e1) t0 hp
 refine wqt (wcr (asg R R (wnt (wct ?_))))
 obtain rfl := oi t0
 exact wq1 R R fun w hw => ⟨R, hw.weak zn⟩

theorem Zir (w : World) (a_e : GEntry) (v0a : Hd) (r0 : rdF w (dm w []) (sl v0a) a_e.Block.Cells) {r : Bool} (t0 : Zcf a_e = some r) : Calls Tryz.prog 116 #[.agg #[.int .i64 a_e.Owner, .int .i64 a_e.Day, .int .i64 a_e.Block.Size, (sl v0a)]] w fun e w' => e = .returned (.bool r) ∧ SH w [] [] w' := by
 refine cwc (args := [_]) Tryz.func116 R Tryz.ntmps116 R ?_
 unfold Zcf at t0
 refine wcr (wle (Zh R R) R fun b1 => (asg R R (wnt (wcs (bdO t0 fun y1 t1 t0 => (wj (J := Bool) (X := Unit) (fun z => y1 = z) (fun z _ => [(2, .bool z)]) (fun _ _ => []) ?_ ?_))))))
 refine wcg (wlq (pof Zd7 R) R (wlq (v := iv a_e.Owner) (plx tk_3 pz R R) R (bdO t1 fun v1 hv1 t1 => (wlc (cz0 Zbo R fun w hw => ZT w a_e.Owner 0 99 hv1) R fun _ => (mv R R (wlo (t := 6) t1 R (fun h1 t1 => ?_) fun h1 t1 => ?_))))))
 refine wgn (j := 3) R R R (wlq (pof ZcD R) R (wgn (j := 3) R R R (wlq (v := iv a_e.Day) (plx tk_3 pz R R) R (bdO t1 fun v2 hv2 t1 => (wgn (j := 3) R R R (wlc (cz0 Zbo R fun w hw => ZT w a_e.Day 0 9999 hv2) R (fun _ => (wlq (pit R R) R (mv R R (wlo (t := 11) t1 R (fun h2 t1 => ?_) fun h2 t1 => ?_))))))))))
 exact wgn (j := 8) R R R (wlq (pof Za4 R) R (wgn (j := 8) R R R (wlq (v := .agg #[iv a_e.Block.Size, (sl v0a)]) (plb Zb pz R R R) R (bdO t1 fun v3 hv3 t1 => (wgn (j := 8) R R R (wlc (cz0 ZeR R fun w hw => Zaz w a_e.Block v0a (ra r0 hw) hv3) R (fun _ => (wlq (pit R R) R (asg R R (wln (wjm _ () (mtE t1) (su1 R) zn)))))))))))
 exact wgf (j := 8) R R R R R (wgf (j := 8) R R R R R (wgf (j := 8) R R R R R (wlq (pif R R) R (asg R R (wln (wjm _ () (mtE t1) (su1 R) zn))))))
 exact wgf (j := 3) R R R R R (wgf (j := 3) R R R R R (wgf (j := 3) R R R R R (wlq (pif R R) R (mv R R (wgf (j := 8) R R R R R (wgf (j := 8) R R R R R (wgf (j := 8) R R R R R (wlq (pif R R) R (asg R R (wln (wjm _ () (mtE t1) (su1 R) zn)))))))))))
 intro j1 _ hp
 obtain rfl : j1 = y1 := hp.symm
 refine wqt (wct ?_)
 obtain rfl := oi t0
 exact wq1 R R fun w hw => ⟨R, hw.weak zn⟩

theorem ZoB (w : World) (a_list : List GMember) (v0a : Hd) (r0 : rdF w (dm w []) (sl v0a) a_list) (a_number : Int) {r : Bool} (t0 : ZeN a_list a_number = some r) : Calls Tryz.prog 117 #[(sl v0a), .int .i64 a_number] w fun e w' => e = .returned (.bool r) ∧ SH w [] [] w' := by
 refine cwc (args := [_, _]) Tryz.func117 R Tryz.ntmps117 R ?_
 unfold ZeN at t0
 refine wcr (asg R R (wnt (wcs (wcr (asg R R (wnt (gdO t0 fun g1 t0 => (sqO t0 fun y1 l1 t0 => (wj (J := Unit) (X := Unit) (fun z => y1 = .inl z) (fun _ _ => []) (fun _ _ => []) ?_ ?_)))))))))
 refine wcb (wcf (X := Unit) l1 (fun k1 s1 x1l => [(0, (sl v0a)), (1, iv a_number), (5, iv ((k1 : Nat) : Int))]) (fun k1 s1 x1l => []) () (su3 R R R) zn fun k1 s1 x1l hN1 l1 => ?_)
 by_cases hk1 : k1 < a_list.length
 refine fos l1 hk1 fun _ t1 l1 => ?_
 unfold ZeB at t1
 have c1 : (decide (((k1 : Nat) : Int) < ((a_list.length : Nat) : Int))) = true := ddt (by omega)
 refine wcs (wcr (mv R R (mv R R (wlq (pln (rga r0) Zan R) R (wlq (pls R R) R (wnt (wft R c1 (wck (wqt (wcs (wcb (wcr (mv R R (mv R R (wlq (Zv (k := k1) (rga r0) Zan R R hk1) R (wlq (Zak (rga r0) hk1 Zch R) R (wlq (v := iv ((gx a_list k1).Number)) (ZD (rga r0) tk_3 R hk1 R) R (mv R R (wlq (pol R R) R (wnt (wcO t1 R (fun h1 t1 => ?_) fun h1 t1 => ?_)))))))))))))))))))))
 refine wcr (asg R R (wnt (wct (wbr (wqr (wqr (wbr (wqr (wqr ?_)))))))))
 replace t0 := lpR t0 l1 t1
 obtain rfl := oi t0
 exact wq1 R R fun w hw => ⟨R, hw.weak zn⟩
 refine wck (wqb (wqt (wcg (mv R R (wlq (Zj R R (by omega)) R ?_)))))
 exact asg R R (wln (Zl hk1 (stpN l1 t1) () (su3 R R R) zn))
 have c1 : (decide (((k1 : Nat) : Int) < ((a_list.length : Nat) : Int))) = false := ddf (by omega)
 have en1 := foe l1 hk1
 exact wcs (wcr (mv R R (mv R R (wlq (pln (rga r0) Zan R) R (wlq (pls R R) R (wnt (wff R c1 (wcx (wqe (wqe (wbx (wjm _ () en1 yn zn))))))))))))
 intro e1 _ hp
 replace t0 := sqE (j := e1) t0 hp
 refine wqt (wcr (asg R R (wnt (wct ?_))))
 obtain rfl := oi t0
 exact wq1 R R fun w hw => ⟨R, hw.weak zn⟩

theorem Zl9 (w : World) (a_list : List GMember) (v0a : Hd) (r0 : rdF w (dm w []) (sl v0a) a_list) (a_year : Int) {r : List Int} (t0 : Zde a_list a_year = some r) : Calls Tryz.prog 143 #[(sl v0a), .int .i64 a_year] w fun e w' => ∃ x : Hd, e = .returned ((sl x)) ∧ SH w [] [ownF (sl x) r] w' := by
 refine cwc (args := [_, _]) Tryz.func143 R Tryz.ntmps143 R ?_
 unfold Zde at t0
 refine wcr (asg R R (wnt (wcr (wle (ebs R Zao) R fun b1 => (asg R R (wnt (wcs (wcr (asg R R (wnt (gdO t0 fun g1 t0 => (Zr t0 fun y1 l1 t0 => (wj (J := List Int) (X := Hd) (fun z => y1 = z) (fun _ x => [(5, (sl x))]) (fun z x => [ownF (sl x) z]) ?_ ?_)))))))))))))
 refine wcb (wcf (X := Hd) l1 (fun k1 s1 x1l => [(0, (sl v0a)), (1, iv a_year), (5, (sl x1l)), (6, iv ((k1 : Nat) : Int))]) (fun k1 s1 x1l => [ownF (sl x1l) s1]) (⟨some ⟨b1, 0, none⟩, 0, 0⟩ : Hd) (su4 R R R R) (zc (pbo pz (n := 0) (xs := ([] : List Int)) R R (by unfold maxLen; omega)) zn) fun k1 s1 x1l hN1 l1 => ?_)
 by_cases hk1 : k1 < a_list.length
 refine fos l1 hk1 fun _ t1 l1 => ?_
 unfold ZbA at t1
 have c1 : (decide (((k1 : Nat) : Int) < ((a_list.length : Nat) : Int))) = true := ddt (by omega)
 refine wcs (wcr (mv R R (mv R R (wlq (pln (rga r0) Zan R) R (wlq (pls R R) R (mv R R (ZhW (t := 12) R c1 (wgn (j := 4) R R R (mv R R (bdO t1 fun v1 hv1 t1 => (wgn (j := 4) R R R (wlc (cz0 ZkN R fun w hw => ZcB w a_list v0a (ra r0 hw) hv1) R (fun _ => (wlq (pit R R) R (wnt (wcO t1 R (fun h1 t1 => ?_) fun h1 t1 => ?_))))))))))))))))
 refine wck (wqt (wcs (wcb (wcr (mv R R (mv R R (wlq (Zv (k := k1) (rga r0) Zan R R hk1) R (wlq (Zak (rga r0) hk1 Zg6 R) R (wlq (v := iv ((gx a_list k1).Paid)) (ZD (rga r0) tk_3 R hk1 R) R (mv R R (wlq (Ze1 R R) R (wnt (bdO t1 fun y2 t2 t1 => (wj (J := List Int) (X := Hd) (fun z => y2 = z) (fun _ x => [(0, (sl v0a)), (1, iv a_year), (5, (sl x)), (6, iv ((k1 : Nat) : Int)), (13, (sl v0a)), (14, .bool v1)]) (fun z x => [ownF (sl x) z]) ?_ ?_))))))))))))))
 refine wcO t2 R (fun h2 t2 => ?_) fun h2 t2 => ?_
 refine wcg (mv R R (mv R R (mv R R (wlq (Zv (k := k1) (rga r0) Zan R R hk1) R (wlq (Zak (rga r0) hk1 Zch R) R (wlq (v := iv ((gx a_list k1).Number)) (ZD (rga r0) tk_3 R hk1 R) R (wle (ebs R (ZaZ ((gx a_list k1).Number))) R fun b2 => (gdO t2 fun g2 t2 => (wle (Zg (xs := s1) (ys := ([(gx a_list k1).Number] : List Int)) Zb1 pk1 R R (Zi fun _ g => Rg.on (rgo (pbo pz (n := 1) (xs := ([(gx a_list k1).Number] : List Int)) R R (by unfold maxLen; omega))) g) g2) R fun x3 => ?_)))))))))
 exact asg R R (wln (wjm _ x3 (mtE t2) (su6 R R R R R R) so1))
 exact wck (wjm _ x1l (mtE t2) (su6 R R R R R R) so1)
 intro j1 x2 hp
 obtain rfl : j1 = y2 := hp.symm
 refine wqb (wqt (wcg (mv R R (wlq (Zj R R (by omega)) R ?_))))
 exact asg R R (wln (Zl hk1 (stpN l1 t1) x2 (su4 R R R R) so1))
 exact wcx (wqe (wqe (wbx (wjm _ x1l (Sum.inl.inj (stpB l1 t1)) (su1 R) so1))))
 have c1 : (decide (((k1 : Nat) : Int) < ((a_list.length : Nat) : Int))) = false := ddf (by omega)
 have en1 := foe l1 hk1
 exact wcs (wcr (mv R R (mv R R (wlq (pln (rga r0) Zan R) R (wlq (pls R R) R (mv R R (ZhW (t := 12) R c1 (wgf (j := 4) R R R R R (wgf (j := 4) R R R R R (wlq (pif R R) R (wnt (wff R R (wcx (wqe (wqe (wbx (wjm _ x1l (Sum.inl.inj en1) (su1 R) so1)))))))))))))))))
 intro e1 x1 hp
 obtain rfl : e1 = y1 := hp.symm
 refine wqt (wcr (mv R R (asg R R (wnt (wct ?_)))))
 obtain rfl := oi t0
 exact wq1 R R fun w hw => ⟨x1, R, hw.weak so1⟩

theorem ZnC (w : World) (a_g : GGuild) (v0a : Hd) (r0 : rdF w (dm w []) (sl v0a) a_g.Members) (v1a : Hd) (_r1 : rdF w (dm w []) (sl v1a) a_g.Stock) (v2a : Hd) (u2a : List Value) (_r2 : RdL w (dm w []) (sl v2a) u2a a_g.Entries) (v3a : Hd) (_r3 : rdF w (dm w []) (sl v3a) a_g.Books) {r : Int} (t0 : Zb9 a_g = some r) : Calls Tryz.prog 118 #[.agg #[(sl v0a), (sl v1a), (sl v2a), (sl v3a), .int .i64 a_g.Round, .int .i64 a_g.Year]] w fun e w' => e = .returned (.int .i64 r) ∧ SH w [] [] w' := by
 refine cwc (args := [_]) Tryz.func118 R Tryz.ntmps118 R ?_
 unfold Zb9 at t0
 refine wcr (wle (Zh R R) R fun b1 => (asg R R (wnt (wcr (wlq (pof Zcl R) R (wlq (v := (sl v0a)) (plx Zet pz R R) R (wlq (pof ZeK R) R (wlq (v := iv a_g.Year) (plx tk_3 pz R R) R (bdO t0 fun v1 hv1 t0 => (wlc (cz1 Zwe R fun w hw => Zl9 w a_g.Members v0a (ra r0 hw) a_g.Year hv1) R fun x1 => (wlq (pln (rgo pz) ZH R) R (asg R R (wnt (wcs (wcr (mv R R (bdO t0 fun v2 hv2 t0 => (wlc (cz0 Zbo R fun w hw => ZT w ((v1.length : Nat) : Int) 2 10 hv2) R fun _ => (wlq (Zd R) R (wnt (wcO t0 R (fun h1 t0 => ?_) fun h1 t0 => ?_)))))))))))))))))))))
 refine wcr (asg R R (wnt (wct (wqr ?_))))
 obtain rfl := oi t0
 exact wq1 R R fun w hw => ⟨R, hw.weak zn⟩
 refine wck (wqt (wcr (mv R R (wlq (Zad R R) R (asg R R (wnt (wct ?_)))))))
 obtain rfl := oi t0
 exact wq1 R R fun w hw => ⟨R, hw.weak zn⟩

theorem ZcH (w : World) (a_g : GGuild) (v0a : Hd) (r0 : rdF w (dm w []) (sl v0a) a_g.Members) (v1a : Hd) (r1 : rdF w (dm w []) (sl v1a) a_g.Stock) (v2a : Hd) (u2a : List Value) (r2 : RdL w (dm w []) (sl v2a) u2a a_g.Entries) (v3a : Hd) (r3 : rdF w (dm w []) (sl v3a) a_g.Books) {r : Bool} (t0 : Zas a_g = some r) : Calls Tryz.prog 89 #[.agg #[(sl v0a), (sl v1a), (sl v2a), (sl v3a), .int .i64 a_g.Round, .int .i64 a_g.Year]] w fun e w' => e = .returned (.bool r) ∧ SH w [] [] w' := by
 refine cwc (args := [_]) Tryz.func89 R Tryz.ntmps89 R ?_
 unfold Zas at t0
 refine wcr (wle (Zh R R) R fun b1 => (asg R R (wnt (wcs (wcs (bdO t0 fun y1 t1 t0 => (wj (J := Bool) (X := Unit) (fun z => y1 = z) (fun z _ => [(1, ptr b1 0), (32, .bool z)]) (fun _ _ => [box b1 [(sl v0a), (sl v1a), (sl v2a), (sl v3a), iv a_g.Round, iv a_g.Year]]) ?_ ?_)))))))
 refine wcg (wlq (pof Zcl R) R (wlq (v := (sl v0a)) (plx Zet pz R R) R (bdO t1 fun v1 hv1 t1 => (wlc (cz0 ZkN R fun w hw => ZcB w a_g.Members v0a (ra r0 hw) hv1) R fun _ => (wlq (Zd R) R (mv R R (wlo (t := 9) t1 R (fun h1 t1 => ?_) fun h1 t1 => ?_)))))))
 exact wgf (j := 4) R R R R R (wgf (j := 4) R R R R R (wgf (j := 4) R R R R R (wgf (j := 4) R R R R R (wlq (pit R R) R (mv R R (wgf (j := 10) R R R R R (wgf (j := 10) R R R R R (wgf (j := 10) R R R R R (wgf (j := 10) R R R R R (wlq (pit R R) R (mv R R (wgf (j := 16) R R R R R (wgf (j := 16) R R R R R (wgf (j := 16) R R R R R (wgf (j := 16) R R R R R (wlq (pit R R) R (mv R R (wgf (j := 22) R R R R R (wgf (j := 22) R R R R R (wgf (j := 22) R R R R R (wgf (j := 22) R R R R R (wlq (pit R R) R (wln (wjm _ () (mtE t1) (su2 R R) so1))))))))))))))))))))))))
 refine wgn (j := 4) R R R (wlq (pof ZeP R) R (wgn (j := 4) R R R (wlq (v := (sl v1a)) (plx Zeu pz R R) R (bdO t1 fun v2 hv2 t1 => (wgn (j := 4) R R R (wlc (cz0 Zw6 R fun w hw => Zqk w a_g.Stock v1a (ra r1 hw) hv2) R (fun _ => (wgn (j := 4) R R R (wlq (Zd R) R (wlq (pif R R) R (mv R R (wlo (t := 15) t1 R (fun h2 t1 => ?_) fun h2 t1 => ?_))))))))))))
 exact wgf (j := 10) R R R R R (wgf (j := 10) R R R R R (wgf (j := 10) R R R R R (wgf (j := 10) R R R R R (wlq (pit R R) R (mv R R (wgf (j := 16) R R R R R (wgf (j := 16) R R R R R (wgf (j := 16) R R R R R (wgf (j := 16) R R R R R (wlq (pit R R) R (mv R R (wgf (j := 22) R R R R R (wgf (j := 22) R R R R R (wgf (j := 22) R R R R R (wgf (j := 22) R R R R R (wlq (pit R R) R (wln (wjm _ () (mtE t1) (su2 R R) so1))))))))))))))))))
 refine wgn (j := 10) R R R (wlq (pof ZdB R) R (wgn (j := 10) R R R (wlq (v := (sl v3a)) (plx Zg5 pz R R) R (bdO t1 fun v3 hv3 t1 => (wgn (j := 10) R R R (wlc (cz0 ZrS R fun w hw => Zh7 w a_g.Books v3a (ra r3 hw) hv3) R (fun _ => (wgn (j := 10) R R R (wlq (Zd R) R (wlq (pif R R) R (mv R R (wlo (t := 21) t1 R (fun h3 t1 => ?_) fun h3 t1 => ?_))))))))))))
 exact wgf (j := 16) R R R R R (wgf (j := 16) R R R R R (wgf (j := 16) R R R R R (wgf (j := 16) R R R R R (wlq (pit R R) R (mv R R (wgf (j := 22) R R R R R (wgf (j := 22) R R R R R (wgf (j := 22) R R R R R (wgf (j := 22) R R R R R (wlq (pit R R) R (wln (wjm _ () (mtE t1) (su2 R R) so1))))))))))))
 refine wgn (j := 16) R R R (wlq (pof Zaj R) R (wgn (j := 16) R R R (wlq (v := (sl v2a)) (plx Za5 pz R R) R (wgn (j := 16) R R R (wlq (pln (rga r2) Zbv R) R (wgn (j := 16) R R R (wlq (ZaD R R) R (wlq (pif R R) R (mv R R (wlo (t := 27) t1 R (fun h4 t1 => ?_) fun h4 t1 => ?_))))))))))
 exact wgf (j := 22) R R R R R (wgf (j := 22) R R R R R (wgf (j := 22) R R R R R (wgf (j := 22) R R R R R (wlq (pit R R) R (wln (wjm _ () (mtE t1) (su2 R R) so1))))))
 exact wgn (j := 22) R R R (wlq (pof ZeK R) R (wgn (j := 22) R R R (wlq (v := iv a_g.Year) (plx tk_3 pz R R) R (bdO t1 fun v4 hv4 t1 => (wgn (j := 22) R R R (wlc (cz0 Zbo R fun w hw => ZT w a_g.Year 1900 2999 hv4) R (fun _ => (wgn (j := 22) R R R (wlq (Zd R) R (wlq (pif R R) R (wln (wjm _ () (mtE t1) (su2 R R) so1))))))))))))
 intro j1 _ hp
 obtain rfl : j1 = y1 := hp.symm
 refine wqt (wcO t0 R (fun h5 t0 => ?_) fun h5 t0 => ?_)
 refine wcr (asg R R (wnt (wct (wqr ?_))))
 obtain rfl := oi t0
 exact wq1 R R fun w hw => ⟨R, hw.weak zn⟩
 refine wck (wqt (wcs (wcr (asg R R (wnt (gdO t0 fun g1 t0 => (sqO t0 fun y1 l1 t0 => (wj (J := Unit) (X := Unit) (fun z => y1 = .inl z) (fun _ _ => [(1, ptr b1 0)]) (fun _ _ => [box b1 [(sl v0a), (sl v1a), (sl v2a), (sl v3a), iv a_g.Round, iv a_g.Year]]) ?_ ?_))))))))
 refine wcb (wcf (X := Unit) l1 (fun k1 s1 x1l => [(1, ptr b1 0), (3, iv ((k1 : Nat) : Int))]) (fun k1 s1 x1l => [box b1 [(sl v0a), (sl v1a), (sl v2a), (sl v3a), iv a_g.Round, iv a_g.Year]]) () (su2 R R) so1 fun k1 s1 x1l hN1 l1 => ?_)
 by_cases hk1 : k1 < a_g.Entries.length
 refine fos l1 hk1 fun _ t1 l1 => ?_
 unfold Zgo at t1
 have c1 : (decide (((k1 : Nat) : Int) < ((a_g.Entries.length : Nat) : Int))) = true := ddt (by omega)
 refine wcs (wcr (mv R R (wlq (pof Zaj R) R (wlq (v := (sl v2a)) (plx Za5 pz R R) R (wlq (pln (rga r2) Zbv R) R (wlq (pls R R) R (wnt (wft R c1 (wck (wqt (wcs (wcb (wcr (wlq (pof Zaj R) R (wlq (v := (sl v2a)) (plx Za5 pz R R) R (mv R R (wlq (Zv (k := k1) (rga r2) Zbv R R hk1) R (Zf3 (rga r2) hk1 ?_))))))))))))))))))
 rintro ⟨_, _, he1⟩
 obtain ⟨w1, hc1, _⟩ := ZbW.1 he1
 refine wlq (v := .agg #[iv ((gx a_g.Entries k1).Owner), iv ((gx a_g.Entries k1).Day), iv (((gx a_g.Entries k1).Block).Size), (sl w1)]) (Zdy (rga r2) Za7 R hc1 R R R) R (wle (eal (cs := [iv 0, iv 0, iv 0, (sl hn)]) ZgP) R fun b2 => (wls (sbx (cs' := [iv ((gx a_g.Entries k1).Owner), iv ((gx a_g.Entries k1).Day), iv (((gx a_g.Entries k1).Block).Size), (sl w1)]) Za7 pz R R R R R R R) (wnt (wcs (bdO t1 fun y2 t2 t1 => (wj (J := Bool) (X := Unit) (fun z => y2 = z) (fun z _ => [(1, ptr b1 0), (3, iv ((k1 : Nat) : Int)), (71, .bool z)]) (fun _ _ => [box b1 [(sl v0a), (sl v1a), (sl v2a), (sl v3a), iv a_g.Round, iv a_g.Year]]) ?_ ?_))))))
 refine wcd [box b2 [iv ((gx a_g.Entries k1).Owner), iv ((gx a_g.Entries k1).Day), iv (((gx a_g.Entries k1).Block).Size), (sl w1)], box b1 [(sl v0a), (sl v1a), (sl v2a), (sl v3a), iv a_g.Round, iv a_g.Year]] 27 mixed (aq (v := .agg #[iv ((gx a_g.Entries k1).Owner), iv ((gx a_g.Entries k1).Day), iv (((gx a_g.Entries k1).Block).Size), (sl w1)]) 0 R (plb Za7 pz R R R) so2 R (a1 1 (bdO t2 fun v5 hv5 t2 => (wsc R (cz0 ZrD R fun w hw => Zir w (GEntry.mk ((gx a_g.Entries k1).Owner) ((gx a_g.Entries k1).Day) ((gx a_g.Entries k1).Block)) w1 (Rg.on (ZcN hc1 (rga r2) hk1) hw) hv5) (fun _ => (zt so2)) R fun _ => (aq 2 R (Zd R) so2 R (aq 3 R (pom R) so2 R (waO_ (t := 48) t2 R (fun h6 t2 => ?_) fun h6 t2 => ?_)))))))
 exact af 4 3 R R R R R so2 R (af 5 3 R R R R R so2 R (af 6 3 R R R R R so2 R (af 7 3 R R R R R so2 R (af 8 3 R R R R R so2 R (af 9 3 R R R R R so2 R (aq 10 R (pit R R) so2 R (aq 11 R (pom R) so2 R (af 12 11 R R R R R so2 R (af 13 11 R R R R R so2 R (af 14 11 R R R R R so2 R (au 15 14 R R R R so2 R (au 16 14 R R R R so2 R (au 17 14 R R R R so2 R (au 18 14 R R R R so2 R (au 19 14 R R R R so2 R (au 20 14 R R R R so2 R (au 21 14 R R R R so2 R (au 22 14 R R R R so2 R (au 23 14 R R R R so2 R (au 24 14 R R R R so2 R (af 25 11 R R R R R so2 R (aq 26 R (pit R R) so2 R (ae (wjm _ () (mtE t2) (su3 R R R) (zc pk1 zn)))))))))))))))))))))))))
 refine an 4 3 R R R R (pof Zcl R) so2 R (an (v := (sl v0a)) 5 3 R R R R (plx Zet pk1 R R) so2 R (an 6 3 R R R R (pof Zd7 R) so2 R (an (v := iv ((gx a_g.Entries k1).Owner)) 7 3 R R R R (plx tk_3 pz R R) so2 R (a1 8 (bdO t2 fun v6 hv6 t2 => (ZW (j := 3) R R R R (cz0 ZwP R fun w hw => ZoB w a_g.Members v0a (ra r0 hw) ((gx a_g.Entries k1).Owner) hv6) (fun _ => (zt so2)) R fun _ => (an 9 3 R R R R (Zd R) so2 R (aq 10 R (pif R R) so2 R (aq 11 R (pom R) so2 R (waO_ (t := 56) t2 R (fun h7 t2 => ?_) fun h7 t2 => ?_))))))))))
 exact af 12 11 R R R R R so2 R (af 13 11 R R R R R so2 R (af 14 11 R R R R R so2 R (au 15 14 R R R R so2 R (au 16 14 R R R R so2 R (au 17 14 R R R R so2 R (au 18 14 R R R R so2 R (au 19 14 R R R R so2 R (au 20 14 R R R R so2 R (au 21 14 R R R R so2 R (au 22 14 R R R R so2 R (au 23 14 R R R R so2 R (au 24 14 R R R R so2 R (af 25 11 R R R R R so2 R (aq 26 R (pit R R) so2 R (ae (wjm _ () (mtE t2) (su3 R R R) (zc pk1 zn)))))))))))))))))
 refine an 12 11 R R R R (pom R) so2 R (an 13 11 R R R R (ZaD R R) so2 R (an 14 11 R R R R (pom R) so2 R (waO_ (t := 59) t2 R (fun h8 t2 => ?_) fun h8 t2 => ?_)))
 refine an 15 14 R R R R (pof ZcD R) so2 R (an (v := iv ((gx a_g.Entries k1).Day)) 16 14 R R R R (plx tk_3 pz R R) so2 R (an 17 14 R R R R (pof Zaj R) so2 R (an (v := (sl v2a)) 18 14 R R R R (plx Za5 pk1 R R) so2 R (an 19 14 R R R R (pom R) so2 R (an 20 14 R R R R (Zad R R) so2 R (gdO t2 fun g2 t2 => (an 21 14 R R R R (Z8 (rga r2) Zbv R R g2.1 g2.2) so2 R (an 22 14 R R R R (Zak (rga r2) (ZK g2) ZcD R) so2 R (Zju (rga r2) (ZK g2) ?_)))))))))
 rintro ⟨_, _, he2⟩
 obtain ⟨w2, hc2, _⟩ := ZbW.1 he2
 exact an (v := iv ((gx a_g.Entries (((wr (((k1 : Nat) : Int) - 1))).toNat)).Day)) 23 14 R R R R (ZkY (rga r2) tk_3 R hc2 R) so2 R (an 24 14 R R R R (pls R R) so2 R (an 25 11 R R R R (pit R R) so2 R (aq 26 R (pif R R) so2 R (ae (wjm _ () (mtE t2) (su3 R R R) (zc pk1 zn))))))
 exact af 15 14 R R R R R so2 R (af 16 14 R R R R R so2 R (af 17 14 R R R R R so2 R (af 18 14 R R R R R so2 R (af 19 14 R R R R R so2 R (af 20 14 R R R R R so2 R (af 21 14 R R R R R so2 R (af 22 14 R R R R R so2 R (af 23 14 R R R R R so2 R (af 24 14 R R R R R so2 R (an 25 11 R R R R (pif R R) so2 R (aq 26 R (pif R R) so2 R (ae (wjm _ () (mtE t2) (su3 R R R) (zc pk1 zn))))))))))))))
 intro j2 _ hp
 obtain rfl : j2 = y2 := hp.symm
 refine wqt (wcO t1 R (fun h9 t1 => ?_) fun h9 t1 => ?_)
 refine wcr (asg R R (wnt (wct (wbr (wqr (wqr (wbr (wqr (wqr ?_)))))))))
 replace t0 := lpR t0 l1 t1
 obtain rfl := oi t0
 exact wq1 R R fun w hw => ⟨R, hw.weak zn⟩
 refine wck (wqb (wqt (wcg (mv R R (wlq (Zj R R (by omega)) R ?_)))))
 exact asg R R (wln (Zl hk1 (stpN l1 t1) () (su2 R R) so1))
 have c1 : (decide (((k1 : Nat) : Int) < ((a_g.Entries.length : Nat) : Int))) = false := ddf (by omega)
 have en1 := foe l1 hk1
 exact wcs (wcr (mv R R (wlq (pof Zaj R) R (wlq (v := (sl v2a)) (plx Za5 pz R R) R (wlq (pln (rga r2) Zbv R) R (wlq (pls R R) R (wnt (wff R c1 (wcx (wqe (wqe (wbx (wjm _ () en1 (su1 R) so1)))))))))))))
 intro e1 _ hp
 replace t0 := sqE (j := e1) t0 hp
 refine wqt (wcs (wcd [box b1 [(sl v0a), (sl v1a), (sl v2a), (sl v3a), iv a_g.Round, iv a_g.Year]] 6 mixed (aq 0 R (pof Zdz R) so1 R (aq (v := iv a_g.Round) 1 R (plx tk_3 pz R R) so1 R (aq (v := .agg #[(sl v0a), (sl v1a), (sl v2a), (sl v3a), iv a_g.Round, iv a_g.Year]) 2 R (plb Zc pz R R R) so1 R (a1 3 (bdO t0 fun v7 hv7 t0 => (wsc R (cz0 ZwU R fun w hw => ZnC w a_g v0a (ra r0 hw) v1a (ra r1 hw) v2a u2a (ra r2 hw) v3a (ra r3 hw) hv7) (fun _ => (zt so1)) R fun _ => (a1 4 (bdO t0 fun v8 hv8 t0 => (wsc R (cz0 Zbo R fun w hw => ZT w a_g.Round 0 v7 hv8) (fun _ => (zt so1)) R fun _ => (aq 5 R (Zu R) so1 R (ae (wqt (wct ?_)))))))))))))))
 obtain rfl := oi t0
 exact wq1 R R fun w hw => ⟨R, hw.weak zn⟩

theorem Zkn (w : World) (a_year : Int) {r : GGuild × Bool} (t0 : Zcr a_year = some r) : Calls Tryz.prog 62 #[.int .i64 a_year] w fun e w' => ∃ x : Hd × Hd × Hd × (List Value) × Hd, e = .returned (.tuple #[.agg #[(sl x.1), (sl x.2.1), (sl x.2.2.1), (sl x.2.2.2.2), .int .i64 r.1.Round, .int .i64 r.1.Year], .bool r.2]) ∧ SH w [] [ownF (sl x.1) r.1.Members, ownF (sl x.2.1) r.1.Stock, own (sl x.2.2.1) x.2.2.2.1 r.1.Entries, ownF (sl x.2.2.2.2) r.1.Books] w' := by
 refine cwc (args := [_]) Tryz.func62 R Tryz.ntmps62 R ?_
 unfold Zcr at t0
 refine wcr (wle (eal (cs := [(sl hn), (sl hn), (sl hn), (sl hn), iv 0, iv 0]) ZF) R fun b1 => (asg R R (wnt (wcr (mv R R (wlq (Zk R (ZvK a_year)) R (wle (eal (cs := [(sl hn), (sl hn), (sl hn), (sl hn), iv 0, iv 0]) ZF) R fun b2 => (wls (sbx (cs' := [(sl hn), (sl hn), (sl hn), (sl hn), iv 0, iv a_year]) Zc pz R R R R R R R) (wnt (wcs (wcr (asg R R (wnt (Zr t0 fun y1 l1 t0 => (wj (J := List Int) (X := Hd) (fun z => y1 = z) (fun _ _ => [(2, ptr b1 0), (4, ptr b2 0)]) (fun z x => [box b2 [(sl hn), (sl x), (sl hn), (sl hn), iv 0, iv a_year], box b1 [(sl hn), (sl hn), (sl hn), (sl hn), iv 0, iv 0], ownF (sl x) z]) ?_ ?_)))))))))))))))
 refine wcb (wcf (X := Hd) l1 (fun k1 s1 x1l => [(2, ptr b1 0), (4, ptr b2 0), (5, iv ((k1 : Nat) : Int))]) (fun k1 s1 x1l => [box b2 [(sl hn), (sl x1l), (sl hn), (sl hn), iv 0, iv a_year], box b1 [(sl hn), (sl hn), (sl hn), (sl hn), iv 0, iv 0], ownF (sl x1l) s1]) hn (su3 R R R) (zc pz (zc pz (zc ZB zn))) fun k1 s1 x1l hN1 l1 => ?_)
 by_cases hk1 : k1 < 6
 refine fos l1 hk1 fun _ t1 l1 => ?_
 unfold Zfp at t1
 have c1 : (decide (((k1 : Nat) : Int) < 6)) = true := ddt (by omega)
 refine wcs (wcr (mv R R (wlq (pls R R) R (wnt (wft R c1 (wck (wqt (wcs (wcb (wcg (wlq (pof ZeP R) R (wlq (v := (sl x1l)) (plx Zeu pz R R) R (wle (ebs R (ZaZ 1000)) R fun b3 => (gdO t1 fun g1 t1 => (wle (Zg (xs := s1) (ys := ([1000] : List Int)) Zb1 pk3 R R (Zi fun _ g => Rg.on (rgo (pbo pz (n := 1) (xs := ([1000] : List Int)) R R (by unfold maxLen; omega))) g) g1) R fun x2 => ?_)))))))))))))))
 refine wlq (pof ZeP R) R (wls (sbx (cs' := [(sl hn), (sl x2), (sl hn), (sl hn), iv 0, iv a_year]) Zeu pk2 R R R R R R R) (wln (wqb (wqt (wcg (mv R R (wlq (Zj R R (by omega)) R ?_)))))))
 exact asg R R (wln (Zl hk1 (stpN l1 t1) x2 (su3 R R R) (zc pz (zc pk2 so1))))
 have c1 : (decide (((k1 : Nat) : Int) < 6)) = false := ddf (by omega)
 have en1 := foe l1 hk1
 exact wcs (wcr (mv R R (wlq (pls R R) R (wnt (wff R c1 (wcx (wqe (wqe (wbx (wjm _ x1l (Sum.inl.inj en1) (su2 R R) so3))))))))))
 intro e1 x1 hp
 obtain rfl : e1 = y1 := hp.symm
 refine wqt (wcs (wcr (wlq (v := .agg #[(sl hn), (sl x1), (sl hn), (sl hn), iv 0, iv a_year]) (plb Zc pz R R R) R (bdO t0 fun v1 hv1 t0 => (wlc (cz0 Zlz R fun w hw => ZcH w (GGuild.mk ([] : List GMember) e1 ([] : List GEntry) ([] : List GBooking) 0 a_year) hn (Rg.on ZjA hw) x1 (Rg.on (rgo pk2) hw) hn [] (Rg.on ZjA hw) hn (Rg.on ZjA hw) hv1) R fun _ => (wlq (Zd R) R (wnt (wcO t0 R (fun h1 t0 => ?_) fun h1 t0 => ?_))))))))
 refine wcr (wlq (Zk R Zvp) R (wls (sbx (cs' := [(sl hn), (sl hn), (sl hn), (sl hn), iv 0, iv 0]) Zc pk1 R R R R R R R) (asg R R (wnt (wct (wqr ?_))))))
 obtain rfl := oi t0
 exact ZG R Zc R R pz R fun w hw => ⟨(hn, hn, hn, [], hn), R, hw.weak (zc ZB (zc ZB (zc ZB (zc ZB zn))))⟩
 refine wck (wqt (wcr (wlq (v := .agg #[(sl hn), (sl x1), (sl hn), (sl hn), iv 0, iv a_year]) (plb Zc pz R R R) R (wls (sbx (cs' := [(sl hn), (sl x1), (sl hn), (sl hn), iv 0, iv a_year]) Zc pk1 R R R R R R R) (asg R R (wnt (wct ?_)))))))
 obtain rfl := oi t0
 exact ZG R Zc R R pz R fun w hw => ⟨(hn, x1, hn, [], hn), R, hw.weak (zc ZB (zc pk2 (zc ZB (zc ZB zn))))⟩

theorem Zg2 (w : World) (a_b : GBlock) (v0a : Hd) (r0 : rdF w (dm w []) (sl v0a) a_b.Cells) {r : GBlock} (t0 : Za8 a_b = some r) : Calls Tryz.prog 95 #[.agg #[.int .i64 a_b.Size, (sl v0a)]] w fun e w' => ∃ x : Hd, e = .returned (.agg #[.int .i64 r.Size, (sl x)]) ∧ SH w [] [ownF (sl x) r.Cells] w' := by
 refine cwc (args := [_]) Tryz.func95 R Tryz.ntmps95 R ?_
 unfold Za8 at t0
 refine wcr (wle (Zh R R) R fun b1 => (wle (eal (cs := [iv 0, (sl hn)]) Zav) R fun b2 => (wnt (wcs (wcd [box b2 [iv 0, (sl hn)], box b1 [iv a_b.Size, (sl v0a)]] 7 mixed (aq 0 R (pof ZL R) so2 R (aq (v := iv a_b.Size) 1 R (plx tk_3 pk1 R R) so2 R (aq 3 R (pof Zx R) so2 R (aq (v := (sl v0a)) 4 R (plx ZR pk1 R R) so2 R (a1 2 (wse R (ebs R ZsZ) (fun _ => (zt (zc pk1 (zc pk1 zn)))) R fun b3 => (a1 5 (gdO t0 fun g1 t0 => (wse R (Zg (xs := ([] : List GCell)) (ys := a_b.Cells) Zlo (pbo pz (n := 0) (xs := ([] : List GCell)) R R (by unfold maxLen; omega)) R R (Zi fun _ g => Rg.on (rga r0) g) g1) (fun _ => (zt (zc pk1 (zc pk1 zn)))) R fun x1 => ?_))))))))))))))
 refine aq 6 R (Zk R (ZmK a_b.Size x1)) (zc pk1 (zc pk1 zn)) R (a1 7 (ZU R (sbx (cs' := [iv a_b.Size, (sl x1)]) Zb pk1 R R R R R R R) (Zaw (by kernel_rfl)) ?_))
 refine ae (wqt (wct ?_))
 obtain rfl := oi t0
 exact wqc R Zb R pz R fun w hw => ⟨x1, R, hw.weak (zc pk1 zn)⟩

theorem ZdC (w : World) (a_g : GGuild) (v0a : Hd) (r0 : rdF w (dm w []) (sl v0a) a_g.Members) (v1a : Hd) (r1 : rdF w (dm w []) (sl v1a) a_g.Stock) (v2a : Hd) (u2a : List Value) (r2 : RdL w (dm w []) (sl v2a) u2a a_g.Entries) (v3a : Hd) (r3 : rdF w (dm w []) (sl v3a) a_g.Books) {r : GGuild} (t0 : ZaP a_g = some r) : Calls Tryz.prog 90 #[.agg #[(sl v0a), (sl v1a), (sl v2a), (sl v3a), .int .i64 a_g.Round, .int .i64 a_g.Year]] w fun e w' => ∃ x : Hd × Hd × Hd × (List Value) × Hd, e = .returned (.agg #[(sl x.1), (sl x.2.1), (sl x.2.2.1), (sl x.2.2.2.2), .int .i64 r.Round, .int .i64 r.Year]) ∧ SH w [] [ownF (sl x.1) r.Members, ownF (sl x.2.1) r.Stock, own (sl x.2.2.1) x.2.2.2.1 r.Entries, ownF (sl x.2.2.2.2) r.Books] w' := by
 refine cwc (args := [_]) Tryz.func90 R Tryz.ntmps90 R ?_
 unfold ZaP at t0
 refine wcr (wle (Zh R R) R fun b1 => (wle (eal (cs := [(sl hn), (sl hn), (sl hn), (sl hn), iv 0, iv 0]) ZF) R fun b2 => (wnt (wcs (gdO t0 fun g1 t0 => (gdO t0 fun g2 t0 => (gdO t0 fun g3 t0 => (wcj (X := Nat × Hd × Hd × Hd) (fun _ => True) (fun z => [(1, ptr b1 0), (2, ptr b2 0), (3, ptr z.1 0)]) (fun z => [box z.1 [(sl z.2.1), (sl z.2.2.1), (sl hn), (sl z.2.2.2), iv a_g.Round, iv a_g.Year], ownF (sl z.2.2.2) (([] : List GBooking) ++ a_g.Books), ownF (sl z.2.2.1) (([] : List Int) ++ a_g.Stock), ownF (sl z.2.1) (([] : List GMember) ++ a_g.Members), box b2 [(sl hn), (sl hn), (sl hn), (sl hn), iv 0, iv 0], box b1 [(sl v0a), (sl v1a), (sl v2a), (sl v3a), iv a_g.Round, iv a_g.Year]]) ?_ ?_))))))))
 refine wcd [box b2 [(sl hn), (sl hn), (sl hn), (sl hn), iv 0, iv 0], box b1 [(sl v0a), (sl v1a), (sl v2a), (sl v3a), iv a_g.Round, iv a_g.Year]] 18 mixed (Zr3 [⟨9, #[false, true, true, false, false, true, true, false, false, true, true, false, true, true, true, true, false, false, false], Unit, fun _ => [(1, ptr b1 0), (2, ptr b2 0), (8, (sl v0a)), (12, (sl v1a)), (16, (sl v3a)), (19, iv a_g.Round), (21, iv a_g.Year)], fun _ => [box b2 [(sl hn), (sl hn), (sl hn), (sl hn), iv 0, iv 0], box b1 [(sl v0a), (sl v1a), (sl v2a), (sl v3a), iv a_g.Round, iv a_g.Year]]⟩, ⟨8, #[true, true, true, false, false, true, true, false, false, true, true, false, true, true, true, true, false, false, false], Nat, fun z => [(1, ptr b1 0), (2, ptr b2 0), (6, (sl (⟨some ⟨z, 0, none⟩, 0, 0⟩ : Hd))), (8, (sl v0a)), (12, (sl v1a)), (16, (sl v3a)), (19, iv a_g.Round), (21, iv a_g.Year)], fun z => [box z [], box b2 [(sl hn), (sl hn), (sl hn), (sl hn), iv 0, iv 0], box b1 [(sl v0a), (sl v1a), (sl v2a), (sl v3a), iv a_g.Round, iv a_g.Year]]⟩, ⟨8, #[false, true, true, false, true, true, true, false, false, true, true, false, true, true, true, true, false, false, false], Nat, fun z => [(1, ptr b1 0), (2, ptr b2 0), (8, (sl v0a)), (10, (sl (⟨some ⟨z, 0, none⟩, 0, 0⟩ : Hd))), (12, (sl v1a)), (16, (sl v3a)), (19, iv a_g.Round), (21, iv a_g.Year)], fun z => [box z [], box b2 [(sl hn), (sl hn), (sl hn), (sl hn), iv 0, iv 0], box b1 [(sl v0a), (sl v1a), (sl v2a), (sl v3a), iv a_g.Round, iv a_g.Year]]⟩, ⟨8, #[false, true, true, false, false, true, true, false, true, true, true, false, true, true, true, true, false, false, false], Nat, fun z => [(1, ptr b1 0), (2, ptr b2 0), (8, (sl v0a)), (12, (sl v1a)), (14, (sl (⟨some ⟨z, 0, none⟩, 0, 0⟩ : Hd))), (16, (sl v3a)), (19, iv a_g.Round), (21, iv a_g.Year)], fun z => [box z [], box b2 [(sl hn), (sl hn), (sl hn), (sl hn), iv 0, iv 0], box b1 [(sl v0a), (sl v1a), (sl v2a), (sl v3a), iv a_g.Round, iv a_g.Year]]⟩, ⟨8, #[false, true, true, false, false, true, true, false, false, true, true, false, true, true, true, true, false, true, false], Nat, fun z => [(1, ptr b1 0), (2, ptr b2 0), (3, ptr z 0), (8, (sl v0a)), (12, (sl v1a)), (16, (sl v3a)), (19, iv a_g.Round), (21, iv a_g.Year)], fun z => [box z [(sl hn), (sl hn), (sl hn), (sl hn), iv 0, iv 0], box b2 [(sl hn), (sl hn), (sl hn), (sl hn), iv 0, iv 0], box b1 [(sl v0a), (sl v1a), (sl v2a), (sl v3a), iv a_g.Round, iv a_g.Year]]⟩, ⟨7, #[true, true, true, true, false, true, true, false, false, true, true, false, true, true, true, true, false, false, false], Hd, fun z => [(1, ptr b1 0), (2, ptr b2 0), (9, (sl z)), (12, (sl v1a)), (16, (sl v3a)), (19, iv a_g.Round), (21, iv a_g.Year)], fun z => [ownF (sl z) (([] : List GMember) ++ a_g.Members), box b2 [(sl hn), (sl hn), (sl hn), (sl hn), iv 0, iv 0], box b1 [(sl v0a), (sl v1a), (sl v2a), (sl v3a), iv a_g.Round, iv a_g.Year]]⟩, ⟨7, #[true, true, true, false, true, true, true, false, false, true, true, false, true, true, true, true, false, false, false], Nat × Nat, fun z => [(1, ptr b1 0), (2, ptr b2 0), (6, (sl (⟨some ⟨z.1, 0, none⟩, 0, 0⟩ : Hd))), (8, (sl v0a)), (10, (sl (⟨some ⟨z.2, 0, none⟩, 0, 0⟩ : Hd))), (12, (sl v1a)), (16, (sl v3a)), (19, iv a_g.Round), (21, iv a_g.Year)], fun z => [box z.2 [], box z.1 [], box b2 [(sl hn), (sl hn), (sl hn), (sl hn), iv 0, iv 0], box b1 [(sl v0a), (sl v1a), (sl v2a), (sl v3a), iv a_g.Round, iv a_g.Year]]⟩, ⟨7, #[true, true, true, false, false, true, true, false, true, true, true, false, true, true, true, true, false, false, false], Nat × Nat, fun z => [(1, ptr b1 0), (2, ptr b2 0), (6, (sl (⟨some ⟨z.1, 0, none⟩, 0, 0⟩ : Hd))), (8, (sl v0a)), (12, (sl v1a)), (14, (sl (⟨some ⟨z.2, 0, none⟩, 0, 0⟩ : Hd))), (16, (sl v3a)), (19, iv a_g.Round), (21, iv a_g.Year)], fun z => [box z.2 [], box z.1 [], box b2 [(sl hn), (sl hn), (sl hn), (sl hn), iv 0, iv 0], box b1 [(sl v0a), (sl v1a), (sl v2a), (sl v3a), iv a_g.Round, iv a_g.Year]]⟩, ⟨7, #[true, true, true, false, false, true, true, false, false, true, true, false, true, true, true, true, false, true, false], Nat × Nat, fun z => [(1, ptr b1 0), (2, ptr b2 0), (3, ptr z.1 0), (6, (sl (⟨some ⟨z.2, 0, none⟩, 0, 0⟩ : Hd))), (8, (sl v0a)), (12, (sl v1a)), (16, (sl v3a)), (19, iv a_g.Round), (21, iv a_g.Year)], fun z => [box z.1 [(sl hn), (sl hn), (sl hn), (sl hn), iv 0, iv 0], box z.2 [], box b2 [(sl hn), (sl hn), (sl hn), (sl hn), iv 0, iv 0], box b1 [(sl v0a), (sl v1a), (sl v2a), (sl v3a), iv a_g.Round, iv a_g.Year]]⟩, ⟨7, #[false, true, true, false, true, true, true, false, true, true, true, false, true, true, true, true, false, false, false], Nat × Nat, fun z => [(1, ptr b1 0), (2, ptr b2 0), (8, (sl v0a)), (10, (sl (⟨some ⟨z.1, 0, none⟩, 0, 0⟩ : Hd))), (12, (sl v1a)), (14, (sl (⟨some ⟨z.2, 0, none⟩, 0, 0⟩ : Hd))), (16, (sl v3a)), (19, iv a_g.Round), (21, iv a_g.Year)], fun z => [box z.2 [], box z.1 [], box b2 [(sl hn), (sl hn), (sl hn), (sl hn), iv 0, iv 0], box b1 [(sl v0a), (sl v1a), (sl v2a), (sl v3a), iv a_g.Round, iv a_g.Year]]⟩, ⟨7, #[false, true, true, false, true, true, true, false, false, true, true, false, true, true, true, true, false, true, false], Nat × Nat, fun z => [(1, ptr b1 0), (2, ptr b2 0), (3, ptr z.1 0), (8, (sl v0a)), (10, (sl (⟨some ⟨z.2, 0, none⟩, 0, 0⟩ : Hd))), (12, (sl v1a)), (16, (sl v3a)), (19, iv a_g.Round), (21, iv a_g.Year)], fun z => [box z.1 [(sl hn), (sl hn), (sl hn), (sl hn), iv 0, iv 0], box z.2 [], box b2 [(sl hn), (sl hn), (sl hn), (sl hn), iv 0, iv 0], box b1 [(sl v0a), (sl v1a), (sl v2a), (sl v3a), iv a_g.Round, iv a_g.Year]]⟩, ⟨7, #[false, true, true, false, false, true, true, false, true, true, true, false, true, true, true, true, false, true, false], Nat × Nat, fun z => [(1, ptr b1 0), (2, ptr b2 0), (3, ptr z.1 0), (8, (sl v0a)), (12, (sl v1a)), (14, (sl (⟨some ⟨z.2, 0, none⟩, 0, 0⟩ : Hd))), (16, (sl v3a)), (19, iv a_g.Round), (21, iv a_g.Year)], fun z => [box z.1 [(sl hn), (sl hn), (sl hn), (sl hn), iv 0, iv 0], box z.2 [], box b2 [(sl hn), (sl hn), (sl hn), (sl hn), iv 0, iv 0], box b1 [(sl v0a), (sl v1a), (sl v2a), (sl v3a), iv a_g.Round, iv a_g.Year]]⟩, ⟨6, #[true, true, true, true, true, true, true, false, false, true, true, false, true, true, true, true, false, false, false], Hd × Nat, fun z => [(1, ptr b1 0), (2, ptr b2 0), (9, (sl z.1)), (10, (sl (⟨some ⟨z.2, 0, none⟩, 0, 0⟩ : Hd))), (12, (sl v1a)), (16, (sl v3a)), (19, iv a_g.Round), (21, iv a_g.Year)], fun z => [box z.2 [], ownF (sl z.1) (([] : List GMember) ++ a_g.Members), box b2 [(sl hn), (sl hn), (sl hn), (sl hn), iv 0, iv 0], box b1 [(sl v0a), (sl v1a), (sl v2a), (sl v3a), iv a_g.Round, iv a_g.Year]]⟩, ⟨6, #[true, true, true, true, false, true, true, false, true, true, true, false, true, true, true, true, false, false, false], Hd × Nat, fun z => [(1, ptr b1 0), (2, ptr b2 0), (9, (sl z.1)), (12, (sl v1a)), (14, (sl (⟨some ⟨z.2, 0, none⟩, 0, 0⟩ : Hd))), (16, (sl v3a)), (19, iv a_g.Round), (21, iv a_g.Year)], fun z => [box z.2 [], ownF (sl z.1) (([] : List GMember) ++ a_g.Members), box b2 [(sl hn), (sl hn), (sl hn), (sl hn), iv 0, iv 0], box b1 [(sl v0a), (sl v1a), (sl v2a), (sl v3a), iv a_g.Round, iv a_g.Year]]⟩, ⟨6, #[true, true, true, true, false, true, true, false, false, true, true, false, true, true, true, true, false, true, false], Nat × Hd, fun z => [(1, ptr b1 0), (2, ptr b2 0), (3, ptr z.1 0), (9, (sl z.2)), (12, (sl v1a)), (16, (sl v3a)), (19, iv a_g.Round), (21, iv a_g.Year)], fun z => [box z.1 [(sl hn), (sl hn), (sl hn), (sl hn), iv 0, iv 0], ownF (sl z.2) (([] : List GMember) ++ a_g.Members), box b2 [(sl hn), (sl hn), (sl hn), (sl hn), iv 0, iv 0], box b1 [(sl v0a), (sl v1a), (sl v2a), (sl v3a), iv a_g.Round, iv a_g.Year]]⟩, ⟨6, #[true, true, true, false, true, true, true, false, true, true, true, false, true, true, true, true, false, false, false], Nat × Nat × Nat, fun z => [(1, ptr b1 0), (2, ptr b2 0), (6, (sl (⟨some ⟨z.1, 0, none⟩, 0, 0⟩ : Hd))), (8, (sl v0a)), (10, (sl (⟨some ⟨z.2.1, 0, none⟩, 0, 0⟩ : Hd))), (12, (sl v1a)), (14, (sl (⟨some ⟨z.2.2, 0, none⟩, 0, 0⟩ : Hd))), (16, (sl v3a)), (19, iv a_g.Round), (21, iv a_g.Year)], fun z => [box z.2.2 [], box z.2.1 [], box z.1 [], box b2 [(sl hn), (sl hn), (sl hn), (sl hn), iv 0, iv 0], box b1 [(sl v0a), (sl v1a), (sl v2a), (sl v3a), iv a_g.Round, iv a_g.Year]]⟩, ⟨6, #[true, true, true, false, true, true, true, false, false, true, true, false, true, true, true, true, false, true, false], Nat × Nat × Nat, fun z => [(1, ptr b1 0), (2, ptr b2 0), (3, ptr z.1 0), (6, (sl (⟨some ⟨z.2.1, 0, none⟩, 0, 0⟩ : Hd))), (8, (sl v0a)), (10, (sl (⟨some ⟨z.2.2, 0, none⟩, 0, 0⟩ : Hd))), (12, (sl v1a)), (16, (sl v3a)), (19, iv a_g.Round), (21, iv a_g.Year)], fun z => [box z.1 [(sl hn), (sl hn), (sl hn), (sl hn), iv 0, iv 0], box z.2.2 [], box z.2.1 [], box b2 [(sl hn), (sl hn), (sl hn), (sl hn), iv 0, iv 0], box b1 [(sl v0a), (sl v1a), (sl v2a), (sl v3a), iv a_g.Round, iv a_g.Year]]⟩, ⟨6, #[true, true, true, false, false, true, true, false, true, true, true, false, true, true, true, true, false, true, false], Nat × Nat × Nat, fun z => [(1, ptr b1 0), (2, ptr b2 0), (3, ptr z.1 0), (6, (sl (⟨some ⟨z.2.1, 0, none⟩, 0, 0⟩ : Hd))), (8, (sl v0a)), (12, (sl v1a)), (14, (sl (⟨some ⟨z.2.2, 0, none⟩, 0, 0⟩ : Hd))), (16, (sl v3a)), (19, iv a_g.Round), (21, iv a_g.Year)], fun z => [box z.1 [(sl hn), (sl hn), (sl hn), (sl hn), iv 0, iv 0], box z.2.2 [], box z.2.1 [], box b2 [(sl hn), (sl hn), (sl hn), (sl hn), iv 0, iv 0], box b1 [(sl v0a), (sl v1a), (sl v2a), (sl v3a), iv a_g.Round, iv a_g.Year]]⟩, ⟨6, #[false, true, true, false, true, true, true, false, true, true, true, false, true, true, true, true, false, true, false], Nat × Nat × Nat, fun z => [(1, ptr b1 0), (2, ptr b2 0), (3, ptr z.1 0), (8, (sl v0a)), (10, (sl (⟨some ⟨z.2.1, 0, none⟩, 0, 0⟩ : Hd))), (12, (sl v1a)), (14, (sl (⟨some ⟨z.2.2, 0, none⟩, 0, 0⟩ : Hd))), (16, (sl v3a)), (19, iv a_g.Round), (21, iv a_g.Year)], fun z => [box z.1 [(sl hn), (sl hn), (sl hn), (sl hn), iv 0, iv 0], box z.2.2 [], box z.2.1 [], box b2 [(sl hn), (sl hn), (sl hn), (sl hn), iv 0, iv 0], box b1 [(sl v0a), (sl v1a), (sl v2a), (sl v3a), iv a_g.Round, iv a_g.Year]]⟩, ⟨5, #[true, true, true, true, true, true, true, true, false, true, true, false, true, true, true, true, false, false, false], Hd × Hd, fun z => [(1, ptr b1 0), (2, ptr b2 0), (9, (sl z.1)), (13, (sl z.2)), (16, (sl v3a)), (19, iv a_g.Round), (21, iv a_g.Year)], fun z => [ownF (sl z.2) (([] : List Int) ++ a_g.Stock), ownF (sl z.1) (([] : List GMember) ++ a_g.Members), box b2 [(sl hn), (sl hn), (sl hn), (sl hn), iv 0, iv 0], box b1 [(sl v0a), (sl v1a), (sl v2a), (sl v3a), iv a_g.Round, iv a_g.Year]]⟩, ⟨5, #[true, true, true, true, true, true, true, false, true, true, true, false, true, true, true, true, false, false, false], Hd × Nat × Nat, fun z => [(1, ptr b1 0), (2, ptr b2 0), (9, (sl z.1)), (10, (sl (⟨some ⟨z.2.1, 0, none⟩, 0, 0⟩ : Hd))), (12, (sl v1a)), (14, (sl (⟨some ⟨z.2.2, 0, none⟩, 0, 0⟩ : Hd))), (16, (sl v3a)), (19, iv a_g.Round), (21, iv a_g.Year)], fun z => [box z.2.2 [], box z.2.1 [], ownF (sl z.1) (([] : List GMember) ++ a_g.Members), box b2 [(sl hn), (sl hn), (sl hn), (sl hn), iv 0, iv 0], box b1 [(sl v0a), (sl v1a), (sl v2a), (sl v3a), iv a_g.Round, iv a_g.Year]]⟩, ⟨5, #[true, true, true, true, true, true, true, false, false, true, true, false, true, true, true, true, false, true, false], Nat × Hd × Nat, fun z => [(1, ptr b1 0), (2, ptr b2 0), (3, ptr z.1 0), (9, (sl z.2.1)), (10, (sl (⟨some ⟨z.2.2, 0, none⟩, 0, 0⟩ : Hd))), (12, (sl v1a)), (16, (sl v3a)), (19, iv a_g.Round), (21, iv a_g.Year)], fun z => [box z.1 [(sl hn), (sl hn), (sl hn), (sl hn), iv 0, iv 0], box z.2.2 [], ownF (sl z.2.1) (([] : List GMember) ++ a_g.Members), box b2 [(sl hn), (sl hn), (sl hn), (sl hn), iv 0, iv 0], box b1 [(sl v0a), (sl v1a), (sl v2a), (sl v3a), iv a_g.Round, iv a_g.Year]]⟩, ⟨5, #[true, true, true, true, false, true, true, false, true, true, true, false, true, true, true, true, false, true, false], Nat × Hd × Nat, fun z => [(1, ptr b1 0), (2, ptr b2 0), (3, ptr z.1 0), (9, (sl z.2.1)), (12, (sl v1a)), (14, (sl (⟨some ⟨z.2.2, 0, none⟩, 0, 0⟩ : Hd))), (16, (sl v3a)), (19, iv a_g.Round), (21, iv a_g.Year)], fun z => [box z.1 [(sl hn), (sl hn), (sl hn), (sl hn), iv 0, iv 0], box z.2.2 [], ownF (sl z.2.1) (([] : List GMember) ++ a_g.Members), box b2 [(sl hn), (sl hn), (sl hn), (sl hn), iv 0, iv 0], box b1 [(sl v0a), (sl v1a), (sl v2a), (sl v3a), iv a_g.Round, iv a_g.Year]]⟩, ⟨5, #[true, true, true, false, true, true, true, false, true, true, true, false, true, true, true, true, false, true, false], Nat × Nat × Nat × Nat, fun z => [(1, ptr b1 0), (2, ptr b2 0), (3, ptr z.1 0), (6, (sl (⟨some ⟨z.2.1, 0, none⟩, 0, 0⟩ : Hd))), (8, (sl v0a)), (10, (sl (⟨some ⟨z.2.2.1, 0, none⟩, 0, 0⟩ : Hd))), (12, (sl v1a)), (14, (sl (⟨some ⟨z.2.2.2, 0, none⟩, 0, 0⟩ : Hd))), (16, (sl v3a)), (19, iv a_g.Round), (21, iv a_g.Year)], fun z => [box z.1 [(sl hn), (sl hn), (sl hn), (sl hn), iv 0, iv 0], box z.2.2.2 [], box z.2.2.1 [], box z.2.1 [], box b2 [(sl hn), (sl hn), (sl hn), (sl hn), iv 0, iv 0], box b1 [(sl v0a), (sl v1a), (sl v2a), (sl v3a), iv a_g.Round, iv a_g.Year]]⟩, ⟨4, #[true, true, true, true, true, true, true, true, true, true, true, false, true, true, true, true, false, false, false], Hd × Hd × Nat, fun z => [(1, ptr b1 0), (2, ptr b2 0), (9, (sl z.1)), (13, (sl z.2.1)), (14, (sl (⟨some ⟨z.2.2, 0, none⟩, 0, 0⟩ : Hd))), (16, (sl v3a)), (19, iv a_g.Round), (21, iv a_g.Year)], fun z => [box z.2.2 [], ownF (sl z.2.1) (([] : List Int) ++ a_g.Stock), ownF (sl z.1) (([] : List GMember) ++ a_g.Members), box b2 [(sl hn), (sl hn), (sl hn), (sl hn), iv 0, iv 0], box b1 [(sl v0a), (sl v1a), (sl v2a), (sl v3a), iv a_g.Round, iv a_g.Year]]⟩, ⟨4, #[true, true, true, true, true, true, true, true, false, true, true, false, true, true, true, true, false, true, false], Nat × Hd × Hd, fun z => [(1, ptr b1 0), (2, ptr b2 0), (3, ptr z.1 0), (9, (sl z.2.1)), (13, (sl z.2.2)), (16, (sl v3a)), (19, iv a_g.Round), (21, iv a_g.Year)], fun z => [box z.1 [(sl hn), (sl hn), (sl hn), (sl hn), iv 0, iv 0], ownF (sl z.2.2) (([] : List Int) ++ a_g.Stock), ownF (sl z.2.1) (([] : List GMember) ++ a_g.Members), box b2 [(sl hn), (sl hn), (sl hn), (sl hn), iv 0, iv 0], box b1 [(sl v0a), (sl v1a), (sl v2a), (sl v3a), iv a_g.Round, iv a_g.Year]]⟩, ⟨4, #[true, true, true, true, true, true, true, false, true, true, true, false, true, true, true, true, false, true, false], Nat × Hd × Nat × Nat, fun z => [(1, ptr b1 0), (2, ptr b2 0), (3, ptr z.1 0), (9, (sl z.2.1)), (10, (sl (⟨some ⟨z.2.2.1, 0, none⟩, 0, 0⟩ : Hd))), (12, (sl v1a)), (14, (sl (⟨some ⟨z.2.2.2, 0, none⟩, 0, 0⟩ : Hd))), (16, (sl v3a)), (19, iv a_g.Round), (21, iv a_g.Year)], fun z => [box z.1 [(sl hn), (sl hn), (sl hn), (sl hn), iv 0, iv 0], box z.2.2.2 [], box z.2.2.1 [], ownF (sl z.2.1) (([] : List GMember) ++ a_g.Members), box b2 [(sl hn), (sl hn), (sl hn), (sl hn), iv 0, iv 0], box b1 [(sl v0a), (sl v1a), (sl v2a), (sl v3a), iv a_g.Round, iv a_g.Year]]⟩, ⟨2, #[true, true, true, true, true, true, true, true, true, true, true, true, true, true, true, true, true, false, false], Hd × Hd × Hd, fun z => [(1, ptr b1 0), (2, ptr b2 0), (22, .agg #[(sl z.1), (sl z.2.1), (sl hn), (sl z.2.2), iv a_g.Round, iv a_g.Year])], fun z => [ownF (sl z.2.2) (([] : List GBooking) ++ a_g.Books), ownF (sl z.2.1) (([] : List Int) ++ a_g.Stock), ownF (sl z.1) (([] : List GMember) ++ a_g.Members), box b2 [(sl hn), (sl hn), (sl hn), (sl hn), iv 0, iv 0], box b1 [(sl v0a), (sl v1a), (sl v2a), (sl v3a), iv a_g.Round, iv a_g.Year]]⟩, ⟨3, #[true, true, true, true, true, true, true, true, true, true, true, false, true, true, true, true, false, true, false], Nat × Hd × Hd × Nat, fun z => [(1, ptr b1 0), (2, ptr b2 0), (3, ptr z.1 0), (9, (sl z.2.1)), (13, (sl z.2.2.1)), (14, (sl (⟨some ⟨z.2.2.2, 0, none⟩, 0, 0⟩ : Hd))), (16, (sl v3a)), (19, iv a_g.Round), (21, iv a_g.Year)], fun z => [box z.1 [(sl hn), (sl hn), (sl hn), (sl hn), iv 0, iv 0], box z.2.2.2 [], ownF (sl z.2.2.1) (([] : List Int) ++ a_g.Stock), ownF (sl z.2.1) (([] : List GMember) ++ a_g.Members), box b2 [(sl hn), (sl hn), (sl hn), (sl hn), iv 0, iv 0], box b1 [(sl v0a), (sl v1a), (sl v2a), (sl v3a), iv a_g.Round, iv a_g.Year]]⟩, ⟨1, #[true, true, true, true, true, true, true, true, true, true, true, true, true, true, true, true, true, true, false], Nat × Hd × Hd × Hd, fun z => [(1, ptr b1 0), (2, ptr b2 0), (3, ptr z.1 0), (22, .agg #[(sl z.2.1), (sl z.2.2.1), (sl hn), (sl z.2.2.2), iv a_g.Round, iv a_g.Year])], fun z => [box z.1 [(sl hn), (sl hn), (sl hn), (sl hn), iv 0, iv 0], ownF (sl z.2.2.2) (([] : List GBooking) ++ a_g.Books), ownF (sl z.2.2.1) (([] : List Int) ++ a_g.Stock), ownF (sl z.2.1) (([] : List GMember) ++ a_g.Members), box b2 [(sl hn), (sl hn), (sl hn), (sl hn), iv 0, iv 0], box b1 [(sl v0a), (sl v1a), (sl v2a), (sl v3a), iv a_g.Round, iv a_g.Year]]⟩] ?_ fun H => ?_)
 refine List.forall_mem_cons.2 ⟨fun H => ?_, ?_⟩
 intro _
 dsimp only
 refine wa_4 (i := 0) (j := 4) (k := 8) (m := 17) (by kernel_rfl) ?_ ?_ ?_ ?_
 exact wse R (ebs R Zc1) (fun _ => (zt (zc pk1 (zc pk1 zn)))) R fun b0o => waj H 1 R (nl R) b0o R R (su8 R R R R R R R R) so3
 exact wse R (ebs R Zao) (fun _ => (zt (zc pk1 (zc pk1 zn)))) R fun b4o => waj H 2 R (nl R) b4o R R (su8 R R R R R R R R) so3
 exact wse R (ebs R ZaJ) (fun _ => (zt (zc pk1 (zc pk1 zn)))) R fun b8o => waj H 3 R (nl R) b8o R R (su8 R R R R R R R R) so3
 exact wse R (eal (cs := [(sl hn), (sl hn), (sl hn), (sl hn), iv 0, iv 0]) ZF) (fun _ => (zt (zc pk1 (zc pk1 zn)))) R fun b17o => waj H 4 R (nl R) b17o R R (su8 R R R R R R R R) so3
 refine List.forall_mem_cons.2 ⟨fun H => ?_, ?_⟩
 intro z
 dsimp only
 refine wa_4 (i := 3) (j := 4) (k := 8) (m := 17) (by kernel_rfl) ?_ ?_ ?_ ?_
 refine wse R (Zg (xs := ([] : List GMember)) (ys := a_g.Members) ZdZ (pbo pz (n := 0) (xs := ([] : List GMember)) R R (by unfold maxLen; omega)) R R (Zi fun _ g => Rg.on (rga r0) g) g1) (fun _ => (zt (zc pk1 (zc pk1 zn)))) R fun x3o => ?_
 exact waj H 5 R (nl R) x3o R R (su7 R R R R R R R) so3
 exact wse R (ebs R Zao) (fun _ => (zt (zc pk2 (zc pk2 zn)))) R fun b4o => waj H 6 R (nl R) (z, b4o) R R (su9 R R R R R R R R R) so4
 exact wse R (ebs R ZaJ) (fun _ => (zt (zc pk2 (zc pk2 zn)))) R fun b8o => waj H 7 R (nl R) (z, b8o) R R (su9 R R R R R R R R R) so4
 exact wse R (eal (cs := [(sl hn), (sl hn), (sl hn), (sl hn), iv 0, iv 0]) ZF) (fun _ => (zt (zc pk2 (zc pk2 zn)))) R fun b17o => waj H 8 R (nl R) (b17o, z) R R (su9 R R R R R R R R R) so4
 refine List.forall_mem_cons.2 ⟨fun H => ?_, ?_⟩
 intro z
 dsimp only
 refine wa_3 (i := 0) (j := 8) (k := 17) (by kernel_rfl) ?_ ?_ ?_
 exact wse R (ebs R Zc1) (fun _ => (zt (zc pk2 (zc pk2 zn)))) R fun b0o => waj H 6 R (nl R) (b0o, z) R R (su9 R R R R R R R R R) (zc pk1 so3)
 exact wse R (ebs R ZaJ) (fun _ => (zt (zc pk2 (zc pk2 zn)))) R fun b8o => waj H 9 R (nl R) (z, b8o) R R (su9 R R R R R R R R R) so4
 exact wse R (eal (cs := [(sl hn), (sl hn), (sl hn), (sl hn), iv 0, iv 0]) ZF) (fun _ => (zt (zc pk2 (zc pk2 zn)))) R fun b17o => waj H 10 R (nl R) (b17o, z) R R (su9 R R R R R R R R R) so4
 refine List.forall_mem_cons.2 ⟨fun H => ?_, ?_⟩
 intro z
 dsimp only
 refine wa_3 (i := 0) (j := 4) (k := 17) (by kernel_rfl) ?_ ?_ ?_
 exact wse R (ebs R Zc1) (fun _ => (zt (zc pk2 (zc pk2 zn)))) R fun b0o => waj H 7 R (nl R) (b0o, z) R R (su9 R R R R R R R R R) (zc pk1 so3)
 exact wse R (ebs R Zao) (fun _ => (zt (zc pk2 (zc pk2 zn)))) R fun b4o => waj H 9 R (nl R) (b4o, z) R R (su9 R R R R R R R R R) (zc pk1 so3)
 exact wse R (eal (cs := [(sl hn), (sl hn), (sl hn), (sl hn), iv 0, iv 0]) ZF) (fun _ => (zt (zc pk2 (zc pk2 zn)))) R fun b17o => waj H 11 R (nl R) (b17o, z) R R (su9 R R R R R R R R R) so4
 refine List.forall_mem_cons.2 ⟨fun H => ?_, ?_⟩
 intro z
 dsimp only
 refine wa_3 (i := 0) (j := 4) (k := 8) (by kernel_rfl) ?_ ?_ ?_
 exact wse R (ebs R Zc1) (fun _ => (zt (zc pk2 (zc pk2 zn)))) R fun b0o => waj H 8 R (nl R) (z, b0o) R R (su9 R R R R R R R R R) (zc pk1 so3)
 exact wse R (ebs R Zao) (fun _ => (zt (zc pk2 (zc pk2 zn)))) R fun b4o => waj H 10 R (nl R) (z, b4o) R R (su9 R R R R R R R R R) (zc pk1 so3)
 exact wse R (ebs R ZaJ) (fun _ => (zt (zc pk2 (zc pk2 zn)))) R fun b8o => waj H 11 R (nl R) (z, b8o) R R (su9 R R R R R R R R R) (zc pk1 so3)
 refine List.forall_mem_cons.2 ⟨fun H => ?_, ?_⟩
 intro z
 dsimp only
 refine wa_3 (i := 4) (j := 8) (k := 17) (by kernel_rfl) ?_ ?_ ?_
 exact wse R (ebs R Zao) (fun _ => (zt (zc pk2 (zc pk2 zn)))) R fun b4o => waj H 12 R (nl R) (z, b4o) R R (su8 R R R R R R R R) so4
 exact wse R (ebs R ZaJ) (fun _ => (zt (zc pk2 (zc pk2 zn)))) R fun b8o => waj H 13 R (nl R) (z, b8o) R R (su8 R R R R R R R R) so4
 exact wse R (eal (cs := [(sl hn), (sl hn), (sl hn), (sl hn), iv 0, iv 0]) ZF) (fun _ => (zt (zc pk2 (zc pk2 zn)))) R fun b17o => waj H 14 R (nl R) (b17o, z) R R (su8 R R R R R R R R) so4
 refine List.forall_mem_cons.2 ⟨fun H => ?_, ?_⟩
 intro z
 dsimp only
 refine wa_3 (i := 3) (j := 8) (k := 17) (by kernel_rfl) ?_ ?_ ?_
 refine wse R (Zg (xs := ([] : List GMember)) (ys := a_g.Members) ZdZ (pbo pk1 (n := 0) (xs := ([] : List GMember)) R R (by unfold maxLen; omega)) R R (Zi fun _ g => Rg.on (rga r0) g) g1) (fun _ => (zt (zc pk2 (zc pk2 zn)))) R fun x3o => ?_
 exact waj H 12 R (nl R) (x3o, z.2) R R (su8 R R R R R R R R) (zc pk1 so3)
 exact wse R (ebs R ZaJ) (fun _ => (zt (zc pk3 (zc pk3 zn)))) R fun b8o => waj H 15 R (nl R) (z.1, z.2, b8o) R R (su10 R R R R R R R R R R) so5
 exact wse R (eal (cs := [(sl hn), (sl hn), (sl hn), (sl hn), iv 0, iv 0]) ZF) (fun _ => (zt (zc pk3 (zc pk3 zn)))) R fun b17o => waj H 16 R (nl R) (b17o, z.1, z.2) R R (su10 R R R R R R R R R R) so5
 refine List.forall_mem_cons.2 ⟨fun H => ?_, ?_⟩
 intro z
 dsimp only
 refine wa_3 (i := 3) (j := 4) (k := 17) (by kernel_rfl) ?_ ?_ ?_
 refine wse R (Zg (xs := ([] : List GMember)) (ys := a_g.Members) ZdZ (pbo pk1 (n := 0) (xs := ([] : List GMember)) R R (by unfold maxLen; omega)) R R (Zi fun _ g => Rg.on (rga r0) g) g1) (fun _ => (zt (zc pk2 (zc pk2 zn)))) R fun x3o => ?_
 exact waj H 13 R (nl R) (x3o, z.2) R R (su8 R R R R R R R R) (zc pk1 so3)
 exact wse R (ebs R Zao) (fun _ => (zt (zc pk3 (zc pk3 zn)))) R fun b4o => waj H 15 R (nl R) (z.1, b4o, z.2) R R (su10 R R R R R R R R R R) (zc pk1 so4)
 exact wse R (eal (cs := [(sl hn), (sl hn), (sl hn), (sl hn), iv 0, iv 0]) ZF) (fun _ => (zt (zc pk3 (zc pk3 zn)))) R fun b17o => waj H 17 R (nl R) (b17o, z.1, z.2) R R (su10 R R R R R R R R R R) so5
 refine List.forall_mem_cons.2 ⟨fun H => ?_, ?_⟩
 intro z
 dsimp only
 refine wa_3 (i := 3) (j := 4) (k := 8) (by kernel_rfl) ?_ ?_ ?_
 refine wse R (Zg (xs := ([] : List GMember)) (ys := a_g.Members) ZdZ (pbo pk1 (n := 0) (xs := ([] : List GMember)) R R (by unfold maxLen; omega)) R R (Zi fun _ g => Rg.on (rga r0) g) g1) (fun _ => (zt (zc pk2 (zc pk2 zn)))) R fun x3o => ?_
 exact waj H 14 R (nl R) (z.1, x3o) R R (su8 R R R R R R R R) (zc pk1 so3)
 exact wse R (ebs R Zao) (fun _ => (zt (zc pk3 (zc pk3 zn)))) R fun b4o => waj H 16 R (nl R) (z.1, z.2, b4o) R R (su10 R R R R R R R R R R) (zc pk1 so4)
 exact wse R (ebs R ZaJ) (fun _ => (zt (zc pk3 (zc pk3 zn)))) R fun b8o => waj H 17 R (nl R) (z.1, z.2, b8o) R R (su10 R R R R R R R R R R) (zc pk1 so4)
 refine List.forall_mem_cons.2 ⟨fun H => ?_, ?_⟩
 intro z
 dsimp only
 refine wa_2 (i := 0) (j := 17) (by kernel_rfl) ?_ ?_
 exact wse R (ebs R Zc1) (fun _ => (zt (zc pk3 (zc pk3 zn)))) R fun b0o => waj H 15 R (nl R) (b0o, z.1, z.2) R R (su10 R R R R R R R R R R) (zc pk1 (zc pk1 so3))
 exact wse R (eal (cs := [(sl hn), (sl hn), (sl hn), (sl hn), iv 0, iv 0]) ZF) (fun _ => (zt (zc pk3 (zc pk3 zn)))) R fun b17o => waj H 18 R (nl R) (b17o, z.1, z.2) R R (su10 R R R R R R R R R R) so5
 refine List.forall_mem_cons.2 ⟨fun H => ?_, ?_⟩
 intro z
 dsimp only
 refine wa_2 (i := 0) (j := 8) (by kernel_rfl) ?_ ?_
 exact wse R (ebs R Zc1) (fun _ => (zt (zc pk3 (zc pk3 zn)))) R fun b0o => waj H 16 R (nl R) (z.1, b0o, z.2) R R (su10 R R R R R R R R R R) (zc pk1 (zc pk1 so3))
 exact wse R (ebs R ZaJ) (fun _ => (zt (zc pk3 (zc pk3 zn)))) R fun b8o => waj H 18 R (nl R) (z.1, z.2, b8o) R R (su10 R R R R R R R R R R) (zc pk1 so4)
 refine List.forall_mem_cons.2 ⟨fun H => ?_, ?_⟩
 intro z
 dsimp only
 refine wa_2 (i := 0) (j := 4) (by kernel_rfl) ?_ ?_
 exact wse R (ebs R Zc1) (fun _ => (zt (zc pk3 (zc pk3 zn)))) R fun b0o => waj H 17 R (nl R) (z.1, b0o, z.2) R R (su10 R R R R R R R R R R) (zc pk1 (zc pk1 so3))
 exact wse R (ebs R Zao) (fun _ => (zt (zc pk3 (zc pk3 zn)))) R fun b4o => waj H 18 R (nl R) (z.1, b4o, z.2) R R (su10 R R R R R R R R R R) (zc pk1 (zc pk1 so3))
 refine List.forall_mem_cons.2 ⟨fun H => ?_, ?_⟩
 intro z
 dsimp only
 refine wa_3 (i := 7) (j := 8) (k := 17) (by kernel_rfl) ?_ ?_ ?_
 refine wse R (Zg (xs := ([] : List Int)) (ys := a_g.Stock) Zb1 (pbo pz (n := 0) (xs := ([] : List Int)) R R (by unfold maxLen; omega)) R R (Zi fun _ g => Rg.on (rga r1) g) g2) (fun _ => (zt (zc pk2 (zc pk2 zn)))) R fun x7o => ?_
 exact waj H 19 R (nl R) (z.1, x7o) R R (su7 R R R R R R R) so4
 exact wse R (ebs R ZaJ) (fun _ => (zt (zc pk3 (zc pk3 zn)))) R fun b8o => waj H 20 R (nl R) (z.1, z.2, b8o) R R (su9 R R R R R R R R R) so5
 exact wse R (eal (cs := [(sl hn), (sl hn), (sl hn), (sl hn), iv 0, iv 0]) ZF) (fun _ => (zt (zc pk3 (zc pk3 zn)))) R fun b17o => waj H 21 R (nl R) (b17o, z.1, z.2) R R (su9 R R R R R R R R R) so5
 refine List.forall_mem_cons.2 ⟨fun H => ?_, ?_⟩
 intro z
 dsimp only
 refine wa_2 (i := 4) (j := 17) (by kernel_rfl) ?_ ?_
 exact wse R (ebs R Zao) (fun _ => (zt (zc pk3 (zc pk3 zn)))) R fun b4o => waj H 20 R (nl R) (z.1, b4o, z.2) R R (su9 R R R R R R R R R) (zc pk1 so4)
 exact wse R (eal (cs := [(sl hn), (sl hn), (sl hn), (sl hn), iv 0, iv 0]) ZF) (fun _ => (zt (zc pk3 (zc pk3 zn)))) R fun b17o => waj H 22 R (nl R) (b17o, z.1, z.2) R R (su9 R R R R R R R R R) so5
 refine List.forall_mem_cons.2 ⟨fun H => ?_, ?_⟩
 intro z
 dsimp only
 refine wa_2 (i := 4) (j := 8) (by kernel_rfl) ?_ ?_
 exact wse R (ebs R Zao) (fun _ => (zt (zc pk3 (zc pk3 zn)))) R fun b4o => waj H 21 R (nl R) (z.1, z.2, b4o) R R (su9 R R R R R R R R R) (zc pk1 so4)
 exact wse R (ebs R ZaJ) (fun _ => (zt (zc pk3 (zc pk3 zn)))) R fun b8o => waj H 22 R (nl R) (z.1, z.2, b8o) R R (su9 R R R R R R R R R) (zc pk1 so4)
 refine List.forall_mem_cons.2 ⟨fun H => ?_, ?_⟩
 intro z
 dsimp only
 refine wa_2 (i := 3) (j := 17) (by kernel_rfl) ?_ ?_
 refine wse R (Zg (xs := ([] : List GMember)) (ys := a_g.Members) ZdZ (pbo pk2 (n := 0) (xs := ([] : List GMember)) R R (by unfold maxLen; omega)) R R (Zi fun _ g => Rg.on (rga r0) g) g1) (fun _ => (zt (zc pk3 (zc pk3 zn)))) R fun x3o => ?_
 exact waj H 20 R (nl R) (x3o, z.2.1, z.2.2) R R (su9 R R R R R R R R R) (zc pk1 (zc pk1 so3))
 exact wse R (eal (cs := [(sl hn), (sl hn), (sl hn), (sl hn), iv 0, iv 0]) ZF) (fun _ => (zt (zc pk4 (zc pk4 zn)))) R fun b17o => waj H 23 R (nl R) (b17o, z.1, z.2.1, z.2.2) R R (yc R (su10 R R R R R R R R R R)) so6
 refine List.forall_mem_cons.2 ⟨fun H => ?_, ?_⟩
 intro z
 dsimp only
 refine wa_2 (i := 3) (j := 8) (by kernel_rfl) ?_ ?_
 refine wse R (Zg (xs := ([] : List GMember)) (ys := a_g.Members) ZdZ (pbo pk2 (n := 0) (xs := ([] : List GMember)) R R (by unfold maxLen; omega)) R R (Zi fun _ g => Rg.on (rga r0) g) g1) (fun _ => (zt (zc pk3 (zc pk3 zn)))) R fun x3o => ?_
 exact waj H 21 R (nl R) (z.1, x3o, z.2.2) R R (su9 R R R R R R R R R) (zc pk1 (zc pk1 so3))
 exact wse R (ebs R ZaJ) (fun _ => (zt (zc pk4 (zc pk4 zn)))) R fun b8o => waj H 23 R (nl R) (z.1, z.2.1, z.2.2, b8o) R R (yc R (su10 R R R R R R R R R R)) (zc pk1 so5)
 refine List.forall_mem_cons.2 ⟨fun H => ?_, ?_⟩
 intro z
 dsimp only
 refine wa_2 (i := 3) (j := 4) (by kernel_rfl) ?_ ?_
 refine wse R (Zg (xs := ([] : List GMember)) (ys := a_g.Members) ZdZ (pbo pk2 (n := 0) (xs := ([] : List GMember)) R R (by unfold maxLen; omega)) R R (Zi fun _ g => Rg.on (rga r0) g) g1) (fun _ => (zt (zc pk3 (zc pk3 zn)))) R fun x3o => ?_
 exact waj H 22 R (nl R) (z.1, x3o, z.2.2) R R (su9 R R R R R R R R R) (zc pk1 (zc pk1 so3))
 exact wse R (ebs R Zao) (fun _ => (zt (zc pk4 (zc pk4 zn)))) R fun b4o => waj H 23 R (nl R) (z.1, z.2.1, b4o, z.2.2) R R (yc R (su10 R R R R R R R R R R)) (zc pk1 (zc pk1 so4))
 refine List.forall_mem_cons.2 ⟨fun H => ?_, ?_⟩
 intro z
 dsimp only
 exact a1 0 (wse R (ebs R Zc1) (fun _ => (zt (zc pk4 (zc pk4 zn)))) R fun b0o => (waj H 23 R (nl R) (z.1, b0o, z.2.1, z.2.2) R R (yc R (su10 R R R R R R R R R R)) (zc pk1 (zc pk1 (zc pk1 so3)))))
 refine List.forall_mem_cons.2 ⟨fun H => ?_, ?_⟩
 intro z
 dsimp only
 refine wa_2 (i := 8) (j := 17) (by kernel_rfl) ?_ ?_
 exact wse R (ebs R ZaJ) (fun _ => (zt (zc pk3 (zc pk3 zn)))) R fun b8o => waj H 24 R (nl R) (z.1, z.2, b8o) R R (su8 R R R R R R R R) so5
 exact wse R (eal (cs := [(sl hn), (sl hn), (sl hn), (sl hn), iv 0, iv 0]) ZF) (fun _ => (zt (zc pk3 (zc pk3 zn)))) R fun b17o => waj H 25 R (nl R) (b17o, z.1, z.2) R R (su8 R R R R R R R R) so5
 refine List.forall_mem_cons.2 ⟨fun H => ?_, ?_⟩
 intro z
 dsimp only
 refine wa_2 (i := 7) (j := 17) (by kernel_rfl) ?_ ?_
 refine wse R (Zg (xs := ([] : List Int)) (ys := a_g.Stock) Zb1 (pbo pk1 (n := 0) (xs := ([] : List Int)) R R (by unfold maxLen; omega)) R R (Zi fun _ g => Rg.on (rga r1) g) g2) (fun _ => (zt (zc pk3 (zc pk3 zn)))) R fun x7o => ?_
 exact waj H 24 R (nl R) (z.1, x7o, z.2.2) R R (su8 R R R R R R R R) (zc pk1 so4)
 exact wse R (eal (cs := [(sl hn), (sl hn), (sl hn), (sl hn), iv 0, iv 0]) ZF) (fun _ => (zt (zc pk4 (zc pk4 zn)))) R fun b17o => waj H 26 R (nl R) (b17o, z.1, z.2.1, z.2.2) R R (su10 R R R R R R R R R R) so6
 refine List.forall_mem_cons.2 ⟨fun H => ?_, ?_⟩
 intro z
 dsimp only
 refine wa_2 (i := 7) (j := 8) (by kernel_rfl) ?_ ?_
 refine wse R (Zg (xs := ([] : List Int)) (ys := a_g.Stock) Zb1 (pbo pk1 (n := 0) (xs := ([] : List Int)) R R (by unfold maxLen; omega)) R R (Zi fun _ g => Rg.on (rga r1) g) g2) (fun _ => (zt (zc pk3 (zc pk3 zn)))) R fun x7o => ?_
 exact waj H 25 R (nl R) (z.1, z.2.1, x7o) R R (su8 R R R R R R R R) (zc pk1 so4)
 exact wse R (ebs R ZaJ) (fun _ => (zt (zc pk4 (zc pk4 zn)))) R fun b8o => waj H 26 R (nl R) (z.1, z.2.1, z.2.2, b8o) R R (su10 R R R R R R R R R R) (zc pk1 so5)
 refine List.forall_mem_cons.2 ⟨fun H => ?_, ?_⟩
 intro z
 dsimp only
 exact a1 4 (wse R (ebs R Zao) (fun _ => (zt (zc pk4 (zc pk4 zn)))) R fun b4o => (waj H 26 R (nl R) (z.1, z.2.1, b4o, z.2.2) R R (su10 R R R R R R R R R R) (zc pk1 (zc pk1 so4))))
 refine List.forall_mem_cons.2 ⟨fun H => ?_, ?_⟩
 intro z
 dsimp only
 refine a1 3 (wse R (Zg (xs := ([] : List GMember)) (ys := a_g.Members) ZdZ (pbo pk3 (n := 0) (xs := ([] : List GMember)) R R (by unfold maxLen; omega)) R R (Zi fun _ g => Rg.on (rga r0) g) g1) (fun _ => (zt (zc pk4 (zc pk4 zn)))) R fun x3o => ?_)
 exact waj H 26 R (nl R) (z.1, x3o, z.2.2.1, z.2.2.2) R R (su10 R R R R R R R R R R) (zc pk1 (zc pk1 (zc pk1 so3)))
 refine List.forall_mem_cons.2 ⟨fun H => ?_, ?_⟩
 intro z
 dsimp only
 refine wa_2 (i := 11) (j := 17) (by kernel_rfl) ?_ ?_
 refine wse R (Zg (xs := ([] : List GBooking)) (ys := a_g.Books) Zd3 (pbo pz (n := 0) (xs := ([] : List GBooking)) R R (by unfold maxLen; omega)) R R (Zi fun _ g => Rg.on (rga r3) g) g3) (fun _ => (zt (zc pk3 (zc pk3 zn)))) R fun x11o => ?_
 exact aq 16 R (Zk R (Zgl z.1 z.2.1 x11o a_g.Round a_g.Year)) (zc pk3 (zc pk3 zn)) R (waj H 27 R (nl R) (z.1, z.2.1, x11o) R R (su3 R R R) so5)
 exact wse R (eal (cs := [(sl hn), (sl hn), (sl hn), (sl hn), iv 0, iv 0]) ZF) (fun _ => (zt (zc pk4 (zc pk4 zn)))) R fun b17o => waj H 28 R (nl R) (b17o, z.1, z.2.1, z.2.2) R R (su9 R R R R R R R R R) so6
 refine List.forall_mem_cons.2 ⟨fun H => ?_, ?_⟩
 intro z
 dsimp only
 exact a1 8 (wse R (ebs R ZaJ) (fun _ => (zt (zc pk4 (zc pk4 zn)))) R fun b8o => (waj H 28 R (nl R) (z.1, z.2.1, z.2.2, b8o) R R (su9 R R R R R R R R R) (zc pk1 so5)))
 refine List.forall_mem_cons.2 ⟨fun H => ?_, ?_⟩
 intro z
 dsimp only
 refine a1 7 (wse R (Zg (xs := ([] : List Int)) (ys := a_g.Stock) Zb1 (pbo pk2 (n := 0) (xs := ([] : List Int)) R R (by unfold maxLen; omega)) R R (Zi fun _ g => Rg.on (rga r1) g) g2) (fun _ => (zt (zc pk4 (zc pk4 zn)))) R fun x7o => ?_)
 exact waj H 28 R (nl R) (z.1, z.2.1, x7o, z.2.2.2) R R (su9 R R R R R R R R R) (zc pk1 (zc pk1 so4))
 refine List.forall_mem_cons.2 ⟨fun H => ?_, ?_⟩
 intro z
 dsimp only
 exact a1 17 (wse R (eal (cs := [(sl hn), (sl hn), (sl hn), (sl hn), iv 0, iv 0]) ZF) (fun _ => (zt (zc pk4 (zc pk4 zn)))) R fun b17o => (waj H 29 R (nl R) (b17o, z.1, z.2.1, z.2.2) R R (su4 R R R R) so6))
 refine List.forall_mem_cons.2 ⟨fun H => ?_, ?_⟩
 intro z
 dsimp only
 refine a1 11 (wse R (Zg (xs := ([] : List GBooking)) (ys := a_g.Books) Zd3 (pbo pk1 (n := 0) (xs := ([] : List GBooking)) R R (by unfold maxLen; omega)) R R (Zi fun _ g => Rg.on (rga r3) g) g3) (fun _ => (zt (zc pk4 (zc pk4 zn)))) R fun x11o => ?_)
 exact aq 16 R (Zk R (Zgl z.2.1 z.2.2.1 x11o a_g.Round a_g.Year)) (zc pk4 (zc pk4 zn)) R (waj H 29 R (nl R) (z.1, z.2.1, z.2.2.1, x11o) R R (su4 R R R R) (zc pk1 so5))
 refine List.forall_mem_cons.2 ⟨fun H => ?_, ?_⟩
 intro z
 dsimp only
 refine a1 18 (ZU R (sbx (cs' := [(sl z.2.1), (sl z.2.2.1), (sl hn), (sl z.2.2.2), iv a_g.Round, iv a_g.Year]) Zc pz R R R R R R R) (Zaw (by kernel_rfl)) ?_)
 exact ae (wqm (z.1, z.2.1, z.2.2.1, z.2.2.2) trivial (su3 R R R) so6)
 exact fun _ h => nomatch h
 exact aq 1 R (pof Zcl R) so2 R (aq (v := (sl v0a)) 2 R (plx Zet pk1 R R) so2 R (aq 5 R (pof ZeP R) so2 R (aq (v := (sl v1a)) 6 R (plx Zeu pk1 R R) so2 R (aq 9 R (pof ZdB R) so2 R (aq (v := (sl v3a)) 10 R (plx Zg5 pk1 R R) so2 R (aq 12 R (pof Zdz R) so2 R (aq (v := iv a_g.Round) 13 R (plx tk_3 pk1 R R) so2 R (aq 14 R (pof ZeK R) so2 R (aq (v := iv a_g.Year) 15 R (plx tk_3 pk1 R R) so2 R (waj H 0 R (nl R) () R R (su7 R R R R R R R) so2))))))))))
 intro x1 _
 refine wqt (wcs (wcr (asg R R (wnt (gdO t0 fun g4 t0 => (Zr t0 fun y1 l1 t0 => (wj (J := List GEntry) (X := Hd × (List Value)) (fun z => y1 = z) (fun _ _ => [(2, ptr b2 0), (3, ptr x1.1 0)]) (fun z x => [box x1.1 [(sl x1.2.1), (sl x1.2.2.1), (sl x.1), (sl x1.2.2.2), iv a_g.Round, iv a_g.Year], ownF (sl x1.2.2.2) (([] : List GBooking) ++ a_g.Books), ownF (sl x1.2.2.1) (([] : List Int) ++ a_g.Stock), ownF (sl x1.2.1) (([] : List GMember) ++ a_g.Members), box b2 [(sl hn), (sl hn), (sl hn), (sl hn), iv 0, iv 0], own (sl x.1) x.2 z]) ?_ ?_)))))))
 refine wcb (wcf (X := Hd × (List Value)) l1 (fun k1 s1 x1l => [(1, ptr b1 0), (2, ptr b2 0), (3, ptr x1.1 0), (4, iv ((k1 : Nat) : Int))]) (fun k1 s1 x1l => [box x1.1 [(sl x1.2.1), (sl x1.2.2.1), (sl x1l.1), (sl x1.2.2.2), iv a_g.Round, iv a_g.Year], ownF (sl x1.2.2.2) (([] : List GBooking) ++ a_g.Books), ownF (sl x1.2.2.1) (([] : List Int) ++ a_g.Stock), ownF (sl x1.2.1) (([] : List GMember) ++ a_g.Members), box b2 [(sl hn), (sl hn), (sl hn), (sl hn), iv 0, iv 0], box b1 [(sl v0a), (sl v1a), (sl v2a), (sl v3a), iv a_g.Round, iv a_g.Year], own (sl x1l.1) x1l.2 s1]) (hn, []) (su4 R R R R) (zc pz (zc pz (zc pz (zc pz (zc pz (zc pz (zc ZB zn))))))) fun k1 s1 x1l hN1 l1 => ?_)
 by_cases hk1 : k1 < a_g.Entries.length
 refine fos l1 hk1 fun _ t1 l1 => ?_
 unfold Zgq at t1
 have c1 : (decide (((k1 : Nat) : Int) < ((a_g.Entries.length : Nat) : Int))) = true := ddt (by omega)
 refine wcs (wcr (mv R R (wlq (pof Zaj R) R (wlq (v := (sl v2a)) (plx Za5 pk5 R R) R (wlq (pln (rga r2) Zbv R) R (wlq (pls R R) R (wnt (wft R c1 (wck (wqt (wcs (wcb (wcr (wlq (pof Zaj R) R (wlq (v := (sl v2a)) (plx Za5 pk5 R R) R (mv R R (wlq (Zv (k := k1) (rga r2) Zbv R R hk1) R (Zf3 (rga r2) hk1 ?_))))))))))))))))))
 rintro ⟨_, _, he1⟩
 obtain ⟨w1, hc1, _⟩ := ZbW.1 he1
 refine wlq (v := .agg #[iv ((gx a_g.Entries k1).Owner), iv ((gx a_g.Entries k1).Day), iv (((gx a_g.Entries k1).Block).Size), (sl w1)]) (Zdy (rga r2) Za7 R hc1 R R R) R (wle (eal (cs := [iv 0, iv 0, iv 0, (sl hn)]) ZgP) R fun b3 => (wls (sbx (cs' := [iv ((gx a_g.Entries k1).Owner), iv ((gx a_g.Entries k1).Day), iv (((gx a_g.Entries k1).Block).Size), (sl w1)]) Za7 pz R R R R R R R) (wnt (wcr (wlq (pof Za4 R) R (wlq (v := .agg #[iv (((gx a_g.Entries k1).Block).Size), (sl w1)]) (plb Zb pz R R R) R (bdO t1 fun v1 hv1 t1 => (wlc (cz1 Zq9 R fun w hw => Zg2 w ((gx a_g.Entries k1).Block) w1 (Rg.on (ZcN hc1 (rga r2) hk1) hw) hv1) R fun x3 => (wlq (pof Za4 R) R (wls (sbx (cs' := [iv ((gx a_g.Entries k1).Owner), iv ((gx a_g.Entries k1).Day), iv v1.Size, (sl x3)]) Zb pk1 R R R R R R R) (wnt (wcg (wlq (pof Zaj R) R (wlq (v := (sl x1l.1)) (plx Za5 pk2 R R) R (wlq (v := .agg #[iv ((gx a_g.Entries k1).Owner), iv ((gx a_g.Entries k1).Day), iv v1.Size, (sl x3)]) (plb Za7 pz R R R) R (wle (ebs R (Zna ((gx a_g.Entries k1).Owner) ((gx a_g.Entries k1).Day) v1.Size x3)) R fun b4 => (gdO t1 fun g5 t1 => (wle (Zc3 (us := x1l.2) (xs := s1) Zre pk9 (Zjj (x := (GEntry.mk ((gx a_g.Entries k1).Owner) ((gx a_g.Entries k1).Day) v1)) pk2) pz R R R g5) R fun x4 => (wlq (pof Zaj R) R (wls (sbx (cs' := [(sl x1.2.1), (sl x1.2.2.1), (sl x4), (sl x1.2.2.2), iv a_g.Round, iv a_g.Year]) Za5 pk3 R R R R R R R) (wln (wqb (wqt (wcg (mv R R (wlq (Zj R R (by omega)) R ?_))))))))))))))))))))))))))
 exact asg R R (wln (Zl hk1 (stpN l1 t1) (x4, (x1l.2 ++ [iv ((gx a_g.Entries k1).Owner), iv ((gx a_g.Entries k1).Day), iv v1.Size, (sl x3)])) (su4 R R R R) (zc pz (zc pk3 (zc pk3 (zc pk3 (zc pk3 (zc pk3 so1))))))))
 have c1 : (decide (((k1 : Nat) : Int) < ((a_g.Entries.length : Nat) : Int))) = false := ddf (by omega)
 have en1 := foe l1 hk1
 exact wcs (wcr (mv R R (wlq (pof Zaj R) R (wlq (v := (sl v2a)) (plx Za5 pk5 R R) R (wlq (pln (rga r2) Zbv R) R (wlq (pls R R) R (wnt (wff R c1 (wcx (wqe (wqe (wbx (wjm _ (x1l.1, x1l.2) (Sum.inl.inj en1) (su2 R R) (zc pz (zc pz (zc pz (zc pz (zc pz (zc pk1 zn)))))))))))))))))))
 intro e1 x2 hp
 obtain rfl : e1 = y1 := hp.symm
 refine wqt (wcr (wlq (v := .agg #[(sl x1.2.1), (sl x1.2.2.1), (sl x2.1), (sl x1.2.2.2), iv a_g.Round, iv a_g.Year]) (plb Zc pz R R R) R (wls (sbx (cs' := [(sl x1.2.1), (sl x1.2.2.1), (sl x2.1), (sl x1.2.2.2), iv a_g.Round, iv a_g.Year]) Zc pk4 R R R R R R R) (wnt (wct ?_)))))
 obtain rfl := oi t0
 exact wqc R Zc R pz R fun w hw => ⟨(x1.2.1, x1.2.2.1, x2.1, x2.2, x1.2.2.2), R, hw.weak (zc pk4 (zc pk3 (zc pk3 (zc pk2 zn))))⟩

theorem ZoG (w : World) (a_list : List GMember) (v0a : Hd) (r0 : rdF w (dm w []) (sl v0a) a_list) (a_number : Int) (a_year : Int) {r : (List GMember) × Bool} (t0 : Zbz a_list a_number a_year = some r) : Calls Tryz.prog 91 #[(sl v0a), .int .i64 a_number, .int .i64 a_year] w fun e w' => ∃ x : Hd, e = .returned (.tuple #[(sl x), .bool r.2]) ∧ SH w [] [ownF (sl x) r.1] w' := by
 refine cwc (args := [_, _, _]) Tryz.func91 R Tryz.ntmps91 R ?_
 unfold Zbz at t0
 refine wcr (asg R R (asg R R (wnt (wcr (wle (ebs R Zc1) R fun b1 => (mv R R (gdO t0 fun g1 t0 => (wle (Zg (xs := ([] : List GMember)) (ys := a_list) ZdZ (pbo pz (n := 0) (xs := ([] : List GMember)) R R (by unfold maxLen; omega)) R R (Zi fun _ g => Rg.on (rga r0) g) g1) R fun x1 => ?_))))))))
 refine asg R R (wnt (wcs (wcs (bdO t0 fun y1 t1 t0 => (wj (J := Bool) (X := Unit) (fun z => y1 = z) (fun z _ => [(0, (sl v0a)), (1, iv a_number), (2, iv a_year), (8, (sl x1)), (21, .bool z)]) (fun _ _ => [ownF (sl x1) (([] : List GMember) ++ a_list)]) ?_ ?_)))))
 refine wcg (mv R R (bdO t1 fun v1 hv1 t1 => (wlc (cz0 ZkN R fun w hw => ZcB w a_list v0a (ra r0 hw) hv1) R fun _ => (wlq (Zd R) R (mv R R (wlo (t := 17) t1 R (fun h1 t1 => ?_) fun h1 t1 => ?_))))))
 exact wgf (j := 3) R R R R R (wgf (j := 3) R R R R R (wgf (j := 3) R R R R R (wlq (pit R R) R (wln (wjm _ () (mtE t1) (su5 R R R R R) so1)))))
 exact wgn (j := 3) R R R (mv R R (bdO t1 fun v2 hv2 t1 => (wgn (j := 3) R R R (wlc (cz0 Zbo R fun w hw => ZT w a_year 1900 2999 hv2) R (fun _ => (wgn (j := 3) R R R (wlq (Zd R) R (wlq (pif R R) R (wln (wjm _ () (mtE t1) (su5 R R R R R) so1))))))))))
 intro j1 _ hp
 obtain rfl : j1 = y1 := hp.symm
 refine wqt (wcO t0 R (fun h2 t0 => ?_) fun h2 t0 => ?_)
 refine wcr (mv R R (asg R R (asg R R (wnt (wct (wqr ?_))))))
 obtain rfl := oi t0
 exact Z0 R R R fun w hw => ⟨x1, R, hw.weak so1⟩
 refine wck (wqt (wcr (asg R R (wnt (wcs (Zjx t0 fun y1 l1 t0 => (wj (J := Int) (X := Unit) (fun z => y1 = z) (fun z _ => [(0, (sl v0a)), (1, iv a_number), (2, iv a_year), (8, (sl x1)), (9, iv z)]) (fun _ _ => [ownF (sl x1) (([] : List GMember) ++ a_list)]) ?_ ?_)))))))
 refine wcb (ZkQ (X := Unit) l1 (fun s1 x1l => [(0, (sl v0a)), (1, iv a_number), (2, iv a_year), (8, (sl x1)), (9, iv s1)]) (fun s1 x1l => [ownF (sl x1) (([] : List GMember) ++ a_list)]) () (su5 R R R R R) so1 fun m1 s1 x1l l1 => (Ziy l1 fun _ t1 l1 => ?_))
 unfold Za0 at t1
 refine wcs (wcs (bdO t1 fun y2 t2 t1 => (wj (J := Bool) (X := Unit) (fun z => y2 = z) (fun z _ => [(0, (sl v0a)), (1, iv a_number), (2, iv a_year), (8, (sl x1)), (9, iv s1), (35, .bool z)]) (fun _ _ => [ownF (sl x1) (([] : List GMember) ++ a_list)]) ?_ ?_)))
 refine wcg (mv R R (mv R R (wlq (pln (rga r0) Zan R) R (wlq (pls R R) R (mv R R (wlo (t := 27) t2 R (fun h3 t2 => ?_) fun h3 t2 => ?_))))))
 exact wgn (j := 4) R R R (mv R R (wgn (j := 4) R R R (mv R R (gdO t2 fun g2 t2 => (wgn (j := 4) R R R (wlq (Z8 (rga r0) Zan R R g2.1 g2.2) R (wgn (j := 4) R R R (wlq (Zak (rga r0) (ZK g2) Zch R) R (wgn (j := 4) R R R (wlq (v := iv ((gx a_list ((s1).toNat)).Number)) (ZD (rga r0) tk_3 R (ZK g2) R) R (wgn (j := 4) R R R (mv R R (wgn (j := 4) R R R (wlq (pls R R) R (wlq (pit R R) R (wln (wjm _ () (mtE t2) (su6 R R R R R R) so1)))))))))))))))))
 exact wgf (j := 4) R R R R R (wgf (j := 4) R R R R R (wgf (j := 4) R R R R R (wgf (j := 4) R R R R R (wgf (j := 4) R R R R R (wgf (j := 4) R R R R R (wgf (j := 4) R R R R R (wlq (pif R R) R (wln (wjm _ () (mtE t2) (su6 R R R R R R) so1)))))))))
 intro j2 _ hp
 obtain rfl : j2 = y2 := hp.symm
 refine wqt (wcO t1 R (fun h4 t1 => ?_) fun h4 t1 => ?_)
 exact wck (wqt (wcb (wcg (mv R R (wlq (Z4 R R) R (asg R R (wln (wqb (ZjD (stwN l1 t1) () (su5 R R R R R) so1)))))))))
 exact wcx (wqe (wqe (wbx (wjm _ () (Sum.inl.inj (stwB l1 t1)) (su5 R R R R R) so1))))
 intro e1 _ hp
 obtain rfl : e1 = y1 := hp.symm
 refine wqt (wcr (wle (ebs R Zc1) R fun b2 => (mv R R (mv R R (gdO t0 fun g3 t0 => (wlq (Ziz (l := 0) (h := (e1).toNat) (rga r0) Zan R (.inl ⟨R, R⟩) (.inr ⟨_, R, ixn g3.1⟩) g3.2.1 g3.2.2) R (gdO t0 fun g4 t0 => (wle (Zg (xs := ([] : List GMember)) (ys := ((a_list.drop 0).take ((e1).toNat - 0))) ZdZ (pbo pz (n := 0) (xs := ([] : List GMember)) R R (by unfold maxLen; omega)) R R (Zi fun _ g => Rg.on (ZgN (rga r0) g3.2.1 g3.2.2) g) g4) R fun x5 => ?_))))))))
 refine asg R R (wnt (wcr (mv R R (mv R R (mv R R (mv R R (wlq (Zad R R) R (wlq (Zk R (ZnM a_number a_year (wr (a_year - 1)))) R (wle (ebs R (Zs1 a_number a_year (wr (a_year - 1)))) R fun b3 => (gdO t0 fun g5 t0 => (wle (Zg (xs := (([] : List GMember) ++ ((a_list.drop 0).take ((e1).toNat - 0)))) (ys := ([(GMember.mk a_number a_year (wr (a_year - 1)))] : List GMember)) ZdZ pk1 R R (Zi fun _ g => Rg.on (rgo (pbo pz (n := 1) (xs := ([(GMember.mk a_number a_year (wr (a_year - 1)))] : List GMember)) R R (by unfold maxLen; omega))) g) g5) R fun x6 => ?_)))))))))))
 refine asg R R (wnt (wcr (mv R R (mv R R (mv R R (gdO t0 fun g6 t0 => (wlq (Ziz (l := (e1).toNat) (h := a_list.length) (rga r0) Zan R (.inr ⟨_, R, ixn g6.1⟩) (.inl ⟨R, R⟩) g6.2.1 g6.2.2) R (gdO t0 fun g7 t0 => (wle (Zg (xs := ((([] : List GMember) ++ ((a_list.drop 0).take ((e1).toNat - 0))) ++ [(GMember.mk a_number a_year (wr (a_year - 1)))])) (ys := ((a_list.drop ((e1).toNat)).take (a_list.length - ((e1).toNat)))) ZdZ pz R R (Zi fun _ g => Rg.on (ZgN (rga r0) g6.2.1 g6.2.2) g) g7) R fun x7 => (asg R R (wnt (wcs (wcr (mv R R (bdO t0 fun v3 hv3 t0 => (wlc (cz0 ZkN R fun w hw => ZcB w (((([] : List GMember) ++ ((a_list.drop 0).take ((e1).toNat - 0))) ++ [(GMember.mk a_number a_year (wr (a_year - 1)))]) ++ ((a_list.drop ((e1).toNat)).take (a_list.length - ((e1).toNat)))) x7 (Rg.on (rgo pz) hw) hv3) R fun _ => (wlq (Zd R) R (wnt (wcO t0 R (fun h5 t0 => ?_) fun h5 t0 => ?_)))))))))))))))))))
 refine wcr (mv R R (asg R R (asg R R (wnt (wct (wqr ?_))))))
 obtain rfl := oi t0
 exact Z0 R R R fun w hw => ⟨x1, R, hw.weak (zc pk2 zn)⟩
 refine wck (wqt (wcr (mv R R (asg R R (asg R R (wnt (wct ?_)))))))
 obtain rfl := oi t0
 exact Z0 R R R fun w hw => ⟨x7, R, hw.weak so1⟩

theorem ZpR (w : World) (a_list : List GMember) (v0a : Hd) (r0 : rdF w (dm w []) (sl v0a) a_list) (a_number : Int) (a_years : Int) {r : (List GMember) × Bool} (t0 : ZgI a_list a_number a_years = some r) : Calls Tryz.prog 92 #[(sl v0a), .int .i64 a_number, .int .i64 a_years] w fun e w' => ∃ x : Hd, e = .returned (.tuple #[(sl x), .bool r.2]) ∧ SH w [] [ownF (sl x) r.1] w' := by
 refine cwc (args := [_, _, _]) Tryz.func92 R Tryz.ntmps92 R ?_
 unfold ZgI at t0
 refine wcr (asg R R (asg R R (wnt (wcr (wle (ebs R Zc1) R fun b1 => (mv R R (gdO t0 fun g1 t0 => (wle (Zg (xs := ([] : List GMember)) (ys := a_list) ZdZ (pbo pz (n := 0) (xs := ([] : List GMember)) R R (by unfold maxLen; omega)) R R (Zi fun _ g => Rg.on (rga r0) g) g1) R fun x1 => ?_))))))))
 refine asg R R (wnt (wcr (asg R R (wnt (wcs (wcr (asg R R (wnt (gdO t0 fun g2 t0 => (Zr t0 fun y1 l1 t0 => (wj (J := (List GMember) × Bool) (X := Unit) (fun z => y1 = z) (fun z _ => [(0, (sl v0a)), (8, (sl x1)), (9, .bool z.2)]) (fun z _ => [ownF (sl x1) z.1]) ?_ ?_)))))))))))
 refine wcb (wcf (X := Unit) l1 (fun k1 s1 x1l => [(0, (sl v0a)), (1, iv a_number), (2, iv a_years), (8, (sl x1)), (9, .bool s1.2), (10, iv ((k1 : Nat) : Int))]) (fun k1 s1 x1l => [ownF (sl x1) s1.1]) () (su6 R R R R R R) so1 fun k1 s1 x1l hN1 l1 => ?_)
 by_cases hk1 : k1 < a_list.length
 refine fos l1 hk1 fun _ t1 l1 => ?_
 unfold Zgs at t1
 have c1 : (decide (((k1 : Nat) : Int) < ((a_list.length : Nat) : Int))) = true := ddt (by omega)
 refine wcs (wcr (mv R R (mv R R (wlq (pln (rga r0) Zan R) R (wlq (pls R R) R (mv R R (ZhW (t := 18) R c1 (wgn (j := 4) R R R (mv R R (bdO t1 fun v1 hv1 t1 => (wgn (j := 4) R R R (wlc (cz0 Zbo R fun w hw => ZT w a_years 1 10 hv1) R (fun _ => (wlq (pit R R) R (wnt (wcO t1 R (fun h1 t1 => ?_) fun h1 t1 => ?_))))))))))))))))
 refine wck (wqt (wcs (wcb (wcr (mv R R (mv R R (wlq (Zv (k := k1) (rga r0) Zan R R hk1) R (wlq (Zak (rga r0) hk1 Zch R) R (wlq (v := iv ((gx a_list k1).Number)) (ZD (rga r0) tk_3 R hk1 R) R (mv R R (wlq (pol R R) R (wnt (bdO t1 fun y2 t2 t1 => (wj (J := (List GMember) × Bool) (X := Unit) (fun z => y2 = z) (fun z _ => [(0, (sl v0a)), (1, iv a_number), (2, iv a_years), (8, (sl x1)), (9, .bool z.2), (10, iv ((k1 : Nat) : Int)), (19, iv a_years), (20, .bool v1)]) (fun z _ => [ownF (sl x1) z.1]) ?_ ?_))))))))))))))
 refine wcO t2 R (fun h2 t2 => ?_) fun h2 t2 => ?_
 exact wcr (mv R R (mv R R (mv R R (mv R R (wlq (Zv (k := k1) (rga r0) Zan R R hk1) R (wlq (Zak (rga r0) hk1 Zg6 R) R (wlq (v := iv ((gx a_list k1).Paid)) (ZD (rga r0) tk_3 R hk1 R) R (mv R R (wlq (Z4 R R) R (gdO t2 fun g3 t2 => (wlq (Zv (k := k1) (rgo pz) Zan R R g3) R (wlq (Zak (rgo pz) g3 Zg6 R) R (wls (ZiY (x' := (GMember.mk ((gx s1.1 k1).Number) ((gx s1.1 k1).Since) (wr ((gx a_list k1).Paid + a_years)))) tk_3 pz R R R R R R g3 R) (wnt (wcg (asg R R (wln (wjm _ () (mtE t2) (su8 R R R R R R R R) so1))))))))))))))))))
 exact wck (wjm _ () (mtE t2) (su8 R R R R R R R R) so1)
 intro j1 _ hp
 obtain rfl : j1 = y2 := hp.symm
 refine wqb (wqt (wcg (mv R R (wlq (Zj R R (by omega)) R ?_))))
 exact asg R R (wln (Zl hk1 (stpN l1 t1) () (su6 R R R R R R) so1))
 exact wcx (wqe (wqe (wbx (wjm _ () (Sum.inl.inj (stpB l1 t1)) (su3 R R R) so1))))
 have c1 : (decide (((k1 : Nat) : Int) < ((a_list.length : Nat) : Int))) = false := ddf (by omega)
 have en1 := foe l1 hk1
 exact wcs (wcr (mv R R (mv R R (wlq (pln (rga r0) Zan R) R (wlq (pls R R) R (mv R R (ZhW (t := 18) R c1 (wgf (j := 4) R R R R R (wgf (j := 4) R R R R R (wlq (pif R R) R (wnt (wff R R (wcx (wqe (wqe (wbx (wjm _ () (Sum.inl.inj en1) (su3 R R R) so1)))))))))))))))))
 intro e1 _ hp
 obtain rfl : e1 = y1 := hp.symm
 refine wqt (wcs (wcs (bdO t0 fun y1 t1 t0 => (wj (J := Bool) (X := Unit) (fun z => y1 = z) (fun z _ => [(0, (sl v0a)), (8, (sl x1)), (53, .bool z)]) (fun _ _ => [ownF (sl x1) e1.1]) ?_ ?_))))
 refine wcg (mv R R (bdO t1 fun v2 hv2 t1 => (wlc (cz0 ZkN R fun w hw => ZcB w a_list v0a (ra r0 hw) hv2) R fun _ => (wlq (Zd R) R (mv R R (wlo (t := 45) t1 R (fun h3 t1 => ?_) fun h3 t1 => ?_))))))
 exact wgf (j := 3) R R R R R (wgf (j := 3) R R R R R (wlq (pit R R) R (mv R R (wgf (j := 7) R R R R R (wgf (j := 7) R R R R R (wgf (j := 7) R R R R R (wlq (pit R R) R (wln (wjm _ () (mtE t1) (su3 R R R) so1)))))))))
 refine wgn (j := 3) R R R (mv R R (wgn (j := 3) R R R (wlq (Zd R) R (wlq (pif R R) R (mv R R (wlo (t := 49) t1 R (fun h4 t1 => ?_) fun h4 t1 => ?_))))))
 exact wgf (j := 7) R R R R R (wgf (j := 7) R R R R R (wgf (j := 7) R R R R R (wlq (pit R R) R (wln (wjm _ () (mtE t1) (su3 R R R) so1)))))
 exact wgn (j := 7) R R R (mv R R (bdO t1 fun v3 hv3 t1 => (wgn (j := 7) R R R (wlc (cz0 ZkN R fun w hw => ZcB w e1.1 x1 (Rg.on (rgo pz) hw) hv3) R (fun _ => (wgn (j := 7) R R R (wlq (Zd R) R (wlq (pif R R) R (wln (wjm _ () (mtE t1) (su3 R R R) so1))))))))))
 intro j2 _ hp
 obtain rfl : j2 = y1 := hp.symm
 refine wqt (wcO t0 R (fun h5 t0 => ?_) fun h5 t0 => ?_)
 refine wcr (wle (ebs R Zc1) R fun b2 => (mv R R (wle (Zg (xs := ([] : List GMember)) (ys := a_list) ZdZ (pbo pz (n := 0) (xs := ([] : List GMember)) R R (by unfold maxLen; omega)) R R (Zi fun _ g => Rg.on (rga r0) g) g1) R fun x5 => ?_)))
 refine asg R R (asg R R (wnt (wct (wqr ?_))))
 obtain rfl := oi t0
 exact Z0 R R R fun w hw => ⟨x5, R, hw.weak so1⟩
 refine wck (wqt (wcr (mv R R (asg R R (asg R R (wnt (wct ?_)))))))
 obtain rfl := oi t0
 exact Z0 R R R fun w hw => ⟨x1, R, hw.weak so1⟩

end Go.Proofs.YtjfjbgihojiijabGreatDoor
