/-
 Each Go function computes its Lean function (part 2).
-/
import Derived.Test.YtkahnmhkfmjomacGreatDoorWalks1
namespace Go.Proofs.YtkahnmhkfmjomacGreatDoor
open Go Go.RowKit Go.Proofs
set_option maxRecDepth 100000

theorem c_impl_LedgerOk (w : World) (a_list : List GBooking) (v0a : Hd) (r0 : rdF w (dm w []) (sl v0a) a_list) {r : Bool} (t0 : impl_LedgerOk a_list = some r) : Calls Tryz.prog 55 #[(sl v0a)] w fun e w' => e = .returned (.bool r) ∧ SH w [] [] w' := by
 refine cwc (args := [_]) Tryz.func55 R Tryz.ntmps55 R ?_
 unfold impl_LedgerOk at t0
 refine wcr (asg R R (wnt (wcs (wcr (mv R R (wlq (pln (rga r0) el_33 R) R (mv R R (wnt (gdO t0 fun g1 t0 => (sqO t0 fun y1 l1 t0 => (wj (J := Unit) (X := Unit) (fun z => y1 = .inl z) (fun _ _ => [(0, (sl v0a))]) (fun _ _ => []) ?_ ?_)))))))))))
 refine wcb (wcf (X := Unit) l1 (fun k1 s1 x1l => [(0, (sl v0a)), (5, (sl v0a)), (6, iv ((a_list.length : Nat) : Int)), (7, iv ((k1 : Nat) : Int))]) (fun k1 s1 x1l => []) () (su4 R R R R) zn fun k1 s1 x1l hN1 l1 => ?_)
 by_cases hk1 : k1 < a_list.length
 refine fos l1 hk1 fun _ t1 l1 => ?_
 unfold impl_LedgerOk_L1 at t1
 have c1 : (decide (((k1 : Nat) : Int) < ((a_list.length : Nat) : Int))) = true := ddt (by omega)
 refine wcr (wlq (pls R R) R (wnt (wcs (wft R c1 (wck (wqt (wcs (wcb (wcr (mv R R (wlq (po_ixn (k := k1) (rga r0) el_33 R R hk1) R (wlq (v := .agg #[iv ((gx a_list k1).Day), iv ((gx a_list k1).From), iv ((gx a_list k1).To), iv ((gx a_list k1).Sum)]) (po_ldfs (rga r0) tk_92 R hk1 R R R) R (wle (eal (cs := [iv 0, iv 0, iv 0, iv 0]) za_92) R fun b1 => (asg R R (wls (sbx (cs' := [iv ((gx a_list k1).Day), iv ((gx a_list k1).From), iv ((gx a_list k1).To), iv ((gx a_list k1).Sum)]) tk_92 pz R R R R R R R) (wnt (wcs (bdO t1 fun y2 t2 t1 => (wj (J := Bool) (X := Unit) (fun z => y2 = z) (fun z _ => [(0, (sl v0a)), (5, (sl v0a)), (6, iv ((a_list.length : Nat) : Int)), (7, iv ((k1 : Nat) : Int)), (55, .bool z)]) (fun _ _ => []) ?_ ?_)))))))))))))))))))
 refine wcd [box b1 [iv ((gx a_list k1).Day), iv ((gx a_list k1).From), iv ((gx a_list k1).To), iv ((gx a_list k1).Sum)]] 44 mixed (aq 0 R (pof fo_92_0 R) so1 R (aq (v := iv ((gx a_list k1).Day)) 1 R (plx tk_3 pz R R) so1 R (a1 2 (bdO t2 fun v1 hv1 t2 => (wsc R (cz0 fa_58 R fun w hw => c_impl_within w ((gx a_list k1).Day) 0 9999 hv1) (fun _ => (zt so1)) R fun _ => (aq 3 R (po_not R) so1 R (aq 4 R (pom R) so1 R (waO_ (t := 16) t2 R (fun h1 t2 => ?_) fun h1 t2 => ?_))))))))
 refine af 5 4 R R R R R so1 R (af 6 4 R R R R R so1 R (af 7 4 R R R R R so1 R (au 8 7 R R R R so1 R (au 9 7 R R R R so1 R (au 10 7 R R R R so1 R (au 11 7 R R R R so1 R (au 12 7 R R R R so1 R (au 13 7 R R R R so1 R (au 14 7 R R R R so1 R (au 15 7 R R R R so1 R (au 16 7 R R R R so1 R (af 17 4 R R R R R so1 R (aq 18 R (pit R R) so1 R (aq 19 R (pom R) so1 R (af 20 19 R R R R R so1 R (af 21 19 R R R R R so1 R (af 22 19 R R R R R so1 R (af 23 19 R R R R R so1 R (aq 24 R (pit R R) so1 R (aq 25 R (pom R) so1 R (af 26 25 R R R R R so1 R (af 27 25 R R R R R so1 R (af 28 25 R R R R R so1 R (af 29 25 R R R R R so1 R (aq 30 R (pit R R) so1 R (aq 31 R (pom R) so1 R (af 32 31 R R R R R so1 R (af 33 31 R R R R R so1 R (af 34 31 R R R R R so1 R (af 35 31 R R R R R so1 R (af 36 31 R R R R R so1 R (aq 37 R (pit R R) so1 R (aq 38 R (pom R) so1 R (af 39 38 R R R R R so1 R (af 40 38 R R R R R so1 R (af 41 38 R R R R R so1 R (af 42 38 R R R R R so1 R (aq 43 R (pit R R) so1 R (ae ?_)))))))))))))))))))))))))))))))))))))))
 exact wjm _ () (mtE t2) (su5 R R R R R) zn
 refine an 5 4 R R R R (pom R) so1 R (an 6 4 R R R R (po_gtr R R) so1 R (an 7 4 R R R R (pom R) so1 R (waO_ (t := 19) t2 R (fun h2 t2 => ?_) fun h2 t2 => ?_)))
 refine an 8 7 R R R R (pof fo_92_0 R) so1 R (an (v := iv ((gx a_list k1).Day)) 9 7 R R R R (plx tk_3 pz R R) so1 R (an 10 7 R R R R (pom R) so1 R (an 11 7 R R R R (pom R) so1 R (an 12 7 R R R R (po_sub R R) so1 R (gdO t2 fun g2 t2 => (an 13 7 R R R R (po_ixr (rga r0) el_33 R R g2.1 g2.2) so1 R (an 14 7 R R R R (po_sfldr (rga r0) (ix_lt g2) fo_92_0 R) so1 R (an (v := iv ((gx a_list (((wr (((k1 : Nat) : Int) - 1))).toNat)).Day)) 15 7 R R R R (po_ldf (rga r0) tk_3 R (ix_lt g2) R) so1 R (an 16 7 R R R R (pls R R) so1 R (an 17 4 R R R R (pit R R) so1 R (aq 18 R (pif R R) so1 R (aq 19 R (pom R) so1 R (waO_ (t := 31) t2 R (fun h3 t2 => ?_) fun h3 t2 => ?_)))))))))))))
 exact af 20 19 R R R R R so1 R (af 21 19 R R R R R so1 R (af 22 19 R R R R R so1 R (af 23 19 R R R R R so1 R (aq 24 R (pit R R) so1 R (aq 25 R (pom R) so1 R (af 26 25 R R R R R so1 R (af 27 25 R R R R R so1 R (af 28 25 R R R R R so1 R (af 29 25 R R R R R so1 R (aq 30 R (pit R R) so1 R (aq 31 R (pom R) so1 R (af 32 31 R R R R R so1 R (af 33 31 R R R R R so1 R (af 34 31 R R R R R so1 R (af 35 31 R R R R R so1 R (af 36 31 R R R R R so1 R (aq 37 R (pit R R) so1 R (aq 38 R (pom R) so1 R (af 39 38 R R R R R so1 R (af 40 38 R R R R R so1 R (af 41 38 R R R R R so1 R (af 42 38 R R R R R so1 R (aq 43 R (pit R R) so1 R (ae (wjm _ () (mtE t2) (su5 R R R R R) zn)))))))))))))))))))))))))
 refine an 20 19 R R R R (pof fo_92_1 R) so1 R (an (v := iv ((gx a_list k1).From)) 21 19 R R R R (plx tk_3 pz R R) so1 R (a1 22 (bdO t2 fun v2 hv2 t2 => (ws_call_on (j := 19) R R R R (cz0 fa_58 R fun w hw => c_impl_within w ((gx a_list k1).From) 0 4 hv2) (fun _ => (zt so1)) R fun _ => (an 23 19 R R R R (po_not R) so1 R (aq 24 R (pif R R) so1 R (aq 25 R (pom R) so1 R (waO_ (t := 37) t2 R (fun h4 t2 => ?_) fun h4 t2 => ?_))))))))
 exact af 26 25 R R R R R so1 R (af 27 25 R R R R R so1 R (af 28 25 R R R R R so1 R (af 29 25 R R R R R so1 R (aq 30 R (pit R R) so1 R (aq 31 R (pom R) so1 R (af 32 31 R R R R R so1 R (af 33 31 R R R R R so1 R (af 34 31 R R R R R so1 R (af 35 31 R R R R R so1 R (af 36 31 R R R R R so1 R (aq 37 R (pit R R) so1 R (aq 38 R (pom R) so1 R (af 39 38 R R R R R so1 R (af 40 38 R R R R R so1 R (af 41 38 R R R R R so1 R (af 42 38 R R R R R so1 R (aq 43 R (pit R R) so1 R (ae (wjm _ () (mtE t2) (su5 R R R R R) zn)))))))))))))))))))
 refine an 26 25 R R R R (pof fo_92_2 R) so1 R (an (v := iv ((gx a_list k1).To)) 27 25 R R R R (plx tk_3 pz R R) so1 R (a1 28 (bdO t2 fun v3 hv3 t2 => (ws_call_on (j := 25) R R R R (cz0 fa_58 R fun w hw => c_impl_within w ((gx a_list k1).To) 0 4 hv3) (fun _ => (zt so1)) R fun _ => (an 29 25 R R R R (po_not R) so1 R (aq 30 R (pif R R) so1 R (aq 31 R (pom R) so1 R (waO_ (t := 43) t2 R (fun h5 t2 => ?_) fun h5 t2 => ?_))))))))
 exact af 32 31 R R R R R so1 R (af 33 31 R R R R R so1 R (af 34 31 R R R R R so1 R (af 35 31 R R R R R so1 R (af 36 31 R R R R R so1 R (aq 37 R (pit R R) so1 R (aq 38 R (pom R) so1 R (af 39 38 R R R R R so1 R (af 40 38 R R R R R so1 R (af 41 38 R R R R R so1 R (af 42 38 R R R R R so1 R (aq 43 R (pit R R) so1 R (ae (wjm _ () (mtE t2) (su5 R R R R R) zn)))))))))))))
 refine an 32 31 R R R R (pof fo_92_1 R) so1 R (an (v := iv ((gx a_list k1).From)) 33 31 R R R R (plx tk_3 pz R R) so1 R (an 34 31 R R R R (pof fo_92_2 R) so1 R (an (v := iv ((gx a_list k1).To)) 35 31 R R R R (plx tk_3 pz R R) so1 R (an 36 31 R R R R (pol R R) so1 R (aq 37 R (pif R R) so1 R (aq 38 R (pom R) so1 R (waO_ (t := 50) t2 R (fun h6 t2 => ?_) fun h6 t2 => ?_)))))))
 exact af 39 38 R R R R R so1 R (af 40 38 R R R R R so1 R (af 41 38 R R R R R so1 R (af 42 38 R R R R R so1 R (aq 43 R (pit R R) so1 R (ae (wjm _ () (mtE t2) (su5 R R R R R) zn))))))
 exact an 39 38 R R R R (pof fo_92_3 R) so1 R (an (v := iv ((gx a_list k1).Sum)) 40 38 R R R R (plx tk_3 pz R R) so1 R (a1 41 (bdO t2 fun v4 hv4 t2 => (ws_call_on (j := 38) R R R R (cz0 fa_58 R fun w hw => c_impl_within w ((gx a_list k1).Sum) 1 100000 hv4) (fun _ => (zt so1)) R fun _ => (an 42 38 R R R R (po_not R) so1 R (aq 43 R (pif R R) so1 R (ae (wjm _ () (mtE t2) (su5 R R R R R) zn))))))))
 refine af 8 7 R R R R R so1 R (af 9 7 R R R R R so1 R (af 10 7 R R R R R so1 R (af 11 7 R R R R R so1 R (af 12 7 R R R R R so1 R (af 13 7 R R R R R so1 R (af 14 7 R R R R R so1 R (af 15 7 R R R R R so1 R (af 16 7 R R R R R so1 R (an 17 4 R R R R (pif R R) so1 R (aq 18 R (pif R R) so1 R (aq 19 R (pom R) so1 R (an 20 19 R R R R (pof fo_92_1 R) so1 R (an (v := iv ((gx a_list k1).From)) 21 19 R R R R (plx tk_3 pz R R) so1 R (a1 22 (bdO t2 fun v5 hv5 t2 => (ws_call_on (j := 19) R R R R (cz0 fa_58 R fun w hw => c_impl_within w ((gx a_list k1).From) 0 4 hv5) (fun _ => (zt so1)) R fun _ => (an 23 19 R R R R (po_not R) so1 R (aq 24 R (pif R R) so1 R (aq 25 R (pom R) so1 R (waO_ (t := 37) t2 R (fun h7 t2 => ?_) fun h7 t2 => ?_))))))))))))))))))))
 exact af 26 25 R R R R R so1 R (af 27 25 R R R R R so1 R (af 28 25 R R R R R so1 R (af 29 25 R R R R R so1 R (aq 30 R (pit R R) so1 R (aq 31 R (pom R) so1 R (af 32 31 R R R R R so1 R (af 33 31 R R R R R so1 R (af 34 31 R R R R R so1 R (af 35 31 R R R R R so1 R (af 36 31 R R R R R so1 R (aq 37 R (pit R R) so1 R (aq 38 R (pom R) so1 R (af 39 38 R R R R R so1 R (af 40 38 R R R R R so1 R (af 41 38 R R R R R so1 R (af 42 38 R R R R R so1 R (aq 43 R (pit R R) so1 R (ae (wjm _ () (mtE t2) (su5 R R R R R) zn)))))))))))))))))))
 refine an 26 25 R R R R (pof fo_92_2 R) so1 R (an (v := iv ((gx a_list k1).To)) 27 25 R R R R (plx tk_3 pz R R) so1 R (a1 28 (bdO t2 fun v6 hv6 t2 => (ws_call_on (j := 25) R R R R (cz0 fa_58 R fun w hw => c_impl_within w ((gx a_list k1).To) 0 4 hv6) (fun _ => (zt so1)) R fun _ => (an 29 25 R R R R (po_not R) so1 R (aq 30 R (pif R R) so1 R (aq 31 R (pom R) so1 R (waO_ (t := 43) t2 R (fun h8 t2 => ?_) fun h8 t2 => ?_))))))))
 exact af 32 31 R R R R R so1 R (af 33 31 R R R R R so1 R (af 34 31 R R R R R so1 R (af 35 31 R R R R R so1 R (af 36 31 R R R R R so1 R (aq 37 R (pit R R) so1 R (aq 38 R (pom R) so1 R (af 39 38 R R R R R so1 R (af 40 38 R R R R R so1 R (af 41 38 R R R R R so1 R (af 42 38 R R R R R so1 R (aq 43 R (pit R R) so1 R (ae (wjm _ () (mtE t2) (su5 R R R R R) zn)))))))))))))
 refine an 32 31 R R R R (pof fo_92_1 R) so1 R (an (v := iv ((gx a_list k1).From)) 33 31 R R R R (plx tk_3 pz R R) so1 R (an 34 31 R R R R (pof fo_92_2 R) so1 R (an (v := iv ((gx a_list k1).To)) 35 31 R R R R (plx tk_3 pz R R) so1 R (an 36 31 R R R R (pol R R) so1 R (aq 37 R (pif R R) so1 R (aq 38 R (pom R) so1 R (waO_ (t := 50) t2 R (fun h9 t2 => ?_) fun h9 t2 => ?_)))))))
 exact af 39 38 R R R R R so1 R (af 40 38 R R R R R so1 R (af 41 38 R R R R R so1 R (af 42 38 R R R R R so1 R (aq 43 R (pit R R) so1 R (ae (wjm _ () (mtE t2) (su5 R R R R R) zn))))))
 exact an 39 38 R R R R (pof fo_92_3 R) so1 R (an (v := iv ((gx a_list k1).Sum)) 40 38 R R R R (plx tk_3 pz R R) so1 R (a1 41 (bdO t2 fun v7 hv7 t2 => (ws_call_on (j := 38) R R R R (cz0 fa_58 R fun w hw => c_impl_within w ((gx a_list k1).Sum) 1 100000 hv7) (fun _ => (zt so1)) R fun _ => (an 42 38 R R R R (po_not R) so1 R (aq 43 R (pif R R) so1 R (ae (wjm _ () (mtE t2) (su5 R R R R R) zn))))))))
 intro j1 _ hp
 obtain rfl : j1 = y2 := hp.symm
 refine wqt (wcO t1 R (fun h10 t1 => ?_) fun h10 t1 => ?_)
 refine wcr (asg R R (wnt (wct (wbr (wqr (wqr (wbr (wqr (wqr ?_)))))))))
 replace t0 := lpR t0 l1 t1
 obtain rfl := oi t0
 exact wq1 R R fun w hw => ⟨R, hw.weak zn⟩
 refine wck (wqb (wqt (wcg (wlq (po_inc R R (by omega)) R ?_))))
 exact mv R R (wln (wq_rnd hk1 (stpN l1 t1) () (su4 R R R R) zn))
 have c1 : (decide (((k1 : Nat) : Int) < ((a_list.length : Nat) : Int))) = false := ddf (by omega)
 have en1 := foe l1 hk1
 exact wcr (wlq (pls R R) R (wnt (wcs (wff R c1 (wcx (wqe (wqe (wbx (wjm _ () en1 (su1 R) zn)))))))))
 intro e1 _ hp
 replace t0 := sqE (j := e1) t0 hp
 refine wqt (wcr (mv R R (wlq (pln (rga r0) el_33 R) R (wlq (po_leq R R) R (asg R R (wnt (wct ?_)))))))
 obtain rfl := oi t0
 exact wq1 R R fun w hw => ⟨R, hw.weak zn⟩

theorem c_impl_isColor (w : World) (a_a : Int) {r : Bool} (t0 : impl_isColor a_a = some r) : Calls Tryz.prog 85 #[.int .i64 a_a] w fun e w' => e = .returned (.bool r) ∧ SH w [] [] w' := by
 refine cwc (args := [_]) Tryz.func85 R Tryz.ntmps85 R ?_
 unfold impl_isColor at t0
 refine wcr (asg R R (wnt (wcr (mv R R (bdO t0 fun v1 hv1 t0 => (wlc (cz0 fa_58 R fun w hw => c_impl_within w a_a 0 5 hv1) R fun _ => (asg R R (wnt (wct ?_)))))))))
 obtain rfl := oi t0
 exact wq1 R R fun w hw => ⟨R, hw.weak zn⟩

theorem c_impl_CellOk (w : World) (a_c : GCell) {r : Bool} (t0 : impl_CellOk a_c = some r) : Calls Tryz.prog 77 #[.agg #[.int .i64 a_c.Split, .int .i64 a_c.A, .int .i64 a_c.B]] w fun e w' => e = .returned (.bool r) ∧ SH w [] [] w' := by
 refine cwc (args := [_]) Tryz.func77 R Tryz.ntmps77 R ?_
 unfold impl_CellOk at t0
 refine wcr (wle (eo_box R R) R fun b1 => (asg R R (wnt (wcs (bdO t0 fun y1 t1 t0 => (wj (J := Bool) (X := Unit) (fun z => y1 = z) (fun z _ => [(2, .bool z)]) (fun _ _ => []) ?_ ?_))))))
 refine wcg (wlq (pof fo_86_0 R) R (wlq (v := iv a_c.Split) (plx tk_3 pz R R) R (bdO t1 fun v1 hv1 t1 => (wlc (cz0 fa_58 R fun w hw => c_impl_within w a_c.Split 0 2 hv1) R fun _ => (mv R R (wlo (t := 6) t1 R (fun h1 t1 => ?_) fun h1 t1 => ?_))))))
 refine wgn (j := 3) R R R (wlq (pof fo_86_1 R) R (wgn (j := 3) R R R (wlq (v := iv a_c.A) (plx tk_3 pz R R) R (bdO t1 fun v2 hv2 t1 => (wgn (j := 3) R R R (wlc (cz0 fa_85 R fun w hw => c_impl_isColor w a_c.A hv2) R (fun _ => (wlq (pit R R) R (mv R R (wlo (t := 11) t1 R (fun h2 t1 => ?_) fun h2 t1 => ?_))))))))))
 refine wgn (j := 8) R R R (wlq (pof fo_86_2 R) R (wgn (j := 8) R R R (wlq (v := iv a_c.B) (plx tk_3 pz R R) R (bdO t1 fun v3 hv3 t1 => (wgn (j := 8) R R R (wlc (cz0 fa_85 R fun w hw => c_impl_isColor w a_c.B hv3) R (fun _ => (wlq (pit R R) R (mv R R (wlo (t := 16) t1 R (fun h3 t1 => ?_) fun h3 t1 => ?_))))))))))
 exact wgn (j := 13) R R R (wlq (pof fo_86_0 R) R (wgn (j := 13) R R R (wlq (v := iv a_c.Split) (plx tk_3 pz R R) R (wgn (j := 13) R R R (wlq (pol R R) R (wgn (j := 13) R R R (wlq (pof fo_86_1 R) R (wgn (j := 13) R R R (wlq (v := iv a_c.A) (plx tk_3 pz R R) R (wgn (j := 13) R R R (wlq (pof fo_86_2 R) R (wgn (j := 13) R R R (wlq (v := iv a_c.B) (plx tk_3 pz R R) R (wgn (j := 13) R R R (wlq (pol R R) R (wgn (j := 13) R R R (wlq (po_eql_bool ub_4 R R) R (wlq (pit R R) R (asg R R (wln (wjm _ () (mtE t1) (su1 R) zn)))))))))))))))))))))
 exact wgf (j := 13) R R R R R (wgf (j := 13) R R R R R (wgf (j := 13) R R R R R (wgf (j := 13) R R R R R (wgf (j := 13) R R R R R (wgf (j := 13) R R R R R (wgf (j := 13) R R R R R (wgf (j := 13) R R R R R (wgf (j := 13) R R R R R (wlq (pif R R) R (asg R R (wln (wjm _ () (mtE t1) (su1 R) zn))))))))))))
 exact wgf (j := 8) R R R R R (wgf (j := 8) R R R R R (wgf (j := 8) R R R R R (wlq (pif R R) R (mv R R (wgf (j := 13) R R R R R (wgf (j := 13) R R R R R (wgf (j := 13) R R R R R (wgf (j := 13) R R R R R (wgf (j := 13) R R R R R (wgf (j := 13) R R R R R (wgf (j := 13) R R R R R (wgf (j := 13) R R R R R (wgf (j := 13) R R R R R (wlq (pif R R) R (asg R R (wln (wjm _ () (mtE t1) (su1 R) zn)))))))))))))))))
 exact wgf (j := 3) R R R R R (wgf (j := 3) R R R R R (wgf (j := 3) R R R R R (wlq (pif R R) R (mv R R (wgf (j := 8) R R R R R (wgf (j := 8) R R R R R (wgf (j := 8) R R R R R (wlq (pif R R) R (mv R R (wgf (j := 13) R R R R R (wgf (j := 13) R R R R R (wgf (j := 13) R R R R R (wgf (j := 13) R R R R R (wgf (j := 13) R R R R R (wgf (j := 13) R R R R R (wgf (j := 13) R R R R R (wgf (j := 13) R R R R R (wgf (j := 13) R R R R R (wlq (pif R R) R (asg R R (wln (wjm _ () (mtE t1) (su1 R) zn))))))))))))))))))))))
 intro j1 _ hp
 obtain rfl : j1 = y1 := hp.symm
 refine wqt (wct ?_)
 obtain rfl := oi t0
 exact wq1 R R fun w hw => ⟨R, hw.weak zn⟩

theorem c_impl_BlockOk (w : World) (a_b : GBlock) (v0a : Hd) (r0 : rdF w (dm w []) (sl v0a) a_b.Cells) {r : Bool} (t0 : impl_BlockOk a_b = some r) : Calls Tryz.prog 61 #[.agg #[.int .i64 a_b.Size, (sl v0a)]] w fun e w' => e = .returned (.bool r) ∧ SH w [] [] w' := by
 refine cwc (args := [_]) Tryz.func61 R Tryz.ntmps61 R ?_
 unfold impl_BlockOk at t0
 refine wcr (wle (eo_box R R) R fun b1 => (asg R R (wnt (wcs (wcs (bdO t0 fun y1 t1 t0 => (wj (J := Bool) (X := Unit) (fun z => y1 = z) (fun z _ => [(1, ptr b1 0), (19, .bool z)]) (fun _ _ => [box b1 [iv a_b.Size, (sl v0a)]]) ?_ ?_)))))))
 refine wcg (wlq (pof fo_52_0 R) R (wlq (v := iv a_b.Size) (plx tk_3 pz R R) R (bdO t1 fun v1 hv1 t1 => (wlc (cz0 fa_58 R fun w hw => c_impl_within w a_b.Size 1 4 hv1) R fun _ => (wlq (po_not R) R (mv R R (wlo (t := 9) t1 R (fun h1 t1 => ?_) fun h1 t1 => ?_)))))))
 exact wgf (j := 4) R R R R R (wgf (j := 4) R R R R R (wgf (j := 4) R R R R R (wgf (j := 4) R R R R R (wgf (j := 4) R R R R R (wgf (j := 4) R R R R R (wgf (j := 4) R R R R R (wgf (j := 4) R R R R R (wgf (j := 4) R R R R R (wlq (pit R R) R (wln (wjm _ () (mtE t1) (su2 R R) so1)))))))))))
 exact wgn (j := 4) R R R (wlq (pof fo_52_1 R) R (wgn (j := 4) R R R (wlq (v := (sl v0a)) (plx tk_50 pz R R) R (wgn (j := 4) R R R (wlq (pln (rga r0) el_50 R) R (wgn (j := 4) R R R (wlq (pof fo_52_0 R) R (wgn (j := 4) R R R (wlq (v := iv a_b.Size) (plx tk_3 pz R R) R (wgn (j := 4) R R R (wlq (pof fo_52_0 R) R (wgn (j := 4) R R R (wlq (v := iv a_b.Size) (plx tk_3 pz R R) R (wgn (j := 4) R R R (wlq (po_mul R R) R (wgn (j := 4) R R R (wlq (po_neq R R) R (wlq (pif R R) R (wln (wjm _ () (mtE t1) (su2 R R) so1))))))))))))))))))))
 intro j1 _ hp
 obtain rfl : j1 = y1 := hp.symm
 refine wqt (wcO t0 R (fun h2 t0 => ?_) fun h2 t0 => ?_)
 refine wcr (asg R R (wnt (wct (wqr ?_))))
 obtain rfl := oi t0
 exact wq1 R R fun w hw => ⟨R, hw.weak zn⟩
 refine wck (wqt (wcs (wcr (wlq (pof fo_52_1 R) R (wlq (v := (sl v0a)) (plx tk_50 pz R R) R (wlq (pln (rga r0) el_50 R) R (mv R R (wnt (gdO t0 fun g1 t0 => (sqO t0 fun y1 l1 t0 => (wj (J := Unit) (X := Unit) (fun z => y1 = .inl z) (fun _ _ => []) (fun _ _ => []) ?_ ?_)))))))))))
 refine wcb (wcf (X := Unit) l1 (fun k1 s1 x1l => [(21, (sl v0a)), (22, iv ((a_b.Cells.length : Nat) : Int)), (23, iv ((k1 : Nat) : Int))]) (fun k1 s1 x1l => []) () (su3 R R R) zn fun k1 s1 x1l hN1 l1 => ?_)
 by_cases hk1 : k1 < a_b.Cells.length
 refine fos l1 hk1 fun _ t1 l1 => ?_
 unfold impl_BlockOk_L1 at t1
 have c1 : (decide (((k1 : Nat) : Int) < ((a_b.Cells.length : Nat) : Int))) = true := ddt (by omega)
 refine wcr (wlq (pls R R) R (wnt (wcs (wft R c1 (wck (wqt (wcs (wcb (wcr (wlq (po_ixn (k := k1) (rga r0) el_50 R R hk1) R (wlq (v := .agg #[iv ((gx a_b.Cells k1).Split), iv ((gx a_b.Cells k1).A), iv ((gx a_b.Cells k1).B)]) (po_ldfs (rga r0) tk_86 R hk1 R R R) R (wle (eal (cs := [iv 0, iv 0, iv 0]) za_86) R fun b2 => (wls (sbx (cs' := [iv ((gx a_b.Cells k1).Split), iv ((gx a_b.Cells k1).A), iv ((gx a_b.Cells k1).B)]) tk_86 pz R R R R R R R) (wnt (wcr (wlq (v := .agg #[iv ((gx a_b.Cells k1).Split), iv ((gx a_b.Cells k1).A), iv ((gx a_b.Cells k1).B)]) (plb tk_86 pz R R R) R (bdO t1 fun v2 hv2 t1 => (wlc (cz0 fa_77 R fun w hw => c_impl_CellOk w (gx a_b.Cells k1) hv2) R fun _ => (wlq (po_not R) R (wnt (wcO t1 R (fun h3 t1 => ?_) fun h3 t1 => ?_)))))))))))))))))))))
 refine wcr (asg R R (wnt (wct (wbr (wqr (wqr (wbr (wqr (wqr ?_)))))))))
 replace t0 := lpR t0 l1 t1
 obtain rfl := oi t0
 exact wq1 R R fun w hw => ⟨R, hw.weak zn⟩
 refine wck (wqb (wqt (wcg (wlq (po_inc R R (by omega)) R ?_))))
 exact mv R R (wln (wq_rnd hk1 (stpN l1 t1) () (su3 R R R) zn))
 have c1 : (decide (((k1 : Nat) : Int) < ((a_b.Cells.length : Nat) : Int))) = false := ddf (by omega)
 have en1 := foe l1 hk1
 exact wcr (wlq (pls R R) R (wnt (wcs (wff R c1 (wcx (wqe (wqe (wbx (wjm _ () en1 yn zn)))))))))
 intro e1 _ hp
 replace t0 := sqE (j := e1) t0 hp
 refine wqt (wcr (asg R R (wnt (wct ?_))))
 obtain rfl := oi t0
 exact wq1 R R fun w hw => ⟨R, hw.weak zn⟩

theorem c_impl_EntryOk (w : World) (a_e : GEntry) (v0a : Hd) (r0 : rdF w (dm w []) (sl v0a) a_e.Block.Cells) {r : Bool} (t0 : impl_EntryOk a_e = some r) : Calls Tryz.prog 56 #[.agg #[.int .i64 a_e.Owner, .int .i64 a_e.Day, .int .i64 a_e.Block.Size, (sl v0a)]] w fun e w' => e = .returned (.bool r) ∧ SH w [] [] w' := by
 refine cwc (args := [_]) Tryz.func56 R Tryz.ntmps56 R ?_
 unfold impl_EntryOk at t0
 refine wcr (wle (eo_box R R) R fun b1 => (asg R R (wnt (wcs (bdO t0 fun y1 t1 t0 => (wj (J := Bool) (X := Unit) (fun z => y1 = z) (fun z _ => [(2, .bool z)]) (fun _ _ => []) ?_ ?_))))))
 refine wcg (wlq (pof fo_54_0 R) R (wlq (v := iv a_e.Owner) (plx tk_3 pz R R) R (bdO t1 fun v1 hv1 t1 => (wlc (cz0 fa_58 R fun w hw => c_impl_within w a_e.Owner 0 99 hv1) R fun _ => (mv R R (wlo (t := 6) t1 R (fun h1 t1 => ?_) fun h1 t1 => ?_))))))
 refine wgn (j := 3) R R R (wlq (pof fo_54_1 R) R (wgn (j := 3) R R R (wlq (v := iv a_e.Day) (plx tk_3 pz R R) R (bdO t1 fun v2 hv2 t1 => (wgn (j := 3) R R R (wlc (cz0 fa_58 R fun w hw => c_impl_within w a_e.Day 0 9999 hv2) R (fun _ => (wlq (pit R R) R (mv R R (wlo (t := 11) t1 R (fun h2 t1 => ?_) fun h2 t1 => ?_))))))))))
 exact wgn (j := 8) R R R (wlq (pof fo_54_2 R) R (wgn (j := 8) R R R (wlq (v := .agg #[iv a_e.Block.Size, (sl v0a)]) (plb tk_52 pz R R R) R (bdO t1 fun v3 hv3 t1 => (wgn (j := 8) R R R (wlc (cz0 fa_61 R fun w hw => c_impl_BlockOk w a_e.Block v0a (ra r0 hw) hv3) R (fun _ => (wlq (pit R R) R (asg R R (wln (wjm _ () (mtE t1) (su1 R) zn)))))))))))
 exact wgf (j := 8) R R R R R (wgf (j := 8) R R R R R (wgf (j := 8) R R R R R (wlq (pif R R) R (asg R R (wln (wjm _ () (mtE t1) (su1 R) zn))))))
 exact wgf (j := 3) R R R R R (wgf (j := 3) R R R R R (wgf (j := 3) R R R R R (wlq (pif R R) R (mv R R (wgf (j := 8) R R R R R (wgf (j := 8) R R R R R (wgf (j := 8) R R R R R (wlq (pif R R) R (asg R R (wln (wjm _ () (mtE t1) (su1 R) zn)))))))))))
 intro j1 _ hp
 obtain rfl : j1 = y1 := hp.symm
 refine wqt (wct ?_)
 obtain rfl := oi t0
 exact wq1 R R fun w hw => ⟨R, hw.weak zn⟩

theorem c_impl_isMember (w : World) (a_list : List GMember) (v0a : Hd) (r0 : rdF w (dm w []) (sl v0a) a_list) (a_number : Int) {r : Bool} (t0 : impl_isMember a_list a_number = some r) : Calls Tryz.prog 57 #[(sl v0a), .int .i64 a_number] w fun e w' => e = .returned (.bool r) ∧ SH w [] [] w' := by
 refine cwc (args := [_, _]) Tryz.func57 R Tryz.ntmps57 R ?_
 unfold impl_isMember at t0
 refine wcr (asg R R (wnt (wcs (wcr (mv R R (wlq (pln (rga r0) el_31 R) R (mv R R (wnt (gdO t0 fun g1 t0 => (sqO t0 fun y1 l1 t0 => (wj (J := Unit) (X := Unit) (fun z => y1 = .inl z) (fun _ _ => []) (fun _ _ => []) ?_ ?_)))))))))))
 refine wcb (wcf (X := Unit) l1 (fun k1 s1 x1l => [(1, iv a_number), (7, (sl v0a)), (8, iv ((a_list.length : Nat) : Int)), (9, iv ((k1 : Nat) : Int))]) (fun k1 s1 x1l => []) () (su4 R R R R) zn fun k1 s1 x1l hN1 l1 => ?_)
 by_cases hk1 : k1 < a_list.length
 refine fos l1 hk1 fun _ t1 l1 => ?_
 unfold impl_isMember_L1 at t1
 have c1 : (decide (((k1 : Nat) : Int) < ((a_list.length : Nat) : Int))) = true := ddt (by omega)
 refine wcr (wlq (pls R R) R (wnt (wcs (wft R c1 (wck (wqt (wcs (wcb (wcr (wlq (po_ixn (k := k1) (rga r0) el_31 R R hk1) R (wlq (v := .agg #[iv ((gx a_list k1).Number), iv ((gx a_list k1).Since), iv ((gx a_list k1).Paid)]) (po_ldfs (rga r0) tk_49 R hk1 R R R) R (wle (eal (cs := [iv 0, iv 0, iv 0]) za_49) R fun b1 => (wls (sbx (cs' := [iv ((gx a_list k1).Number), iv ((gx a_list k1).Since), iv ((gx a_list k1).Paid)]) tk_49 pz R R R R R R R) (wnt (wcr (wlq (pof fo_49_0 R) R (wlq (v := iv ((gx a_list k1).Number)) (plx tk_3 pz R R) R (mv R R (wlq (pol R R) R (wnt (wcO t1 R (fun h1 t1 => ?_) fun h1 t1 => ?_)))))))))))))))))))))
 refine wcr (asg R R (wnt (wct (wbr (wqr (wqr (wbr (wqr (wqr ?_)))))))))
 replace t0 := lpR t0 l1 t1
 obtain rfl := oi t0
 exact wq1 R R fun w hw => ⟨R, hw.weak zn⟩
 refine wck (wqb (wqt (wcg (wlq (po_inc R R (by omega)) R ?_))))
 exact mv R R (wln (wq_rnd hk1 (stpN l1 t1) () (su4 R R R R) zn))
 have c1 : (decide (((k1 : Nat) : Int) < ((a_list.length : Nat) : Int))) = false := ddf (by omega)
 have en1 := foe l1 hk1
 exact wcr (wlq (pls R R) R (wnt (wcs (wff R c1 (wcx (wqe (wqe (wbx (wjm _ () en1 yn zn)))))))))
 intro e1 _ hp
 replace t0 := sqE (j := e1) t0 hp
 refine wqt (wcr (asg R R (wnt (wct ?_))))
 obtain rfl := oi t0
 exact wq1 R R fun w hw => ⟨R, hw.weak zn⟩

theorem c_impl_GoodStanding (w : World) (a_list : List GMember) (v0a : Hd) (r0 : rdF w (dm w []) (sl v0a) a_list) (a_year : Int) {r : List Int} (t0 : impl_GoodStanding a_list a_year = some r) : Calls Tryz.prog 64 #[(sl v0a), .int .i64 a_year] w fun e w' => ∃ x : Hd, e = .returned ((sl x)) ∧ SH w [] [ownF (sl x) r] w' := by
 refine cwc (args := [_, _]) Tryz.func64 R Tryz.ntmps64 R ?_
 unfold impl_GoodStanding at t0
 refine wcr (asg R R (wnt (wcs (wcr (mv R R (bdO t0 fun v1 hv1 t0 => (wlc (cz0 fa_53 R fun w hw => c_impl_MembersOk w a_list v0a (ra r0 hw) hv1) R fun _ => (wlq (po_not R) R (wnt (wcO t0 R (fun h1 t0 => ?_) fun h1 t0 => ?_))))))))))
 refine wcr (asg R R (wnt (wct (wqr ?_))))
 obtain rfl := oi t0
 exact wq1 R R fun w hw => ⟨hn, R, hw.weak (zc pick_nil zn)⟩
 refine wck (wqt (wcr (wle (ebs R sb_23_0) R fun b1 => (asg R R (wnt (wcs (wcr (mv R R (wlq (pln (rga r0) el_31 R) R (mv R R (wnt (gdO t0 fun g1 t0 => (lpO_inv t0 fun y1 l1 t0 => (wj (J := List Int) (X := Hd) (fun z => y1 = z) (fun _ x => [(5, (sl x))]) (fun z x => [ownF (sl x) z]) ?_ ?_))))))))))))))
 refine wcb (wcf (X := Hd) l1 (fun k1 s1 x1l => [(1, iv a_year), (5, (sl x1l)), (12, (sl v0a)), (13, iv ((a_list.length : Nat) : Int)), (14, iv ((k1 : Nat) : Int))]) (fun k1 s1 x1l => [ownF (sl x1l) s1]) (⟨some ⟨b1, 0, none⟩, 0, 0⟩ : Hd) (su5 R R R R R) (zc (pbo pz (n := 0) (xs := ([] : List Int)) R R (by unfold maxLen; omega)) zn) fun k1 s1 x1l hN1 l1 => ?_)
 by_cases hk1 : k1 < a_list.length
 refine fos l1 hk1 fun _ t1 l1 => ?_
 unfold impl_GoodStanding_L1 at t1
 have c1 : (decide (((k1 : Nat) : Int) < ((a_list.length : Nat) : Int))) = true := ddt (by omega)
 refine wcr (wlq (pls R R) R (wnt (wcs (wft R c1 (wck (wqt (wcs (wcb (wcr (wlq (po_ixn (k := k1) (rga r0) el_31 R R hk1) R (wlq (v := .agg #[iv ((gx a_list k1).Number), iv ((gx a_list k1).Since), iv ((gx a_list k1).Paid)]) (po_ldfs (rga r0) tk_49 R hk1 R R R) R (wle (eal (cs := [iv 0, iv 0, iv 0]) za_49) R fun b2 => (wls (sbx (cs' := [iv ((gx a_list k1).Number), iv ((gx a_list k1).Since), iv ((gx a_list k1).Paid)]) tk_49 pz R R R R R R R) (wnt (wcr (wlq (pof fo_49_2 R) R (wlq (v := iv ((gx a_list k1).Paid)) (plx tk_3 pz R R) R (mv R R (wlq (po_geq R R) R (wnt (bdO t1 fun y2 t2 t1 => (wj (J := List Int) (X := Hd) (fun z => y2 = z) (fun _ x => [(1, iv a_year), (5, (sl x)), (12, (sl v0a)), (13, iv ((a_list.length : Nat) : Int)), (14, iv ((k1 : Nat) : Int))]) (fun z x => [ownF (sl x) z]) ?_ ?_))))))))))))))))))))))
 refine wcO t2 R (fun h2 t2 => ?_) fun h2 t2 => ?_
 refine wcg (mv R R (wlq (pof fo_49_0 R) R (wlq (v := iv ((gx a_list k1).Number)) (plx tk_3 pz R R) R (wle (ebs R (sb_23_1 ((gx a_list k1).Number))) R fun b3 => (gdO t2 fun g2 t2 => (wle (eo_append (xs := s1) (ys := ([(gx a_list k1).Number] : List Int)) ak_23 pk2 R R (slin_rd fun _ g => Rg.on (rgo (pbo pz (n := 1) (xs := ([(gx a_list k1).Number] : List Int)) R R (by unfold maxLen; omega))) g) g2) R fun x3 => ?_))))))
 exact asg R R (wln (wjm _ x3 (mtE t2) (su5 R R R R R) so1))
 exact wck (wjm _ x1l (mtE t2) (su5 R R R R R) (zc pk1 zn))
 intro j1 x2 hp
 obtain rfl : j1 = y2 := hp.symm
 refine wqb (wqt (wcg (wlq (po_inc R R (by omega)) R ?_)))
 exact mv R R (wln (wq_rnd hk1 (stpN l1 t1) x2 (su5 R R R R R) so1))
 have c1 : (decide (((k1 : Nat) : Int) < ((a_list.length : Nat) : Int))) = false := ddf (by omega)
 have en1 := foe l1 hk1
 exact wcr (wlq (pls R R) R (wnt (wcs (wff R c1 (wcx (wqe (wqe (wbx (wjm _ x1l (Sum.inl.inj en1) (su1 R) so1)))))))))
 intro e1 x1 hp
 obtain rfl : e1 = y1 := hp.symm
 refine wqt (wcr (mv R R (asg R R (wnt (wct ?_)))))
 obtain rfl := oi t0
 exact wq1 R R fun w hw => ⟨x1, R, hw.weak so1⟩

theorem c_impl_SwapRounds (w : World) (a_g : GGuild) (v0a : Hd) (r0 : rdF w (dm w []) (sl v0a) a_g.Members) (v1a : Hd) (_r1 : rdF w (dm w []) (sl v1a) a_g.Stock) (v2a : Hd) (u2a : List Value) (_r2 : RdL w (dm w []) (sl v2a) u2a a_g.Entries) (v3a : Hd) (_r3 : rdF w (dm w []) (sl v3a) a_g.Books) {r : Int} (t0 : impl_SwapRounds a_g = some r) : Calls Tryz.prog 29 #[.agg #[(sl v0a), (sl v1a), (sl v2a), (sl v3a), .int .i64 a_g.Round, .int .i64 a_g.Year]] w fun e w' => e = .returned (.int .i64 r) ∧ SH w [] [] w' := by
 refine cwc (args := [_]) Tryz.func29 R Tryz.ntmps29 R ?_
 unfold impl_SwapRounds at t0
 refine wcr (wle (eo_box R R) R fun b1 => (asg R R (wnt (wcs (wcr (wlq (pof fo_35_0 R) R (wlq (v := (sl v0a)) (plx tk_31 pz R R) R (wlq (pof fo_35_5 R) R (wlq (v := iv a_g.Year) (plx tk_3 pz R R) R (bdO t0 fun v1 hv1 t0 => (wlc (cz1 fa_64 R fun w hw => c_impl_GoodStanding w a_g.Members v0a (ra r0 hw) a_g.Year hv1) R fun x1 => (wlq (pln (rgo pz) el_23 R) R (asg R R (wnt (wcr (mv R R (bdO t0 fun v2 hv2 t0 => (wlc (cz0 fa_58 R fun w hw => c_impl_within w ((v1.length : Nat) : Int) 2 10 hv2) R fun _ => (wnt (wcO t0 R (fun h1 t0 => ?_) fun h1 t0 => ?_))))))))))))))))))))
 refine wcr (mv R R (wlq (po_sub R R) R (asg R R (wnt (wct (wqr ?_))))))
 obtain rfl := oi t0
 exact wq1 R R fun w hw => ⟨R, hw.weak zn⟩
 refine wck (wqt (wcr (asg R R (wnt (wct ?_)))))
 obtain rfl := oi t0
 exact wq1 R R fun w hw => ⟨R, hw.weak zn⟩

theorem c_impl_GuildOk (w : World) (a_g : GGuild) (v0a : Hd) (r0 : rdF w (dm w []) (sl v0a) a_g.Members) (v1a : Hd) (r1 : rdF w (dm w []) (sl v1a) a_g.Stock) (v2a : Hd) (u2a : List Value) (r2 : RdL w (dm w []) (sl v2a) u2a a_g.Entries) (v3a : Hd) (r3 : rdF w (dm w []) (sl v3a) a_g.Books) {r : Bool} (t0 : impl_GuildOk a_g = some r) : Calls Tryz.prog 25 #[.agg #[(sl v0a), (sl v1a), (sl v2a), (sl v3a), .int .i64 a_g.Round, .int .i64 a_g.Year]] w fun e w' => e = .returned (.bool r) ∧ SH w [] [] w' := by
 refine cwc (args := [_]) Tryz.func25 R Tryz.ntmps25 R ?_
 unfold impl_GuildOk at t0
 refine wcr (wle (eo_box R R) R fun b1 => (asg R R (wnt (wcs (wcs (bdO t0 fun y1 t1 t0 => (wj (J := Bool) (X := Unit) (fun z => y1 = z) (fun z _ => [(1, ptr b1 0), (26, .bool z)]) (fun _ _ => [box b1 [(sl v0a), (sl v1a), (sl v2a), (sl v3a), iv a_g.Round, iv a_g.Year]]) ?_ ?_)))))))
 refine wcg (wlq (pof fo_35_0 R) R (wlq (v := (sl v0a)) (plx tk_31 pz R R) R (bdO t1 fun v1 hv1 t1 => (wlc (cz0 fa_53 R fun w hw => c_impl_MembersOk w a_g.Members v0a (ra r0 hw) hv1) R fun _ => (wlq (po_not R) R (mv R R (wlo (t := 9) t1 R (fun h1 t1 => ?_) fun h1 t1 => ?_)))))))
 exact wgf (j := 4) R R R R R (wgf (j := 4) R R R R R (wgf (j := 4) R R R R R (wgf (j := 4) R R R R R (wlq (pit R R) R (mv R R (wgf (j := 10) R R R R R (wgf (j := 10) R R R R R (wgf (j := 10) R R R R R (wgf (j := 10) R R R R R (wlq (pit R R) R (mv R R (wgf (j := 16) R R R R R (wgf (j := 16) R R R R R (wgf (j := 16) R R R R R (wgf (j := 16) R R R R R (wlq (pit R R) R (wln (wjm _ () (mtE t1) (su2 R R) so1))))))))))))))))))
 refine wgn (j := 4) R R R (wlq (pof fo_35_1 R) R (wgn (j := 4) R R R (wlq (v := (sl v1a)) (plx tk_23 pz R R) R (bdO t1 fun v2 hv2 t1 => (wgn (j := 4) R R R (wlc (cz0 fa_54 R fun w hw => c_impl_StockOk w a_g.Stock v1a (ra r1 hw) hv2) R (fun _ => (wgn (j := 4) R R R (wlq (po_not R) R (wlq (pif R R) R (mv R R (wlo (t := 15) t1 R (fun h2 t1 => ?_) fun h2 t1 => ?_))))))))))))
 exact wgf (j := 10) R R R R R (wgf (j := 10) R R R R R (wgf (j := 10) R R R R R (wgf (j := 10) R R R R R (wlq (pit R R) R (mv R R (wgf (j := 16) R R R R R (wgf (j := 16) R R R R R (wgf (j := 16) R R R R R (wgf (j := 16) R R R R R (wlq (pit R R) R (wln (wjm _ () (mtE t1) (su2 R R) so1))))))))))))
 refine wgn (j := 10) R R R (wlq (pof fo_35_3 R) R (wgn (j := 10) R R R (wlq (v := (sl v3a)) (plx tk_33 pz R R) R (bdO t1 fun v3 hv3 t1 => (wgn (j := 10) R R R (wlc (cz0 fa_55 R fun w hw => c_impl_LedgerOk w a_g.Books v3a (ra r3 hw) hv3) R (fun _ => (wgn (j := 10) R R R (wlq (po_not R) R (wlq (pif R R) R (mv R R (wlo (t := 21) t1 R (fun h3 t1 => ?_) fun h3 t1 => ?_))))))))))))
 exact wgf (j := 16) R R R R R (wgf (j := 16) R R R R R (wgf (j := 16) R R R R R (wgf (j := 16) R R R R R (wlq (pit R R) R (wln (wjm _ () (mtE t1) (su2 R R) so1))))))
 exact wgn (j := 16) R R R (wlq (pof fo_35_2 R) R (wgn (j := 16) R R R (wlq (v := (sl v2a)) (plx tk_32 pz R R) R (wgn (j := 16) R R R (wlq (pln (rga r2) el_32 R) R (wgn (j := 16) R R R (wlq (po_gtr R R) R (wlq (pif R R) R (wln (wjm _ () (mtE t1) (su2 R R) so1))))))))))
 intro j1 _ hp
 obtain rfl : j1 = y1 := hp.symm
 refine wqt (wcO t0 R (fun h4 t0 => ?_) fun h4 t0 => ?_)
 refine wcr (asg R R (wnt (wct (wqr ?_))))
 obtain rfl := oi t0
 exact wq1 R R fun w hw => ⟨R, hw.weak zn⟩
 refine wck (wqt (wcs (wcr (wlq (pof fo_35_2 R) R (wlq (v := (sl v2a)) (plx tk_32 pz R R) R (wlq (pln (rga r2) el_32 R) R (mv R R (wnt (gdO t0 fun g1 t0 => (sqO t0 fun y1 l1 t0 => (wj (J := Unit) (X := Unit) (fun z => y1 = .inl z) (fun _ _ => [(1, ptr b1 0)]) (fun _ _ => [box b1 [(sl v0a), (sl v1a), (sl v2a), (sl v3a), iv a_g.Round, iv a_g.Year]]) ?_ ?_)))))))))))
 refine wcb (wcf (X := Unit) l1 (fun k1 s1 x1l => [(1, ptr b1 0), (28, (sl v2a)), (29, iv ((a_g.Entries.length : Nat) : Int)), (30, iv ((k1 : Nat) : Int))]) (fun k1 s1 x1l => [box b1 [(sl v0a), (sl v1a), (sl v2a), (sl v3a), iv a_g.Round, iv a_g.Year]]) () (su4 R R R R) so1 fun k1 s1 x1l hN1 l1 => ?_)
 by_cases hk1 : k1 < a_g.Entries.length
 refine fos l1 hk1 fun _ t1 l1 => ?_
 unfold impl_GuildOk_L1 at t1
 have c1 : (decide (((k1 : Nat) : Int) < ((a_g.Entries.length : Nat) : Int))) = true := ddt (by omega)
 refine wcr (wlq (pls R R) R (wnt (wcs (wft R c1 (wck (wqt (wcs (wcb (wcr (mv R R (wlq (po_ixn (k := k1) (rga r2) el_32 R R hk1) R (wl_elem (rga r2) hk1 ?_))))))))))))
 rintro ⟨_, _, he1⟩
 obtain ⟨w1, hc1, _⟩ := rd_GEntry.1 he1
 refine wlq (v := .agg #[iv ((gx a_g.Entries k1).Owner), iv ((gx a_g.Entries k1).Day), iv (((gx a_g.Entries k1).Block).Size), (sl w1)]) (po_ldns (rga r2) tk_54 R hc1 R R R) R (wle (eal (cs := [iv 0, iv 0, iv 0, (sl hn)]) za_54) R fun b2 => (asg R R (wls (sbx (cs' := [iv ((gx a_g.Entries k1).Owner), iv ((gx a_g.Entries k1).Day), iv (((gx a_g.Entries k1).Block).Size), (sl w1)]) tk_54 pz R R R R R R R) (wnt (wcs (bdO t1 fun y2 t2 t1 => (wj (J := Bool) (X := Unit) (fun z => y2 = z) (fun z _ => [(1, ptr b1 0), (28, (sl v2a)), (29, iv ((a_g.Entries.length : Nat) : Int)), (30, iv ((k1 : Nat) : Int)), (61, .bool z)]) (fun _ _ => [box b1 [(sl v0a), (sl v1a), (sl v2a), (sl v3a), iv a_g.Round, iv a_g.Year]]) ?_ ?_)))))))
 refine wcd [box b2 [iv ((gx a_g.Entries k1).Owner), iv ((gx a_g.Entries k1).Day), iv (((gx a_g.Entries k1).Block).Size), (sl w1)], box b1 [(sl v0a), (sl v1a), (sl v2a), (sl v3a), iv a_g.Round, iv a_g.Year]] 27 mixed (aq (v := .agg #[iv ((gx a_g.Entries k1).Owner), iv ((gx a_g.Entries k1).Day), iv (((gx a_g.Entries k1).Block).Size), (sl w1)]) 0 R (plb tk_54 pz R R R) so2 R (a1 1 (bdO t2 fun v4 hv4 t2 => (wsc R (cz0 fa_56 R fun w hw => c_impl_EntryOk w (GEntry.mk ((gx a_g.Entries k1).Owner) ((gx a_g.Entries k1).Day) ((gx a_g.Entries k1).Block)) w1 (Rg.on (er_GEntry_0 hc1 (rga r2) hk1) hw) hv4) (fun _ => (zt so2)) R fun _ => (aq 2 R (po_not R) so2 R (aq 3 R (pom R) so2 R (waO_ (t := 38) t2 R (fun h5 t2 => ?_) fun h5 t2 => ?_)))))))
 exact af 4 3 R R R R R so2 R (af 5 3 R R R R R so2 R (af 6 3 R R R R R so2 R (af 7 3 R R R R R so2 R (af 8 3 R R R R R so2 R (af 9 3 R R R R R so2 R (aq 10 R (pit R R) so2 R (aq 11 R (pom R) so2 R (af 12 11 R R R R R so2 R (af 13 11 R R R R R so2 R (af 14 11 R R R R R so2 R (au 15 14 R R R R so2 R (au 16 14 R R R R so2 R (au 17 14 R R R R so2 R (au 18 14 R R R R so2 R (au 19 14 R R R R so2 R (au 20 14 R R R R so2 R (au 21 14 R R R R so2 R (au 22 14 R R R R so2 R (au 23 14 R R R R so2 R (au 24 14 R R R R so2 R (af 25 11 R R R R R so2 R (aq 26 R (pit R R) so2 R (ae (wjm _ () (mtE t2) (su5 R R R R R) (zc pk1 zn)))))))))))))))))))))))))
 refine an 4 3 R R R R (pof fo_35_0 R) so2 R (an (v := (sl v0a)) 5 3 R R R R (plx tk_31 pk1 R R) so2 R (an 6 3 R R R R (pof fo_54_0 R) so2 R (an (v := iv ((gx a_g.Entries k1).Owner)) 7 3 R R R R (plx tk_3 pz R R) so2 R (a1 8 (bdO t2 fun v5 hv5 t2 => (ws_call_on (j := 3) R R R R (cz0 fa_57 R fun w hw => c_impl_isMember w a_g.Members v0a (ra r0 hw) ((gx a_g.Entries k1).Owner) hv5) (fun _ => (zt so2)) R fun _ => (an 9 3 R R R R (po_not R) so2 R (aq 10 R (pif R R) so2 R (aq 11 R (pom R) so2 R (waO_ (t := 46) t2 R (fun h6 t2 => ?_) fun h6 t2 => ?_))))))))))
 exact af 12 11 R R R R R so2 R (af 13 11 R R R R R so2 R (af 14 11 R R R R R so2 R (au 15 14 R R R R so2 R (au 16 14 R R R R so2 R (au 17 14 R R R R so2 R (au 18 14 R R R R so2 R (au 19 14 R R R R so2 R (au 20 14 R R R R so2 R (au 21 14 R R R R so2 R (au 22 14 R R R R so2 R (au 23 14 R R R R so2 R (au 24 14 R R R R so2 R (af 25 11 R R R R R so2 R (aq 26 R (pit R R) so2 R (ae (wjm _ () (mtE t2) (su5 R R R R R) (zc pk1 zn)))))))))))))))))
 refine an 12 11 R R R R (pom R) so2 R (an 13 11 R R R R (po_gtr R R) so2 R (an 14 11 R R R R (pom R) so2 R (waO_ (t := 49) t2 R (fun h7 t2 => ?_) fun h7 t2 => ?_)))
 refine an 15 14 R R R R (pof fo_54_1 R) so2 R (an (v := iv ((gx a_g.Entries k1).Day)) 16 14 R R R R (plx tk_3 pz R R) so2 R (an 17 14 R R R R (pof fo_35_2 R) so2 R (an (v := (sl v2a)) 18 14 R R R R (plx tk_32 pk1 R R) so2 R (an 19 14 R R R R (pom R) so2 R (an 20 14 R R R R (po_sub R R) so2 R (gdO t2 fun g2 t2 => (an 21 14 R R R R (po_ixr (rga r2) el_32 R R g2.1 g2.2) so2 R (an 22 14 R R R R (po_sfldr (rga r2) (ix_lt g2) fo_54_1 R) so2 R (wa_elem (rga r2) (ix_lt g2) ?_)))))))))
 rintro ⟨_, _, he2⟩
 obtain ⟨w2, hc2, _⟩ := rd_GEntry.1 he2
 exact an (v := iv ((gx a_g.Entries (((wr (((k1 : Nat) : Int) - 1))).toNat)).Day)) 23 14 R R R R (po_ldn (rga r2) tk_3 R hc2 R) so2 R (an 24 14 R R R R (pls R R) so2 R (an 25 11 R R R R (pit R R) so2 R (aq 26 R (pif R R) so2 R (ae (wjm _ () (mtE t2) (su5 R R R R R) (zc pk1 zn))))))
 exact af 15 14 R R R R R so2 R (af 16 14 R R R R R so2 R (af 17 14 R R R R R so2 R (af 18 14 R R R R R so2 R (af 19 14 R R R R R so2 R (af 20 14 R R R R R so2 R (af 21 14 R R R R R so2 R (af 22 14 R R R R R so2 R (af 23 14 R R R R R so2 R (af 24 14 R R R R R so2 R (an 25 11 R R R R (pif R R) so2 R (aq 26 R (pif R R) so2 R (ae (wjm _ () (mtE t2) (su5 R R R R R) (zc pk1 zn))))))))))))))
 intro j2 _ hp
 obtain rfl : j2 = y2 := hp.symm
 refine wqt (wcO t1 R (fun h8 t1 => ?_) fun h8 t1 => ?_)
 refine wcr (asg R R (wnt (wct (wbr (wqr (wqr (wbr (wqr (wqr ?_)))))))))
 replace t0 := lpR t0 l1 t1
 obtain rfl := oi t0
 exact wq1 R R fun w hw => ⟨R, hw.weak zn⟩
 refine wck (wqb (wqt (wcg (wlq (po_inc R R (by omega)) R ?_))))
 exact mv R R (wln (wq_rnd hk1 (stpN l1 t1) () (su4 R R R R) so1))
 have c1 : (decide (((k1 : Nat) : Int) < ((a_g.Entries.length : Nat) : Int))) = false := ddf (by omega)
 have en1 := foe l1 hk1
 exact wcr (wlq (pls R R) R (wnt (wcs (wff R c1 (wcx (wqe (wqe (wbx (wjm _ () en1 (su1 R) so1)))))))))
 intro e1 _ hp
 replace t0 := sqE (j := e1) t0 hp
 refine wqt (wcs (bdO t0 fun y1 t1 t0 => (wj (J := Bool) (X := Unit) (fun z => y1 = z) (fun z _ => [(2, .bool z)]) (fun _ _ => []) ?_ ?_)))
 refine wcd [box b1 [(sl v0a), (sl v1a), (sl v2a), (sl v3a), iv a_g.Round, iv a_g.Year]] 11 mixed (aq 0 R (pof fo_35_5 R) so1 R (aq (v := iv a_g.Year) 1 R (plx tk_3 pz R R) so1 R (a1 2 (bdO t1 fun v6 hv6 t1 => (wsc R (cz0 fa_58 R fun w hw => c_impl_within w a_g.Year 1900 2999 hv6) (fun _ => (zt so1)) R fun _ => (aq 3 R (pom R) so1 R (waO_ (t := 66) t1 R (fun h9 t1 => ?_) fun h9 t1 => ?_)))))))
 exact an 4 3 R R R R (pof fo_35_4 R) so1 R (an (v := iv a_g.Round) 5 3 R R R R (plx tk_3 pz R R) so1 R (an (v := .agg #[(sl v0a), (sl v1a), (sl v2a), (sl v3a), iv a_g.Round, iv a_g.Year]) 6 3 R R R R (plb tk_35 pz R R R) so1 R (a1 7 (bdO t1 fun v7 hv7 t1 => (ws_call_on (j := 3) R R R R (cz0 fa_29 R fun w hw => c_impl_SwapRounds w a_g v0a (ra r0 hw) v1a (ra r1 hw) v2a u2a (ra r2 hw) v3a (ra r3 hw) hv7) (fun _ => (zt so1)) R fun _ => (a1 8 (bdO t1 fun v8 hv8 t1 => (ws_call_on (j := 3) R R R R (cz0 fa_58 R fun w hw => c_impl_within w a_g.Round 0 v7 hv8) (fun _ => (zt so1)) R fun _ => (aq 9 R (pit R R) so1 R (aq 10 R (po_assign R) so1 R (ae (wjm _ () (mtE t1) (su1 R) zn))))))))))))
 exact af 4 3 R R R R R so1 R (af 5 3 R R R R R so1 R (af 6 3 R R R R R so1 R (af 7 3 R R R R R so1 R (af 8 3 R R R R R so1 R (aq 9 R (pif R R) so1 R (aq 10 R (po_assign R) so1 R (ae (wjm _ () (mtE t1) (su1 R) zn))))))))
 intro j3 _ hp
 obtain rfl : j3 = y1 := hp.symm
 refine wqt (wct ?_)
 obtain rfl := oi t0
 exact wq1 R R fun w hw => ⟨R, hw.weak zn⟩



theorem c_impl_FormatInt (w : World) (a_n : Int) {r : Str} (t0 : impl_FormatInt a_n = some r) : Calls Tryz.prog 27 #[.int .i64 a_n] w fun e w' => e = .returned (bs r) ∧ SH w [] [] w' := by
 refine cwc (args := [_]) Tryz.func27 R Tryz.ntmps27 R ?_
 unfold impl_FormatInt at t0
 refine wcr (asg R R (wnt (wcr (mv R R (bdO t0 fun v1 hv1 t0 => (wlc (cz0 fa_60 R fun w hw => c_strconv_Itoa w a_n hv1) R fun _ => (asg R R (wnt (wct ?_)))))))))
 obtain rfl := oi t0
 exact wq1 R R fun w hw => ⟨R, hw.weak zn⟩

theorem c_impl_FormatInt_b (w : World) (ht : Tb w) (a_n : Int) {r : Str} (t0 : impl_FormatInt_b a_n = some r) : Calls Tryz.prog 27 #[.int .i64 a_n] w fun e w' => e = .returned (bs r) ∧ SH w [] [] w' := by
 refine cwc (args := [_]) Tryz.func27 R Tryz.ntmps27 R ?_
 unfold impl_FormatInt_b at t0
 refine wcr (asg R R (wnt (wcr (mv R R (bdO t0 fun v1 hv1 t0 => (wlc (cz0 fa_60 R fun w hw => c_strconv_Itoa_b w (hw.tab ht) a_n hv1) R fun _ => (asg R R (wnt (wct ?_)))))))))
 obtain rfl := oi t0
 exact wq1 R R fun w hw => ⟨R, hw.weak zn⟩


theorem c_impl_lineOf (w : World) (ht : Tb w) (a_word : Str) (a_list : List Int) (v0a : Hd) (r0 : rdF w (dm w []) (sl v0a) a_list) {r : Str} (t0 : impl_lineOf a_word a_list = some r) : Calls Tryz.prog 26 #[bs a_word, (sl v0a)] w fun e w' => e = .returned (bs r) ∧ SH w [] [] w' := by
 refine cwc (args := [_, _]) Tryz.func26 R Tryz.ntmps26 R ?_
 unfold impl_lineOf at t0
 refine wcr (asg R R (wnt (wcr (mv R R (wle (ebs R (sb_29_1 a_word)) R fun b1 => (asg R R (wnt (wcs (wcr (mv R R (wlq (pln (rga r0) el_23 R) R (mv R R (wnt (gdO t0 fun g1 t0 => (lpO_inv t0 fun y1 l1 t0 => (wj (J := List Str) (X := Hd) (fun z => y1 = z) (fun _ x => [(5, (sl x))]) (fun z x => [ownF (sl x) z]) ?_ ?_))))))))))))))))
 refine wcb (wcf (X := Hd) l1 (fun k1 s1 x1l => [(5, (sl x1l)), (10, (sl v0a)), (11, iv ((a_list.length : Nat) : Int)), (12, iv ((k1 : Nat) : Int))]) (fun k1 s1 x1l => [ownF (sl x1l) s1]) (⟨some ⟨b1, 0, none⟩, 1, 1⟩ : Hd) (su4 R R R R) (zc (pbo pz (n := 1) (xs := ([a_word] : List Str)) R R (by unfold maxLen; omega)) zn) fun k1 s1 x1l hN1 l1 => ?_)
 by_cases hk1 : k1 < a_list.length
 refine fos l1 hk1 fun _ t1 l1 => ?_
 unfold impl_lineOf_L1 at t1
 have c1 : (decide (((k1 : Nat) : Int) < ((a_list.length : Nat) : Int))) = true := ddt (by omega)
 refine wcr (wlq (pls R R) R (wnt (wcs (wft R c1 (wck (wqt (wcs (wcb (wcr (wlq (po_ixn (k := k1) (rga r0) el_23 R R hk1) R (wlq (v := iv (gx a_list k1)) (po_ldf (rga r0) tk_3 R hk1 R) R (asg R R (wnt (wcg (mv R R (mv R R (bdO t1 fun v1 hv1 t1 => (wlc (cz0 fa_27 R fun w hw => c_impl_FormatInt_b w (hw.tab ht) (gx a_list k1) hv1) R fun _ => (wle (ebs R (sb_29_1 v1)) R fun b2 => (gdO t1 fun g2 t1 => (wle (eo_append (xs := s1) (ys := ([v1] : List Str)) ak_29 pk1 R R (slin_rd fun _ g => Rg.on (rgo (pbo pz (n := 1) (xs := ([v1] : List Str)) R R (by unfold maxLen; omega))) g) g2) R fun x2 => ?_)))))))))))))))))))))
 refine asg R R (wln (wqb (wqt (wcg (wlq (po_inc R R (by omega)) R ?_)))))
 exact mv R R (wln (wq_rnd hk1 (stpN l1 t1) x2 (su4 R R R R) so1))
 have c1 : (decide (((k1 : Nat) : Int) < ((a_list.length : Nat) : Int))) = false := ddf (by omega)
 have en1 := foe l1 hk1
 exact wcr (wlq (pls R R) R (wnt (wcs (wff R c1 (wcx (wqe (wqe (wbx (wjm _ x1l (Sum.inl.inj en1) (su1 R) so1)))))))))
 intro e1 x1 hp
 obtain rfl : e1 = y1 := hp.symm
 refine wqt (wcr (mv R R (bdO t0 fun v2 hv2 t0 => (wlc (cz0 fa_59 R fun w hw => c_strings_Join w e1 x1 (Rg.on (rgo pz) hw) (⟨[32]⟩ : Str) hv2) R fun _ => (asg R R (wnt (wct ?_)))))))
 obtain rfl := oi t0
 exact wq1 R R fun w hw => ⟨R, hw.weak zn⟩

theorem c_impl_Block_isPlace (w : World) (a_b : GBlock) (v0a : Hd) (r0 : rdF w (dm w []) (sl v0a) a_b.Cells) (a_x : Int) (a_y : Int) {r : Bool} (t0 : impl_Block_isPlace a_b a_x a_y = some r) : Calls Tryz.prog 78 #[.agg #[.int .i64 a_b.Size, (sl v0a)], .int .i64 a_x, .int .i64 a_y] w fun e w' => e = .returned (.bool r) ∧ SH w [] [] w' := by
 refine cwc (args := [_, _, _]) Tryz.func78 R Tryz.ntmps78 R ?_
 unfold impl_Block_isPlace at t0
 refine wcr (wle (eo_box R R) R fun b1 => (asg R R (wnt (wcs (bdO t0 fun y1 t1 t0 => (wj (J := Bool) (X := Unit) (fun z => y1 = z) (fun z _ => [(6, .bool z)]) (fun _ _ => []) ?_ ?_))))))
 refine wcg (wlq (v := .agg #[iv a_b.Size, (sl v0a)]) (plb tk_52 pz R R R) R (bdO t1 fun v1 hv1 t1 => (wlc (cz0 fa_61 R fun w hw => c_impl_BlockOk w a_b v0a (ra r0 hw) hv1) R fun _ => (mv R R (wlo (t := 9) t1 R (fun h1 t1 => ?_) fun h1 t1 => ?_)))))
 refine wgn (j := 2) R R R (mv R R (wgn (j := 2) R R R (wlq (pof fo_52_0 R) R (wgn (j := 2) R R R (wlq (v := iv a_b.Size) (plx tk_3 pz R R) R (wgn (j := 2) R R R (wlq (po_sub R R) R (bdO t1 fun v2 hv2 t1 => (wgn (j := 2) R R R (wlc (cz0 fa_58 R fun w hw => c_impl_within w a_x 0 (wr (a_b.Size - 1)) hv2) R (fun _ => (wlq (pit R R) R (mv R R (wlo (t := 16) t1 R (fun h2 t1 => ?_) fun h2 t1 => ?_))))))))))))))
 exact wgn (j := 9) R R R (mv R R (wgn (j := 9) R R R (wlq (pof fo_52_0 R) R (wgn (j := 9) R R R (wlq (v := iv a_b.Size) (plx tk_3 pz R R) R (wgn (j := 9) R R R (wlq (po_sub R R) R (bdO t1 fun v3 hv3 t1 => (wgn (j := 9) R R R (wlc (cz0 fa_58 R fun w hw => c_impl_within w a_y 0 (wr (a_b.Size - 1)) hv3) R (fun _ => (wlq (pit R R) R (asg R R (wln (wjm _ () (mtE t1) (su1 R) zn)))))))))))))))
 exact wgf (j := 9) R R R R R (wgf (j := 9) R R R R R (wgf (j := 9) R R R R R (wgf (j := 9) R R R R R (wgf (j := 9) R R R R R (wlq (pif R R) R (asg R R (wln (wjm _ () (mtE t1) (su1 R) zn))))))))
 exact wgf (j := 2) R R R R R (wgf (j := 2) R R R R R (wgf (j := 2) R R R R R (wgf (j := 2) R R R R R (wgf (j := 2) R R R R R (wlq (pif R R) R (mv R R (wgf (j := 9) R R R R R (wgf (j := 9) R R R R R (wgf (j := 9) R R R R R (wgf (j := 9) R R R R R (wgf (j := 9) R R R R R (wlq (pif R R) R (asg R R (wln (wjm _ () (mtE t1) (su1 R) zn)))))))))))))))
 intro j1 _ hp
 obtain rfl : j1 = y1 := hp.symm
 refine wqt (wct ?_)
 obtain rfl := oi t0
 exact wq1 R R fun w hw => ⟨R, hw.weak zn⟩

theorem c_impl_CellAt (w : World) (a_b : GBlock) (v0a : Hd) (r0 : rdF w (dm w []) (sl v0a) a_b.Cells) (a_x : Int) (a_y : Int) {r : GCell} (t0 : impl_CellAt a_b a_x a_y = some r) : Calls Tryz.prog 63 #[.agg #[.int .i64 a_b.Size, (sl v0a)], .int .i64 a_x, .int .i64 a_y] w fun e w' => e = .returned (.agg #[.int .i64 r.Split, .int .i64 r.A, .int .i64 r.B]) ∧ SH w [] [] w' := by
 refine cwc (args := [_, _, _]) Tryz.func63 R Tryz.ntmps63 R ?_
 unfold impl_CellAt at t0
 refine wcr (wle (eo_box R R) R fun b1 => (wle (eal (cs := [iv 0, iv 0, iv 0]) za_86) R fun b2 => (wnt (wcs (wcr (wlq (v := .agg #[iv a_b.Size, (sl v0a)]) (plb tk_52 pk1 R R R) R (mv R R (mv R R (bdO t0 fun v1 hv1 t0 => (wlc (cz0 fa_78 R fun w hw => c_impl_Block_isPlace w a_b v0a (ra r0 hw) a_x a_y hv1) R fun _ => (wlq (po_not R) R (wnt (wcO t0 R (fun h1 t0 => ?_) fun h1 t0 => ?_)))))))))))))
 refine wcr (wlq (po_build R bd_86) R (wls (sbx (cs' := [iv 0, iv 0, iv 0]) tk_86 pz R R R R R R R) (wnt (wct (wqr ?_)))))
 obtain rfl := oi t0
 exact wqc R tk_86 R pz R fun w hw => ⟨R, hw.weak zn⟩
 refine wck (wqt (wcr (wlq (pof fo_52_1 R) R (wlq (v := (sl v0a)) (plx tk_50 pk1 R R) R (mv R R (wlq (pof fo_52_0 R) R (wlq (v := iv a_b.Size) (plx tk_3 pk1 R R) R (wlq (po_mul R R) R (mv R R (wlq (po_add R R) R (gdO t0 fun g1 t0 => (wlq (po_ixr (rga r0) el_50 R R g1.1 g1.2) R (wlq (v := .agg #[iv ((gx a_b.Cells (((wr ((wr (a_y * a_b.Size)) + a_x))).toNat)).Split), iv ((gx a_b.Cells (((wr ((wr (a_y * a_b.Size)) + a_x))).toNat)).A), iv ((gx a_b.Cells (((wr ((wr (a_y * a_b.Size)) + a_x))).toNat)).B)]) (po_ldfs (rga r0) tk_86 R (ix_lt g1) R R R) R (wls (sbx (cs' := [iv ((gx a_b.Cells (((wr ((wr (a_y * a_b.Size)) + a_x))).toNat)).Split), iv ((gx a_b.Cells (((wr ((wr (a_y * a_b.Size)) + a_x))).toNat)).A), iv ((gx a_b.Cells (((wr ((wr (a_y * a_b.Size)) + a_x))).toNat)).B)]) tk_86 pz R R R R R R R) (wnt (wct ?_))))))))))))))))
 obtain rfl := oi t0
 exact wqc R tk_86 R pz R fun w hw => ⟨R, hw.weak zn⟩

theorem c_impl_CellText (w : World) (a_c : GCell) {r : Str} (t0 : impl_CellText a_c = some r) : Calls Tryz.prog 62 #[.agg #[.int .i64 a_c.Split, .int .i64 a_c.A, .int .i64 a_c.B]] w fun e w' => e = .returned (bs r) ∧ SH w [] [] w' := by
 refine cwc (args := [_]) Tryz.func62 R Tryz.ntmps62 R ?_
 unfold impl_CellText at t0
 refine wcr (wle (eo_box R R) R fun b1 => (asg R R (wnt (wcs (wcr (wlq (v := .agg #[iv a_c.Split, iv a_c.A, iv a_c.B]) (plb tk_86 pz R R R) R (bdO t0 fun v1 hv1 t0 => (wlc (cz0 fa_77 R fun w hw => c_impl_CellOk w a_c hv1) R fun _ => (wlq (po_not R) R (wnt (wcO t0 R (fun h1 t0 => ?_) fun h1 t0 => ?_)))))))))))
 refine wcr (asg R R (wnt (wct (wqr ?_))))
 obtain rfl := oi t0
 exact wq1 R R fun w hw => ⟨R, hw.weak zn⟩
 refine wck (wqt (wcr (wle (ebs R (sb_29_3 (⟨[]⟩ : Str) (⟨[47]⟩ : Str) (⟨[92]⟩ : Str))) R fun b2 => (wlq (pof fo_86_0 R) R (wlq (v := iv a_c.Split) (plx tk_3 pk1 R R) R (gdO t0 fun g1 t0 => (wlq (po_ixr (rgo (pbo pz (n := 3) (xs := ([(⟨[]⟩ : Str), (⟨[47]⟩ : Str), (⟨[92]⟩ : Str)] : List Str)) R R (by unfold maxLen; omega))) el_29 R R g1.1 g1.2) R ?_)))))))
 refine wlq (v := bs (gx ([(⟨[]⟩ : Str), (⟨[47]⟩ : Str), (⟨[92]⟩ : Str)] : List Str) ((a_c.Split).toNat))) (po_ldf (rgo (pbo pz (n := 3) (xs := ([(⟨[]⟩ : Str), (⟨[47]⟩ : Str), (⟨[92]⟩ : Str)] : List Str)) R R (by unfold maxLen; omega))) tk_9 R (ix_lt g1) R) R ?_
 refine asg R R (wnt (wcs (wcr (mv R R (wlq (po_seql R R) R (wnt (wcO t0 R (fun h2 t0 => ?_) fun h2 t0 => ?_)))))))
 refine wcr (wlq (pof fo_86_1 R) R (wlq (v := iv a_c.A) (plx tk_3 pk1 R R) R (bdO t0 fun v2 hv2 t0 => (wlc (cz0 fa_27 R fun w hw => c_impl_FormatInt w a_c.A hv2) R fun _ => (asg R R (wnt (wct (wqr ?_))))))))
 obtain rfl := oi t0
 exact wq1 R R fun w hw => ⟨R, hw.weak zn⟩
 refine wck (wqt (wcs (wcd [box b2 [bs (⟨[]⟩ : Str), bs (⟨[47]⟩ : Str), bs (⟨[92]⟩ : Str)], box b1 [iv a_c.Split, iv a_c.A, iv a_c.B]] 10 mixed (aq 0 R (pof fo_86_1 R) so2 R (aq (v := iv a_c.A) 1 R (plx tk_3 pk1 R R) so2 R (aq 3 R (pom R) so2 R (aq 5 R (pof fo_86_2 R) so2 R (aq (v := iv a_c.B) 6 R (plx tk_3 pk1 R R) so2 R (a1 2 (bdO t0 fun v3 hv3 t0 => (wsc R (cz0 fa_27 R fun w hw => c_impl_FormatInt w a_c.A hv3) (fun _ => (zt so2)) R fun _ => (gdO t0 fun g2 t0 => (aq 4 R (po_sadd R R g2) so2 R (a1 7 (bdO t0 fun v4 hv4 t0 => (wsc R (cz0 fa_27 R fun w hw => c_impl_FormatInt w a_c.B hv4) (fun _ => (zt so2)) R fun _ => (gdO t0 fun g3 t0 => (aq 8 R (po_sadd R R g3) so2 R (aq 9 R (po_assign R) so2 R (ae (wqt (wct ?_))))))))))))))))))))))
 obtain rfl := oi t0
 exact wq1 R R fun w hw => ⟨R, hw.weak zn⟩

theorem c_impl_BlockText (w : World) (a_b : GBlock) (v0a : Hd) (r0 : rdF w (dm w []) (sl v0a) a_b.Cells) {r : Str} (t0 : impl_BlockText a_b = some r) : Calls Tryz.prog 28 #[.agg #[.int .i64 a_b.Size, (sl v0a)]] w fun e w' => e = .returned (bs r) ∧ SH w [] [] w' := by
 refine cwc (args := [_]) Tryz.func28 R Tryz.ntmps28 R ?_
 unfold impl_BlockText at t0
 refine wcr (wle (eo_box R R) R fun b1 => (asg R R (wnt (wcs (wcr (wlq (v := .agg #[iv a_b.Size, (sl v0a)]) (plb tk_52 pz R R R) R (bdO t0 fun v1 hv1 t0 => (wlc (cz0 fa_61 R fun w hw => c_impl_BlockOk w a_b v0a (ra r0 hw) hv1) R fun _ => (wlq (po_not R) R (wnt (wcO t0 R (fun h1 t0 => ?_) fun h1 t0 => ?_)))))))))))
 refine wcr (asg R R (wnt (wct (wqr ?_))))
 obtain rfl := oi t0
 exact wq1 R R fun w hw => ⟨R, hw.weak zn⟩
 refine wck (wqt (wcr (wle (ebs R sb_29_0) R fun b2 => (asg R R (wnt (wcs (wcr (wlq (pof fo_52_0 R) R (wlq (v := iv a_b.Size) (plx tk_3 pk1 R R) R (mv R R (wnt (gdO t0 fun g1 t0 => (lpO_inv t0 fun y1 l1 t0 => (wj (J := List Str) (X := Hd) (fun z => y1 = z) (fun _ x => [(3, (sl x))]) (fun z x => [ownF (sl x) z]) ?_ ?_))))))))))))))
 refine wcb (wcf (X := Hd) l1 (fun k1 s1 x1l => [(1, ptr b1 0), (3, (sl x1l)), (12, iv a_b.Size), (13, iv ((k1 : Nat) : Int))]) (fun k1 s1 x1l => [box b1 [iv a_b.Size, (sl v0a)], ownF (sl x1l) s1]) (⟨some ⟨b2, 0, none⟩, 0, 0⟩ : Hd) (su4 R R R R) (zc pk1 (zc (pbo pz (n := 0) (xs := ([] : List Str)) R R (by unfold maxLen; omega)) zn)) fun k1 s1 x1l hN1 l1 => ?_)
 by_cases hk1 : k1 < (a_b.Size).toNat
 refine fos l1 hk1 fun _ t1 l1 => ?_
 unfold impl_BlockText_L1 at t1
 have c1 : (decide (((k1 : Nat) : Int) < a_b.Size)) = true := ddt (by omega)
 refine wcr (wlq (pls R R) R (wnt (wcs (wft R c1 (wck (wqt (wcs (wcb (wcr (mv R R (asg R R (wnt (wcr (wle (ebs R sb_29_0) R fun b3 => (asg R R (wnt (wcs (wcr (wlq (pof fo_52_0 R) R (wlq (v := iv a_b.Size) (plx tk_3 pk1 R R) R (mv R R (wnt (lpO_inv t1 fun y2 l2 t1 => (wj (J := List Str) (X := Hd) (fun z => y2 = z) (fun _ x => [(1, ptr b1 0), (3, (sl x1l)), (5, (sl x)), (12, iv a_b.Size), (13, iv ((k1 : Nat) : Int))]) (fun z x => [box b1 [iv a_b.Size, (sl v0a)], ownF (sl x1l) s1, ownF (sl x) z]) ?_ ?_))))))))))))))))))))))))
 refine wcb (wcf (X := Hd) l2 (fun k2 s2 x2l => [(1, ptr b1 0), (3, (sl x1l)), (4, iv ((k1 : Nat) : Int)), (5, (sl x2l)), (12, iv a_b.Size), (13, iv ((k1 : Nat) : Int)), (18, iv a_b.Size), (19, iv ((k2 : Nat) : Int))]) (fun k2 s2 x2l => [box b1 [iv a_b.Size, (sl v0a)], ownF (sl x1l) s1, ownF (sl x2l) s2]) (⟨some ⟨b3, 0, none⟩, 0, 0⟩ : Hd) (su8 R R R R R R R R) (zc pk1 (zc pk1 (zc (pbo pz (n := 0) (xs := ([] : List Str)) R R (by unfold maxLen; omega)) zn))) fun k2 s2 x2l hN2 l2 => ?_)
 by_cases hk2 : k2 < (a_b.Size).toNat
 refine fos l2 hk2 fun _ t2 l2 => ?_
 unfold impl_BlockText_L2 at t2
 have c2 : (decide (((k2 : Nat) : Int) < a_b.Size)) = true := ddt (by omega)
 refine wcr (wlq (pls R R) R (wnt (wcs (wft R c2 (wck (wqt (wcs (wcb (wcr (mv R R (asg R R (wnt (wcg (mv R R (wlq (v := .agg #[iv a_b.Size, (sl v0a)]) (plb tk_52 pz R R R) R (mv R R (mv R R (bdO t2 fun v2 hv2 t2 => (wlc (cz0 fa_63 R fun w hw => c_impl_CellAt w a_b v0a (ra r0 hw) ((k2 : Nat) : Int) ((k1 : Nat) : Int) hv2) R fun _ => (bdO t2 fun v3 hv3 t2 => (wlc (cz0 fa_62 R fun w hw => c_impl_CellText w v2 hv3) R fun _ => (wle (ebs R (sb_29_1 v3)) R fun b4 => (gdO t2 fun g2 t2 => (wle (eo_append (xs := s2) (ys := ([v3] : List Str)) ak_29 pk3 R R (slin_rd fun _ g => Rg.on (rgo (pbo pz (n := 1) (xs := ([v3] : List Str)) R R (by unfold maxLen; omega))) g) g2) R fun x3 => ?_))))))))))))))))))))))))
 refine asg R R (wln (wqb (wqt (wcg (wlq (po_inc R R (by omega)) R ?_)))))
 exact mv R R (wln (wq_rnd hk2 (stpN l2 t2) x3 (su8 R R R R R R R R) (zc pk2 (zc pk2 so1))))
 have c2 : (decide (((k2 : Nat) : Int) < a_b.Size)) = false := ddf (by omega)
 have en1 := foe l2 hk2
 exact wcr (wlq (pls R R) R (wnt (wcs (wff R c2 (wcx (wqe (wqe (wbx (wjm _ x2l (Sum.inl.inj en1) (su5 R R R R R) so3)))))))))
 intro e2 x2 hp
 obtain rfl : e2 = y2 := hp.symm
 refine wqt (wcg (mv R R (mv R R (bdO t1 fun v4 hv4 t1 => (wlc (cz0 fa_59 R fun w hw => c_strings_Join w e2 x2 (Rg.on (rgo pk2) hw) (⟨[44]⟩ : Str) hv4) R fun _ => (wle (ebs R (sb_29_1 v4)) R fun b5 => (gdO t1 fun g3 t1 => (wle (eo_append (xs := s1) (ys := ([v4] : List Str)) ak_29 pk2 R R (slin_rd fun _ g => Rg.on (rgo (pbo pz (n := 1) (xs := ([v4] : List Str)) R R (by unfold maxLen; omega))) g) g3) R fun x4 => ?_))))))))
 refine asg R R (wln (wqb (wqt (wcg (wlq (po_inc R R (by omega)) R ?_)))))
 exact mv R R (wln (wq_rnd hk1 (stpN l1 t1) x4 (su4 R R R R) (zc pk2 so1)))
 have c1 : (decide (((k1 : Nat) : Int) < a_b.Size)) = false := ddf (by omega)
 have en2 := foe l1 hk1
 exact wcr (wlq (pls R R) R (wnt (wcs (wff R c1 (wcx (wqe (wqe (wbx (wjm _ x1l (Sum.inl.inj en2) (su1 R) (zc pk1 zn))))))))))
 intro e1 x1 hp
 obtain rfl : e1 = y1 := hp.symm
 refine wqt (wcr (mv R R (bdO t0 fun v5 hv5 t0 => (wlc (cz0 fa_59 R fun w hw => c_strings_Join w e1 x1 (Rg.on (rgo pz) hw) (⟨[59]⟩ : Str) hv5) R fun _ => (asg R R (wnt (wct ?_)))))))
 obtain rfl := oi t0
 exact wq1 R R fun w hw => ⟨R, hw.weak zn⟩

theorem c_impl_FormatGuild (w : World) (ht : Tb w) (a_g : GGuild) (v0a : Hd) (r0 : rdF w (dm w []) (sl v0a) a_g.Members) (v1a : Hd) (r1 : rdF w (dm w []) (sl v1a) a_g.Stock) (v2a : Hd) (u2a : List Value) (r2 : RdL w (dm w []) (sl v2a) u2a a_g.Entries) (v3a : Hd) (r3 : rdF w (dm w []) (sl v3a) a_g.Books) {r : List Str} (t0 : impl_FormatGuild a_g = some r) : Calls Tryz.prog 7 #[.agg #[(sl v0a), (sl v1a), (sl v2a), (sl v3a), .int .i64 a_g.Round, .int .i64 a_g.Year]] w fun e w' => ∃ x : Hd, e = .returned ((sl x)) ∧ SH w [] [ownF (sl x) r] w' := by
 refine cwc (args := [_]) Tryz.func7 R Tryz.ntmps7 R ?_
 unfold impl_FormatGuild at t0
 refine wcr (wle (eo_box R R) R fun b1 => (asg R R (wnt (wcs (wcr (wlq (v := .agg #[(sl v0a), (sl v1a), (sl v2a), (sl v3a), iv a_g.Round, iv a_g.Year]) (plb tk_35 pz R R R) R (bdO t0 fun v1 hv1 t0 => (wlc (cz0 fa_25 R fun w hw => c_impl_GuildOk w a_g v0a (ra r0 hw) v1a (ra r1 hw) v2a u2a (ra r2 hw) v3a (ra r3 hw) hv1) R fun _ => (wlq (po_not R) R (wnt (wcO t0 R (fun h1 t0 => ?_) fun h1 t0 => ?_)))))))))))
 refine wcr (asg R R (wnt (wct (wqr ?_))))
 obtain rfl := oi t0
 exact wq1 R R fun w hw => ⟨hn, R, hw.weak (zc pick_nil zn)⟩
 refine wck (wqt (wcr (wle (ebs R sb_23_0) R fun b2 => (asg R R (wnt (wcs (wcr (wlq (pof fo_35_0 R) R (wlq (v := (sl v0a)) (plx tk_31 pk1 R R) R (wlq (pln (rga r0) el_31 R) R (mv R R (wnt (gdO t0 fun g1 t0 => (lpO_inv t0 fun y1 l1 t0 => (wj (J := List Int) (X := Hd) (fun z => y1 = z) (fun _ x => [(1, ptr b1 0), (3, (sl x))]) (fun z x => [box b1 [(sl v0a), (sl v1a), (sl v2a), (sl v3a), iv a_g.Round, iv a_g.Year], ownF (sl x) z]) ?_ ?_)))))))))))))))
 refine wcb (wcf (X := Hd) l1 (fun k1 s1 x1l => [(1, ptr b1 0), (3, (sl x1l)), (14, (sl v0a)), (15, iv ((a_g.Members.length : Nat) : Int)), (16, iv ((k1 : Nat) : Int))]) (fun k1 s1 x1l => [box b1 [(sl v0a), (sl v1a), (sl v2a), (sl v3a), iv a_g.Round, iv a_g.Year], ownF (sl x1l) s1]) (⟨some ⟨b2, 0, none⟩, 0, 0⟩ : Hd) (su5 R R R R R) (zc pk1 (zc (pbo pz (n := 0) (xs := ([] : List Int)) R R (by unfold maxLen; omega)) zn)) fun k1 s1 x1l hN1 l1 => ?_)
 by_cases hk1 : k1 < a_g.Members.length
 refine fos l1 hk1 fun _ t1 l1 => ?_
 unfold impl_FormatGuild_L1 at t1
 have c1 : (decide (((k1 : Nat) : Int) < ((a_g.Members.length : Nat) : Int))) = true := ddt (by omega)
 refine wcr (wlq (pls R R) R (wnt (wcs (wft R c1 (wck (wqt (wcs (wcb (wcr (wlq (po_ixn (k := k1) (rga r0) el_31 R R hk1) R (wlq (v := .agg #[iv ((gx a_g.Members k1).Number), iv ((gx a_g.Members k1).Since), iv ((gx a_g.Members k1).Paid)]) (po_ldfs (rga r0) tk_49 R hk1 R R R) R (wle (eal (cs := [iv 0, iv 0, iv 0]) za_49) R fun b3 => (wls (sbx (cs' := [iv ((gx a_g.Members k1).Number), iv ((gx a_g.Members k1).Since), iv ((gx a_g.Members k1).Paid)]) tk_49 pz R R R R R R R) (wnt (wcg (mv R R (wlq (pof fo_49_0 R) R (wlq (v := iv ((gx a_g.Members k1).Number)) (plx tk_3 pz R R) R (wle (ebs R (sb_23_1 ((gx a_g.Members k1).Number))) R fun b4 => (gdO t1 fun g2 t1 => (wle (eo_append (xs := s1) (ys := ([(gx a_g.Members k1).Number] : List Int)) ak_23 pk3 R R (slin_rd fun _ g => Rg.on (rgo (pbo pz (n := 1) (xs := ([(gx a_g.Members k1).Number] : List Int)) R R (by unfold maxLen; omega))) g) g2) R fun x2 => ?_)))))))))))))))))))))
 refine asg R R (wln (wqb (wqt (wcg (wlq (po_inc R R (by omega)) R ?_)))))
 exact mv R R (wln (wq_rnd hk1 (stpN l1 t1) x2 (su5 R R R R R) (zc pk3 so1)))
 have c1 : (decide (((k1 : Nat) : Int) < ((a_g.Members.length : Nat) : Int))) = false := ddf (by omega)
 have en1 := foe l1 hk1
 exact wcr (wlq (pls R R) R (wnt (wcs (wff R c1 (wcx (wqe (wqe (wbx (wjm _ x1l (Sum.inl.inj en1) (su2 R R) so2)))))))))
 intro e1 x1 hp
 obtain rfl : e1 = y1 := hp.symm
 refine wqt (wcs (wcd [box b1 [(sl v0a), (sl v1a), (sl v2a), (sl v3a), iv a_g.Round, iv a_g.Year], ownF (sl x1) e1] 7 mixed (aq 0 R (pom R) so2 R (aq 2 R (pof fo_35_1 R) so2 R (aq (v := (sl v1a)) 3 R (plx tk_23 pz R R) so2 R (a1 1 (bdO t0 fun v2 hv2 t0 => (wsc R (cz0 fa_26 R fun w hw => c_impl_lineOf w (hw.tab ht) (⟨[109, 101, 109, 98, 101, 114, 115]⟩ : Str) e1 x1 (Rg.on (rgo pk1) hw) hv2) (fun _ => (zt so2)) R fun _ => (a1 4 (bdO t0 fun v3 hv3 t0 => (wsc R (cz0 fa_26 R fun w hw => c_impl_lineOf w (hw.tab ht) (⟨[115, 116, 111, 99, 107]⟩ : Str) a_g.Stock v1a (ra r1 hw) hv3) (fun _ => (zt so2)) R fun _ => (a1 5 (wse R (ebs R (sb_29_2 v2 v3)) (fun _ => (zt (zc pk1 (zc pk1 zn)))) R fun b5 => (aq 6 R (po_assign R) (zc pk1 (zc pk1 zn)) R (ae (wqt (wcs (wcr (wlq (pof fo_35_2 R) R (wlq (v := (sl v2a)) (plx tk_32 pk1 R R) R (wlq (pln (rga r2) el_32 R) R (mv R R (wnt (gdO t0 fun g3 t0 => (lpO_inv t0 fun y1 l1 t0 => (wj (J := List Str) (X := Hd) (fun z => y1 = z) (fun _ x => [(1, ptr b1 0), (6, (sl x))]) (fun z x => [box b1 [(sl v0a), (sl v1a), (sl v2a), (sl v3a), iv a_g.Round, iv a_g.Year], ownF (sl x) z]) ?_ ?_))))))))))))))))))))))))))
 refine wcb (wcf (X := Hd) l1 (fun k2 s2 x2l => [(1, ptr b1 0), (6, (sl x2l)), (33, (sl v2a)), (34, iv ((a_g.Entries.length : Nat) : Int)), (35, iv ((k2 : Nat) : Int))]) (fun k2 s2 x2l => [box b1 [(sl v0a), (sl v1a), (sl v2a), (sl v3a), iv a_g.Round, iv a_g.Year], ownF (sl x2l) s2]) (⟨some ⟨b5, 0, none⟩, 2, 2⟩ : Hd) (su5 R R R R R) (zc pk1 (zc (pbo pz (n := 2) (xs := ([v2, v3] : List Str)) R R (by unfold maxLen; omega)) zn)) fun k2 s2 x2l hN2 l1 => ?_)
 by_cases hk2 : k2 < a_g.Entries.length
 refine fos l1 hk2 fun _ t1 l1 => ?_
 unfold impl_FormatGuild_L2 at t1
 have c2 : (decide (((k2 : Nat) : Int) < ((a_g.Entries.length : Nat) : Int))) = true := ddt (by omega)
 refine wcr (wlq (pls R R) R (wnt (wcs (wft R c2 (wck (wqt (wcs (wcb (wcr (wlq (po_ixn (k := k2) (rga r2) el_32 R R hk2) R (wl_elem (rga r2) hk2 ?_)))))))))))
 rintro ⟨_, _, he1⟩
 obtain ⟨w1, hc1, _⟩ := rd_GEntry.1 he1
 refine wlq (v := .agg #[iv ((gx a_g.Entries k2).Owner), iv ((gx a_g.Entries k2).Day), iv (((gx a_g.Entries k2).Block).Size), (sl w1)]) (po_ldns (rga r2) tk_54 R hc1 R R R) R (wle (eal (cs := [iv 0, iv 0, iv 0, (sl hn)]) za_54) R fun b6 => (wls (sbx (cs' := [iv ((gx a_g.Entries k2).Owner), iv ((gx a_g.Entries k2).Day), iv (((gx a_g.Entries k2).Block).Size), (sl w1)]) tk_54 pz R R R R R R R) (wnt (wcd [box b6 [iv ((gx a_g.Entries k2).Owner), iv ((gx a_g.Entries k2).Day), iv (((gx a_g.Entries k2).Block).Size), (sl w1)], box b1 [(sl v0a), (sl v1a), (sl v2a), (sl v3a), iv a_g.Round, iv a_g.Year]] 17 mixed (aq 0 R (pom R) so2 R (aq 1 R (pof fo_54_0 R) so2 R (aq (v := iv ((gx a_g.Entries k2).Owner)) 2 R (plx tk_3 pz R R) so2 R (aq 5 R (pof fo_54_1 R) so2 R (aq (v := iv ((gx a_g.Entries k2).Day)) 6 R (plx tk_3 pz R R) so2 R (aq 10 R (pof fo_54_2 R) so2 R (aq (v := .agg #[iv (((gx a_g.Entries k2).Block).Size), (sl w1)]) 11 R (plb tk_52 pz R R R) so2 R (a1 3 (bdO t1 fun v4 hv4 t1 => (wsc R (cz0 fa_27 R fun w hw => c_impl_FormatInt_b w (hw.tab ht) ((gx a_g.Entries k2).Owner) hv4) (fun _ => (zt so2)) R fun _ => (gdO t1 fun g4 t1 => (aq 4 R (po_sadd R R g4) so2 R (a1 7 (bdO t1 fun v5 hv5 t1 => (wsc R (cz0 fa_27 R fun w hw => c_impl_FormatInt_b w (hw.tab ht) ((gx a_g.Entries k2).Day) hv5) (fun _ => (zt so2)) R fun _ => (gdO t1 fun g5 t1 => (aq 8 R (po_sadd R R g5) so2 R (gdO t1 fun g6 t1 => (aq 9 R (po_sadd R R g6) so2 R (a1 12 (bdO t1 fun v6 hv6 t1 => (wsc R (cz0 fa_28 R fun w hw => c_impl_BlockText w ((gx a_g.Entries k2).Block) w1 (Rg.on (er_GEntry_0 hc1 (rga r2) hk2) hw) hv6) (fun _ => (zt so2)) R fun _ => (gdO t1 fun g7 t1 => (aq 13 R (po_sadd R R g7) so2 R (a1 14 (wse R (ebs R (sb_29_1 (sadd (sadd (sadd (sadd v4 (⟨[32]⟩ : Str)) v5) (⟨[32]⟩ : Str)) v6))) (fun _ => (zt (zc pk1 (zc pk1 zn)))) R fun b7 => (a1 15 (gdO t1 fun g8 t1 => (wse R (eo_append (xs := s2) (ys := ([(sadd (sadd (sadd (sadd v4 (⟨[32]⟩ : Str)) v5) (⟨[32]⟩ : Str)) v6)] : List Str)) ak_29 pk3 R R (slin_rd fun _ g => Rg.on (rgo (pbo pz (n := 1) (xs := ([(sadd (sadd (sadd (sadd v4 (⟨[32]⟩ : Str)) v5) (⟨[32]⟩ : Str)) v6)] : List Str)) R R (by unfold maxLen; omega))) g) g8) (fun _ => (zt (zc pk2 (zc pk2 zn)))) R fun x4 => ?_)))))))))))))))))))))))))))))))))
 refine aq 16 R (po_assign R) (zc pk2 (zc pk2 zn)) R (ae (wqb (wqt (wcg (wlq (po_inc R R (by omega)) R ?_)))))
 exact mv R R (wln (wq_rnd hk2 (stpN l1 t1) x4 (su5 R R R R R) (zc pk3 so1)))
 have c2 : (decide (((k2 : Nat) : Int) < ((a_g.Entries.length : Nat) : Int))) = false := ddf (by omega)
 have en2 := foe l1 hk2
 exact wcr (wlq (pls R R) R (wnt (wcs (wff R c2 (wcx (wqe (wqe (wbx (wjm _ x2l (Sum.inl.inj en2) (su2 R R) so2)))))))))
 intro e2 x3 hp
 obtain rfl : e2 = y1 := hp.symm
 refine wqt (wcs (bdO t0 fun v7 hv7 t0 => (gdO t0 fun g9 t0 => (gdO t0 fun g10 t0 => (bdO t0 fun v8 hv8 t0 => (bdO t0 fun v9 hv9 t0 => (gdO t0 fun g11 t0 => (bdO t0 fun v10 hv10 t0 => (gdO t0 fun g12 t0 => (wcj (X := Hd) (fun _ => True) (fun z => [(2, (sl z))]) (fun z => [ownF (sl z) (e2 ++ [(sadd (sadd (sadd (⟨[114, 111, 117, 110, 100, 32]⟩ : Str) v7) (⟨[47]⟩ : Str)) v9), v10])]) ?_ ?_))))))))))
 refine wcd [box b1 [(sl v0a), (sl v1a), (sl v2a), (sl v3a), iv a_g.Round, iv a_g.Year]] 17 mixed (aq 0 R (pom R) so1 R (aq 1 R (pof fo_35_4 R) so1 R (aq (v := iv a_g.Round) 2 R (plx tk_3 pz R R) so1 R (aq (v := .agg #[(sl v0a), (sl v1a), (sl v2a), (sl v3a), iv a_g.Round, iv a_g.Year]) 6 R (plb tk_35 pz R R R) so1 R (aq 10 R (pof fo_35_5 R) so1 R (aq (v := iv a_g.Year) 11 R (plx tk_3 pz R R) so1 R (wa_2 (i := 3) (j := 12) (by kernel_rfl) ?_ ?_)))))))
 refine wsc R (cz0 fa_27 R fun w hw => c_impl_FormatInt_b w (hw.tab ht) a_g.Round hv7) (fun _ => (zt so1)) R fun _ => aq 4 R (po_sadd R R g9) so1 R (aq 5 R (po_sadd R R g10) so1 R (wa_2 (i := 7) (j := 12) (by kernel_rfl) ?_ ?_))
 refine wsc R (cz0 fa_29 R fun w hw => c_impl_SwapRounds w a_g v0a (ra r0 hw) v1a (ra r1 hw) v2a u2a (ra r2 hw) v3a (ra r3 hw) hv8) (fun _ => (zt so1)) R fun _ => wa_2 (i := 8) (j := 12) (by kernel_rfl) ?_ ?_
 refine wsc R (cz0 fa_27 R fun w hw => c_impl_FormatInt_b w (hw.tab ht) v8 hv9) (fun _ => (zt so1)) R fun _ => aq 9 R (po_sadd R R g11) so1 R (a1 12 (wse R (ebs R (sb_23_1 a_g.Year)) (fun _ => (zt (zc pk1 zn))) R fun b8 => (a1 13 (wsc R (cz0 fa_26 R fun w hw => c_impl_lineOf w (hw.tab ht) (⟨[121, 101, 97, 114]⟩ : Str) ([a_g.Year] : List Int) (⟨some ⟨b8, 0, none⟩, 1, 1⟩ : Hd) (Rg.on (rgo (pbo pz (n := 1) (xs := ([a_g.Year] : List Int)) R R (by unfold maxLen; omega))) hw) hv10) (fun _ => (zt (zc pk1 zn))) R fun _ => ?_))))
 refine a1 14 (wse R (ebs R (sb_29_2 (sadd (sadd (sadd (⟨[114, 111, 117, 110, 100, 32]⟩ : Str) v7) (⟨[47]⟩ : Str)) v9) v10)) (fun _ => (zt (zc pk2 zn))) R fun b9 => (a1 15 (wse R (eo_append (xs := e2) (ys := ([(sadd (sadd (sadd (⟨[114, 111, 117, 110, 100, 32]⟩ : Str) v7) (⟨[47]⟩ : Str)) v9), v10] : List Str)) ak_29 pk3 R R (slin_rd fun _ g => Rg.on (rgo (pbo pz (n := 2) (xs := ([(sadd (sadd (sadd (⟨[114, 111, 117, 110, 100, 32]⟩ : Str) v7) (⟨[47]⟩ : Str)) v9), v10] : List Str)) R R (by unfold maxLen; omega))) g) g12) (fun _ => (zt (zc pk3 zn))) R fun x5 => ?_)))
 exact aq 16 R (po_assign R) (zc pk3 zn) R (ae (wqm x5 trivial (su1 R) so1))
 refine wse R (ebs R (sb_23_1 a_g.Year)) (fun _ => (zt (zc pk1 zn))) R fun b10 => a1 8 (wsc R (cz0 fa_27 R fun w hw => c_impl_FormatInt_b w (hw.tab ht) v8 hv9) (fun _ => (zt (zc pk1 zn))) R fun _ => (aq 9 R (po_sadd R R g11) (zc pk1 zn) R (a1 13 (wsc R (cz0 fa_26 R fun w hw => c_impl_lineOf w (hw.tab ht) (⟨[121, 101, 97, 114]⟩ : Str) ([a_g.Year] : List Int) (⟨some ⟨b10, 0, none⟩, 1, 1⟩ : Hd) (Rg.on (rgo (pbo pz (n := 1) (xs := ([a_g.Year] : List Int)) R R (by unfold maxLen; omega))) hw) hv10) (fun _ => (zt (zc pk1 zn))) R fun _ => ?_))))
 refine a1 14 (wse R (ebs R (sb_29_2 (sadd (sadd (sadd (⟨[114, 111, 117, 110, 100, 32]⟩ : Str) v7) (⟨[47]⟩ : Str)) v9) v10)) (fun _ => (zt (zc pk2 zn))) R fun b11 => (a1 15 (wse R (eo_append (xs := e2) (ys := ([(sadd (sadd (sadd (⟨[114, 111, 117, 110, 100, 32]⟩ : Str) v7) (⟨[47]⟩ : Str)) v9), v10] : List Str)) ak_29 pk3 R R (slin_rd fun _ g => Rg.on (rgo (pbo pz (n := 2) (xs := ([(sadd (sadd (sadd (⟨[114, 111, 117, 110, 100, 32]⟩ : Str) v7) (⟨[47]⟩ : Str)) v9), v10] : List Str)) R R (by unfold maxLen; omega))) g) g12) (fun _ => (zt (zc pk3 zn))) R fun x6 => ?_)))
 exact aq 16 R (po_assign R) (zc pk3 zn) R (ae (wqm x6 trivial (su1 R) so1))
 refine wse R (ebs R (sb_23_1 a_g.Year)) (fun _ => (zt (zc pk1 zn))) R fun b12 => a1 7 (wsc R (cz0 fa_29 R fun w hw => c_impl_SwapRounds w a_g v0a (ra r0 hw) v1a (ra r1 hw) v2a u2a (ra r2 hw) v3a (ra r3 hw) hv8) (fun _ => (zt (zc pk1 zn))) R fun _ => (a1 8 (wsc R (cz0 fa_27 R fun w hw => c_impl_FormatInt_b w (hw.tab ht) v8 hv9) (fun _ => (zt (zc pk1 zn))) R fun _ => (aq 9 R (po_sadd R R g11) (zc pk1 zn) R (a1 13 (wsc R (cz0 fa_26 R fun w hw => c_impl_lineOf w (hw.tab ht) (⟨[121, 101, 97, 114]⟩ : Str) ([a_g.Year] : List Int) (⟨some ⟨b12, 0, none⟩, 1, 1⟩ : Hd) (Rg.on (rgo (pbo pz (n := 1) (xs := ([a_g.Year] : List Int)) R R (by unfold maxLen; omega))) hw) hv10) (fun _ => (zt (zc pk1 zn))) R fun _ => ?_))))))
 refine a1 14 (wse R (ebs R (sb_29_2 (sadd (sadd (sadd (⟨[114, 111, 117, 110, 100, 32]⟩ : Str) v7) (⟨[47]⟩ : Str)) v9) v10)) (fun _ => (zt (zc pk2 zn))) R fun b13 => (a1 15 (wse R (eo_append (xs := e2) (ys := ([(sadd (sadd (sadd (⟨[114, 111, 117, 110, 100, 32]⟩ : Str) v7) (⟨[47]⟩ : Str)) v9), v10] : List Str)) ak_29 pk3 R R (slin_rd fun _ g => Rg.on (rgo (pbo pz (n := 2) (xs := ([(sadd (sadd (sadd (⟨[114, 111, 117, 110, 100, 32]⟩ : Str) v7) (⟨[47]⟩ : Str)) v9), v10] : List Str)) R R (by unfold maxLen; omega))) g) g12) (fun _ => (zt (zc pk3 zn))) R fun x7 => ?_)))
 exact aq 16 R (po_assign R) (zc pk3 zn) R (ae (wqm x7 trivial (su1 R) so1))
 refine wse R (ebs R (sb_23_1 a_g.Year)) (fun _ => (zt (zc pk1 zn))) R fun b14 => a1 3 (wsc R (cz0 fa_27 R fun w hw => c_impl_FormatInt_b w (hw.tab ht) a_g.Round hv7) (fun _ => (zt (zc pk1 zn))) R fun _ => (aq 4 R (po_sadd R R g9) (zc pk1 zn) R (aq 5 R (po_sadd R R g10) (zc pk1 zn) R (a1 7 (wsc R (cz0 fa_29 R fun w hw => c_impl_SwapRounds w a_g v0a (ra r0 hw) v1a (ra r1 hw) v2a u2a (ra r2 hw) v3a (ra r3 hw) hv8) (fun _ => (zt (zc pk1 zn))) R fun _ => (a1 8 (wsc R (cz0 fa_27 R fun w hw => c_impl_FormatInt_b w (hw.tab ht) v8 hv9) (fun _ => (zt (zc pk1 zn))) R fun _ => (aq 9 R (po_sadd R R g11) (zc pk1 zn) R (a1 13 (wsc R (cz0 fa_26 R fun w hw => c_impl_lineOf w (hw.tab ht) (⟨[121, 101, 97, 114]⟩ : Str) ([a_g.Year] : List Int) (⟨some ⟨b14, 0, none⟩, 1, 1⟩ : Hd) (Rg.on (rgo (pbo pz (n := 1) (xs := ([a_g.Year] : List Int)) R R (by unfold maxLen; omega))) hw) hv10) (fun _ => (zt (zc pk1 zn))) R fun _ => ?_))))))))))
 refine a1 14 (wse R (ebs R (sb_29_2 (sadd (sadd (sadd (⟨[114, 111, 117, 110, 100, 32]⟩ : Str) v7) (⟨[47]⟩ : Str)) v9) v10)) (fun _ => (zt (zc pk2 zn))) R fun b15 => (a1 15 (wse R (eo_append (xs := e2) (ys := ([(sadd (sadd (sadd (⟨[114, 111, 117, 110, 100, 32]⟩ : Str) v7) (⟨[47]⟩ : Str)) v9), v10] : List Str)) ak_29 pk3 R R (slin_rd fun _ g => Rg.on (rgo (pbo pz (n := 2) (xs := ([(sadd (sadd (sadd (⟨[114, 111, 117, 110, 100, 32]⟩ : Str) v7) (⟨[47]⟩ : Str)) v9), v10] : List Str)) R R (by unfold maxLen; omega))) g) g12) (fun _ => (zt (zc pk3 zn))) R fun x8 => ?_)))
 exact aq 16 R (po_assign R) (zc pk3 zn) R (ae (wqm x8 trivial (su1 R) so1))
 intro x9 _
 refine wqt (wct ?_)
 obtain rfl := oi t0
 exact wq1 R R fun w hw => ⟨x9, R, hw.weak so1⟩

theorem c_laws_eqStringS (w : World) (a_a : List Str) (v0a : Hd) (r0 : rdF w (dm w []) (sl v0a) a_a) (a_b : List Str) (v1a : Hd) (r1 : rdF w (dm w []) (sl v1a) a_b) {r : Bool} (t0 : laws_eqStringS a_a a_b = some r) : Calls Tryz.prog 8 #[(sl v0a), (sl v1a)] w fun e w' => e = .returned (.bool r) ∧ SH w [] [] w' := by
 refine cwc (args := [_, _]) Tryz.func8 R Tryz.ntmps8 R ?_
 unfold laws_eqStringS at t0
 refine wcr (asg R R (wnt (wcs (wcr (mv R R (wlq (pln (rga r0) el_29 R) R (mv R R (wlq (pln (rga r1) el_29 R) R (wlq (po_neq R R) R (wnt (wcO t0 R (fun h1 t0 => ?_) fun h1 t0 => ?_)))))))))))
 refine wcr (asg R R (wnt (wct (wqr ?_))))
 obtain rfl := oi t0
 exact wq1 R R fun w hw => ⟨R, hw.weak zn⟩
 refine wck (wqt (wcs (wcr (asg R R (wnt (gdO t0 fun g1 t0 => (sqO t0 fun y1 l1 t0 => (wj (J := Unit) (X := Unit) (fun z => y1 = .inl z) (fun _ _ => []) (fun _ _ => []) ?_ ?_))))))))
 refine wcb (wcf (X := Unit) l1 (fun k1 s1 x1l => [(0, (sl v0a)), (1, (sl v1a)), (5, iv ((k1 : Nat) : Int))]) (fun k1 s1 x1l => []) () (su3 R R R) zn fun k1 s1 x1l hN1 l1 => ?_)
 by_cases hk1 : k1 < a_a.length
 refine fos l1 hk1 fun _ t1 l1 => ?_
 unfold laws_eqStringS_L1 at t1
 have c1 : (decide (((k1 : Nat) : Int) < ((a_a.length : Nat) : Int))) = true := ddt (by omega)
 refine wcs (wcr (mv R R (mv R R (wlq (pln (rga r0) el_29 R) R (wlq (pls R R) R (wnt (wft R c1 (wck (wqt (wcs (wcb (wcs (wcd [] 9 mixed (aq 0 R (pom R) zn R (aq 1 R (pom R) zn R (aq 2 R (po_ixn (k := k1) (rga r0) el_29 R R hk1) zn R (aq (v := bs (gx a_a k1)) 3 R (po_ldf (rga r0) tk_9 R hk1 R) zn R (aq 4 R (pom R) zn R (aq 5 R (pom R) zn R (gdO t1 fun g2 t1 => (aq 6 R (po_ixn (k := k1) (rga r1) el_29 R R g2) zn R (aq (v := bs (gx a_b k1)) 7 R (po_ldf (rga r1) tk_9 R g2 R) zn R (aq 8 R (po_sneq R R) zn R (ae (wqt (wcO t1 R (fun h2 t1 => ?_) fun h2 t1 => ?_))))))))))))))))))))))))))
 refine wcr (asg R R (wnt (wct (wbr (wqr (wqr (wbr (wqr (wqr ?_)))))))))
 replace t0 := lpR t0 l1 t1
 obtain rfl := oi t0
 exact wq1 R R fun w hw => ⟨R, hw.weak zn⟩
 refine wck (wqb (wqt (wcg (mv R R (wlq (po_inc R R (by omega)) R ?_)))))
 exact asg R R (wln (wq_rnd hk1 (stpN l1 t1) () (su3 R R R) zn))
 have c1 : (decide (((k1 : Nat) : Int) < ((a_a.length : Nat) : Int))) = false := ddf (by omega)
 have en1 := foe l1 hk1
 exact wcs (wcr (mv R R (mv R R (wlq (pln (rga r0) el_29 R) R (wlq (pls R R) R (wnt (wff R c1 (wcx (wqe (wqe (wbx (wjm _ () en1 yn zn))))))))))))
 intro e1 _ hp
 replace t0 := sqE (j := e1) t0 hp
 refine wqt (wcr (asg R R (wnt (wct ?_))))
 obtain rfl := oi t0
 exact wq1 R R fun w hw => ⟨R, hw.weak zn⟩

theorem c_laws_eqMember (w : World) (a_a : GMember) (a_b : GMember) {r : Bool} (t0 : laws_eqMember a_a a_b = some r) : Calls Tryz.prog 65 #[.agg #[.int .i64 a_a.Number, .int .i64 a_a.Since, .int .i64 a_a.Paid], .agg #[.int .i64 a_b.Number, .int .i64 a_b.Since, .int .i64 a_b.Paid]] w fun e w' => e = .returned (.bool r) ∧ SH w [] [] w' := by
 refine cwc (args := [_, _]) Tryz.func65 R Tryz.ntmps65 R ?_
 unfold laws_eqMember at t0
 refine wcr (wle (eo_box R R) R fun b1 => (wle (eo_box R R) R fun b2 => (asg R R (wnt (wcs (wcr (wlq (pof fo_49_0 R) R (wlq (v := iv a_a.Number) (plx tk_3 pk1 R R) R (wlq (pof fo_49_0 R) R (wlq (v := iv a_b.Number) (plx tk_3 pz R R) R (wlq (po_neq R R) R (wnt (wcO t0 R (fun h1 t0 => ?_) fun h1 t0 => ?_)))))))))))))
 refine wcr (asg R R (wnt (wct (wqr ?_))))
 obtain rfl := oi t0
 exact wq1 R R fun w hw => ⟨R, hw.weak zn⟩
 refine wck (wqt (wcs (wcr (wlq (pof fo_49_1 R) R (wlq (v := iv a_a.Since) (plx tk_3 pk1 R R) R (wlq (pof fo_49_1 R) R (wlq (v := iv a_b.Since) (plx tk_3 pz R R) R (wlq (po_neq R R) R (wnt (wcO t0 R (fun h2 t0 => ?_) fun h2 t0 => ?_))))))))))
 refine wcr (asg R R (wnt (wct (wqr ?_))))
 obtain rfl := oi t0
 exact wq1 R R fun w hw => ⟨R, hw.weak zn⟩
 refine wck (wqt (wcs (wcr (wlq (pof fo_49_2 R) R (wlq (v := iv a_a.Paid) (plx tk_3 pk1 R R) R (wlq (pof fo_49_2 R) R (wlq (v := iv a_b.Paid) (plx tk_3 pz R R) R (wlq (po_neq R R) R (wnt (wcO t0 R (fun h3 t0 => ?_) fun h3 t0 => ?_))))))))))
 refine wcr (asg R R (wnt (wct (wqr ?_))))
 obtain rfl := oi t0
 exact wq1 R R fun w hw => ⟨R, hw.weak zn⟩
 refine wck (wqt (wcr (asg R R (wnt (wct ?_)))))
 obtain rfl := oi t0
 exact wq1 R R fun w hw => ⟨R, hw.weak zn⟩

theorem c_laws_eqMemberS (w : World) (a_a : List GMember) (v0a : Hd) (r0 : rdF w (dm w []) (sl v0a) a_a) (a_b : List GMember) (v1a : Hd) (r1 : rdF w (dm w []) (sl v1a) a_b) {r : Bool} (t0 : laws_eqMemberS a_a a_b = some r) : Calls Tryz.prog 30 #[(sl v0a), (sl v1a)] w fun e w' => e = .returned (.bool r) ∧ SH w [] [] w' := by
 refine cwc (args := [_, _]) Tryz.func30 R Tryz.ntmps30 R ?_
 unfold laws_eqMemberS at t0
 refine wcr (asg R R (wnt (wcs (wcr (mv R R (wlq (pln (rga r0) el_31 R) R (mv R R (wlq (pln (rga r1) el_31 R) R (wlq (po_neq R R) R (wnt (wcO t0 R (fun h1 t0 => ?_) fun h1 t0 => ?_)))))))))))
 refine wcr (asg R R (wnt (wct (wqr ?_))))
 obtain rfl := oi t0
 exact wq1 R R fun w hw => ⟨R, hw.weak zn⟩
 refine wck (wqt (wcs (wcr (asg R R (wnt (gdO t0 fun g1 t0 => (sqO t0 fun y1 l1 t0 => (wj (J := Unit) (X := Unit) (fun z => y1 = .inl z) (fun _ _ => []) (fun _ _ => []) ?_ ?_))))))))
 refine wcb (wcf (X := Unit) l1 (fun k1 s1 x1l => [(0, (sl v0a)), (1, (sl v1a)), (5, iv ((k1 : Nat) : Int))]) (fun k1 s1 x1l => []) () (su3 R R R) zn fun k1 s1 x1l hN1 l1 => ?_)
 by_cases hk1 : k1 < a_a.length
 refine fos l1 hk1 fun _ t1 l1 => ?_
 unfold laws_eqMemberS_L1 at t1
 have c1 : (decide (((k1 : Nat) : Int) < ((a_a.length : Nat) : Int))) = true := ddt (by omega)
 refine wcs (wcr (mv R R (mv R R (wlq (pln (rga r0) el_31 R) R (wlq (pls R R) R (wnt (wft R c1 (wck (wqt (wcs (wcb (wcs (wcd [] 10 mixed (aq 0 R (pom R) zn R (aq 1 R (pom R) zn R (aq 2 R (po_ixn (k := k1) (rga r0) el_31 R R hk1) zn R (aq (v := .agg #[iv ((gx a_a k1).Number), iv ((gx a_a k1).Since), iv ((gx a_a k1).Paid)]) 3 R (po_ldfs (rga r0) tk_49 R hk1 R R R) zn R (aq 4 R (pom R) zn R (aq 5 R (pom R) zn R (gdO t1 fun g2 t1 => (aq 6 R (po_ixn (k := k1) (rga r1) el_31 R R g2) zn R (aq (v := .agg #[iv ((gx a_b k1).Number), iv ((gx a_b k1).Since), iv ((gx a_b k1).Paid)]) 7 R (po_ldfs (rga r1) tk_49 R g2 R R R) zn R (a1 8 (bdO t1 fun v1 hv1 t1 => (wsc R (cz0 fa_65 R fun w hw => c_laws_eqMember w (gx a_a k1) (gx a_b k1) hv1) (fun _ => (zt zn)) R fun _ => (aq 9 R (po_not R) zn R (ae (wqt (wcO t1 R (fun h2 t1 => ?_) fun h2 t1 => ?_)))))))))))))))))))))))))))))
 refine wcr (asg R R (wnt (wct (wbr (wqr (wqr (wbr (wqr (wqr ?_)))))))))
 replace t0 := lpR t0 l1 t1
 obtain rfl := oi t0
 exact wq1 R R fun w hw => ⟨R, hw.weak zn⟩
 refine wck (wqb (wqt (wcg (mv R R (wlq (po_inc R R (by omega)) R ?_)))))
 exact asg R R (wln (wq_rnd hk1 (stpN l1 t1) () (su3 R R R) zn))
 have c1 : (decide (((k1 : Nat) : Int) < ((a_a.length : Nat) : Int))) = false := ddf (by omega)
 have en1 := foe l1 hk1
 exact wcs (wcr (mv R R (mv R R (wlq (pln (rga r0) el_31 R) R (wlq (pls R R) R (wnt (wff R c1 (wcx (wqe (wqe (wbx (wjm _ () en1 yn zn))))))))))))
 intro e1 _ hp
 replace t0 := sqE (j := e1) t0 hp
 refine wqt (wcr (asg R R (wnt (wct ?_))))
 obtain rfl := oi t0
 exact wq1 R R fun w hw => ⟨R, hw.weak zn⟩

theorem c_laws_eqIntS (w : World) (a_a : List Int) (v0a : Hd) (r0 : rdF w (dm w []) (sl v0a) a_a) (a_b : List Int) (v1a : Hd) (r1 : rdF w (dm w []) (sl v1a) a_b) {r : Bool} (t0 : laws_eqIntS a_a a_b = some r) : Calls Tryz.prog 31 #[(sl v0a), (sl v1a)] w fun e w' => e = .returned (.bool r) ∧ SH w [] [] w' := by
 refine cwc (args := [_, _]) Tryz.func31 R Tryz.ntmps31 R ?_
 unfold laws_eqIntS at t0
 refine wcr (asg R R (wnt (wcs (wcr (mv R R (wlq (pln (rga r0) el_23 R) R (mv R R (wlq (pln (rga r1) el_23 R) R (wlq (po_neq R R) R (wnt (wcO t0 R (fun h1 t0 => ?_) fun h1 t0 => ?_)))))))))))
 refine wcr (asg R R (wnt (wct (wqr ?_))))
 obtain rfl := oi t0
 exact wq1 R R fun w hw => ⟨R, hw.weak zn⟩
 refine wck (wqt (wcs (wcr (asg R R (wnt (gdO t0 fun g1 t0 => (sqO t0 fun y1 l1 t0 => (wj (J := Unit) (X := Unit) (fun z => y1 = .inl z) (fun _ _ => []) (fun _ _ => []) ?_ ?_))))))))
 refine wcb (wcf (X := Unit) l1 (fun k1 s1 x1l => [(0, (sl v0a)), (1, (sl v1a)), (5, iv ((k1 : Nat) : Int))]) (fun k1 s1 x1l => []) () (su3 R R R) zn fun k1 s1 x1l hN1 l1 => ?_)
 by_cases hk1 : k1 < a_a.length
 refine fos l1 hk1 fun _ t1 l1 => ?_
 unfold laws_eqIntS_L1 at t1
 have c1 : (decide (((k1 : Nat) : Int) < ((a_a.length : Nat) : Int))) = true := ddt (by omega)
 refine wcs (wcr (mv R R (mv R R (wlq (pln (rga r0) el_23 R) R (wlq (pls R R) R (wnt (wft R c1 (wck (wqt (wcs (wcb (wcs (wcd [] 9 mixed (aq 0 R (pom R) zn R (aq 1 R (pom R) zn R (aq 2 R (po_ixn (k := k1) (rga r0) el_23 R R hk1) zn R (aq (v := iv (gx a_a k1)) 3 R (po_ldf (rga r0) tk_3 R hk1 R) zn R (aq 4 R (pom R) zn R (aq 5 R (pom R) zn R (gdO t1 fun g2 t1 => (aq 6 R (po_ixn (k := k1) (rga r1) el_23 R R g2) zn R (aq (v := iv (gx a_b k1)) 7 R (po_ldf (rga r1) tk_3 R g2 R) zn R (aq 8 R (po_neq R R) zn R (ae (wqt (wcO t1 R (fun h2 t1 => ?_) fun h2 t1 => ?_))))))))))))))))))))))))))
 refine wcr (asg R R (wnt (wct (wbr (wqr (wqr (wbr (wqr (wqr ?_)))))))))
 replace t0 := lpR t0 l1 t1
 obtain rfl := oi t0
 exact wq1 R R fun w hw => ⟨R, hw.weak zn⟩
 refine wck (wqb (wqt (wcg (mv R R (wlq (po_inc R R (by omega)) R ?_)))))
 exact asg R R (wln (wq_rnd hk1 (stpN l1 t1) () (su3 R R R) zn))
 have c1 : (decide (((k1 : Nat) : Int) < ((a_a.length : Nat) : Int))) = false := ddf (by omega)
 have en1 := foe l1 hk1
 exact wcs (wcr (mv R R (mv R R (wlq (pln (rga r0) el_23 R) R (wlq (pls R R) R (wnt (wff R c1 (wcx (wqe (wqe (wbx (wjm _ () en1 yn zn))))))))))))
 intro e1 _ hp
 replace t0 := sqE (j := e1) t0 hp
 refine wqt (wcr (asg R R (wnt (wct ?_))))
 obtain rfl := oi t0
 exact wq1 R R fun w hw => ⟨R, hw.weak zn⟩

theorem c_laws_eqCell (w : World) (a_a : GCell) (a_b : GCell) {r : Bool} (t0 : laws_eqCell a_a a_b = some r) : Calls Tryz.prog 94 #[.agg #[.int .i64 a_a.Split, .int .i64 a_a.A, .int .i64 a_a.B], .agg #[.int .i64 a_b.Split, .int .i64 a_b.A, .int .i64 a_b.B]] w fun e w' => e = .returned (.bool r) ∧ SH w [] [] w' := by
 refine cwc (args := [_, _]) Tryz.func94 R Tryz.ntmps94 R ?_
 unfold laws_eqCell at t0
 refine wcr (wle (eo_box R R) R fun b1 => (wle (eo_box R R) R fun b2 => (asg R R (wnt (wcs (wcr (wlq (pof fo_86_0 R) R (wlq (v := iv a_a.Split) (plx tk_3 pk1 R R) R (wlq (pof fo_86_0 R) R (wlq (v := iv a_b.Split) (plx tk_3 pz R R) R (wlq (po_neq R R) R (wnt (wcO t0 R (fun h1 t0 => ?_) fun h1 t0 => ?_)))))))))))))
 refine wcr (asg R R (wnt (wct (wqr ?_))))
 obtain rfl := oi t0
 exact wq1 R R fun w hw => ⟨R, hw.weak zn⟩
 refine wck (wqt (wcs (wcr (wlq (pof fo_86_1 R) R (wlq (v := iv a_a.A) (plx tk_3 pk1 R R) R (wlq (pof fo_86_1 R) R (wlq (v := iv a_b.A) (plx tk_3 pz R R) R (wlq (po_neq R R) R (wnt (wcO t0 R (fun h2 t0 => ?_) fun h2 t0 => ?_))))))))))
 refine wcr (asg R R (wnt (wct (wqr ?_))))
 obtain rfl := oi t0
 exact wq1 R R fun w hw => ⟨R, hw.weak zn⟩
 refine wck (wqt (wcs (wcr (wlq (pof fo_86_2 R) R (wlq (v := iv a_a.B) (plx tk_3 pk1 R R) R (wlq (pof fo_86_2 R) R (wlq (v := iv a_b.B) (plx tk_3 pz R R) R (wlq (po_neq R R) R (wnt (wcO t0 R (fun h3 t0 => ?_) fun h3 t0 => ?_))))))))))
 refine wcr (asg R R (wnt (wct (wqr ?_))))
 obtain rfl := oi t0
 exact wq1 R R fun w hw => ⟨R, hw.weak zn⟩
 refine wck (wqt (wcr (asg R R (wnt (wct ?_)))))
 obtain rfl := oi t0
 exact wq1 R R fun w hw => ⟨R, hw.weak zn⟩

theorem c_laws_eqCellS (w : World) (a_a : List GCell) (v0a : Hd) (r0 : rdF w (dm w []) (sl v0a) a_a) (a_b : List GCell) (v1a : Hd) (r1 : rdF w (dm w []) (sl v1a) a_b) {r : Bool} (t0 : laws_eqCellS a_a a_b = some r) : Calls Tryz.prog 86 #[(sl v0a), (sl v1a)] w fun e w' => e = .returned (.bool r) ∧ SH w [] [] w' := by
 refine cwc (args := [_, _]) Tryz.func86 R Tryz.ntmps86 R ?_
 unfold laws_eqCellS at t0
 refine wcr (asg R R (wnt (wcs (wcr (mv R R (wlq (pln (rga r0) el_50 R) R (mv R R (wlq (pln (rga r1) el_50 R) R (wlq (po_neq R R) R (wnt (wcO t0 R (fun h1 t0 => ?_) fun h1 t0 => ?_)))))))))))
 refine wcr (asg R R (wnt (wct (wqr ?_))))
 obtain rfl := oi t0
 exact wq1 R R fun w hw => ⟨R, hw.weak zn⟩
 refine wck (wqt (wcs (wcr (asg R R (wnt (gdO t0 fun g1 t0 => (sqO t0 fun y1 l1 t0 => (wj (J := Unit) (X := Unit) (fun z => y1 = .inl z) (fun _ _ => []) (fun _ _ => []) ?_ ?_))))))))
 refine wcb (wcf (X := Unit) l1 (fun k1 s1 x1l => [(0, (sl v0a)), (1, (sl v1a)), (5, iv ((k1 : Nat) : Int))]) (fun k1 s1 x1l => []) () (su3 R R R) zn fun k1 s1 x1l hN1 l1 => ?_)
 by_cases hk1 : k1 < a_a.length
 refine fos l1 hk1 fun _ t1 l1 => ?_
 unfold laws_eqCellS_L1 at t1
 have c1 : (decide (((k1 : Nat) : Int) < ((a_a.length : Nat) : Int))) = true := ddt (by omega)
 refine wcs (wcr (mv R R (mv R R (wlq (pln (rga r0) el_50 R) R (wlq (pls R R) R (wnt (wft R c1 (wck (wqt (wcs (wcb (wcs (wcd [] 10 mixed (aq 0 R (pom R) zn R (aq 1 R (pom R) zn R (aq 2 R (po_ixn (k := k1) (rga r0) el_50 R R hk1) zn R (aq (v := .agg #[iv ((gx a_a k1).Split), iv ((gx a_a k1).A), iv ((gx a_a k1).B)]) 3 R (po_ldfs (rga r0) tk_86 R hk1 R R R) zn R (aq 4 R (pom R) zn R (aq 5 R (pom R) zn R (gdO t1 fun g2 t1 => (aq 6 R (po_ixn (k := k1) (rga r1) el_50 R R g2) zn R (aq (v := .agg #[iv ((gx a_b k1).Split), iv ((gx a_b k1).A), iv ((gx a_b k1).B)]) 7 R (po_ldfs (rga r1) tk_86 R g2 R R R) zn R (a1 8 (bdO t1 fun v1 hv1 t1 => (wsc R (cz0 fa_94 R fun w hw => c_laws_eqCell w (gx a_a k1) (gx a_b k1) hv1) (fun _ => (zt zn)) R fun _ => (aq 9 R (po_not R) zn R (ae (wqt (wcO t1 R (fun h2 t1 => ?_) fun h2 t1 => ?_)))))))))))))))))))))))))))))
 refine wcr (asg R R (wnt (wct (wbr (wqr (wqr (wbr (wqr (wqr ?_)))))))))
 replace t0 := lpR t0 l1 t1
 obtain rfl := oi t0
 exact wq1 R R fun w hw => ⟨R, hw.weak zn⟩
 refine wck (wqb (wqt (wcg (mv R R (wlq (po_inc R R (by omega)) R ?_)))))
 exact asg R R (wln (wq_rnd hk1 (stpN l1 t1) () (su3 R R R) zn))
 have c1 : (decide (((k1 : Nat) : Int) < ((a_a.length : Nat) : Int))) = false := ddf (by omega)
 have en1 := foe l1 hk1
 exact wcs (wcr (mv R R (mv R R (wlq (pln (rga r0) el_50 R) R (wlq (pls R R) R (wnt (wff R c1 (wcx (wqe (wqe (wbx (wjm _ () en1 yn zn))))))))))))
 intro e1 _ hp
 replace t0 := sqE (j := e1) t0 hp
 refine wqt (wcr (asg R R (wnt (wct ?_))))
 obtain rfl := oi t0
 exact wq1 R R fun w hw => ⟨R, hw.weak zn⟩

theorem c_laws_eqBlock (w : World) (a_a : GBlock) (v0a : Hd) (r0 : rdF w (dm w []) (sl v0a) a_a.Cells) (a_b : GBlock) (v1a : Hd) (r1 : rdF w (dm w []) (sl v1a) a_b.Cells) {r : Bool} (t0 : laws_eqBlock a_a a_b = some r) : Calls Tryz.prog 79 #[.agg #[.int .i64 a_a.Size, (sl v0a)], .agg #[.int .i64 a_b.Size, (sl v1a)]] w fun e w' => e = .returned (.bool r) ∧ SH w [] [] w' := by
 refine cwc (args := [_, _]) Tryz.func79 R Tryz.ntmps79 R ?_
 unfold laws_eqBlock at t0
 refine wcr (wle (eo_box R R) R fun b1 => (wle (eo_box R R) R fun b2 => (asg R R (wnt (wcs (wcr (wlq (pof fo_52_0 R) R (wlq (v := iv a_a.Size) (plx tk_3 pk1 R R) R (wlq (pof fo_52_0 R) R (wlq (v := iv a_b.Size) (plx tk_3 pz R R) R (wlq (po_neq R R) R (wnt (wcO t0 R (fun h1 t0 => ?_) fun h1 t0 => ?_)))))))))))))
 refine wcr (asg R R (wnt (wct (wqr ?_))))
 obtain rfl := oi t0
 exact wq1 R R fun w hw => ⟨R, hw.weak zn⟩
 refine wck (wqt (wcs (wcr (wlq (pof fo_52_1 R) R (wlq (v := (sl v0a)) (plx tk_50 pk1 R R) R (wlq (pof fo_52_1 R) R (wlq (v := (sl v1a)) (plx tk_50 pz R R) R (bdO t0 fun v1 hv1 t0 => (wlc (cz0 fa_86 R fun w hw => c_laws_eqCellS w a_a.Cells v0a (ra r0 hw) a_b.Cells v1a (ra r1 hw) hv1) R fun _ => (wlq (po_not R) R (wnt (wcO t0 R (fun h2 t0 => ?_) fun h2 t0 => ?_))))))))))))
 refine wcr (asg R R (wnt (wct (wqr ?_))))
 obtain rfl := oi t0
 exact wq1 R R fun w hw => ⟨R, hw.weak zn⟩
 refine wck (wqt (wcr (asg R R (wnt (wct ?_)))))
 obtain rfl := oi t0
 exact wq1 R R fun w hw => ⟨R, hw.weak zn⟩

theorem c_laws_eqEntry (w : World) (a_a : GEntry) (v0a : Hd) (r0 : rdF w (dm w []) (sl v0a) a_a.Block.Cells) (a_b : GEntry) (v1a : Hd) (r1 : rdF w (dm w []) (sl v1a) a_b.Block.Cells) {r : Bool} (t0 : laws_eqEntry a_a a_b = some r) : Calls Tryz.prog 66 #[.agg #[.int .i64 a_a.Owner, .int .i64 a_a.Day, .int .i64 a_a.Block.Size, (sl v0a)], .agg #[.int .i64 a_b.Owner, .int .i64 a_b.Day, .int .i64 a_b.Block.Size, (sl v1a)]] w fun e w' => e = .returned (.bool r) ∧ SH w [] [] w' := by
 refine cwc (args := [_, _]) Tryz.func66 R Tryz.ntmps66 R ?_
 unfold laws_eqEntry at t0
 refine wcr (wle (eo_box R R) R fun b1 => (wle (eo_box R R) R fun b2 => (asg R R (wnt (wcs (wcr (wlq (pof fo_54_0 R) R (wlq (v := iv a_a.Owner) (plx tk_3 pk1 R R) R (wlq (pof fo_54_0 R) R (wlq (v := iv a_b.Owner) (plx tk_3 pz R R) R (wlq (po_neq R R) R (wnt (wcO t0 R (fun h1 t0 => ?_) fun h1 t0 => ?_)))))))))))))
 refine wcr (asg R R (wnt (wct (wqr ?_))))
 obtain rfl := oi t0
 exact wq1 R R fun w hw => ⟨R, hw.weak zn⟩
 refine wck (wqt (wcs (wcr (wlq (pof fo_54_1 R) R (wlq (v := iv a_a.Day) (plx tk_3 pk1 R R) R (wlq (pof fo_54_1 R) R (wlq (v := iv a_b.Day) (plx tk_3 pz R R) R (wlq (po_neq R R) R (wnt (wcO t0 R (fun h2 t0 => ?_) fun h2 t0 => ?_))))))))))
 refine wcr (asg R R (wnt (wct (wqr ?_))))
 obtain rfl := oi t0
 exact wq1 R R fun w hw => ⟨R, hw.weak zn⟩
 refine wck (wqt (wcs (wcr (wlq (pof fo_54_2 R) R (wlq (v := .agg #[iv a_a.Block.Size, (sl v0a)]) (plb tk_52 pk1 R R R) R (wlq (pof fo_54_2 R) R (wlq (v := .agg #[iv a_b.Block.Size, (sl v1a)]) (plb tk_52 pz R R R) R (bdO t0 fun v1 hv1 t0 => (wlc (cz0 fa_79 R fun w hw => c_laws_eqBlock w a_a.Block v0a (ra r0 hw) a_b.Block v1a (ra r1 hw) hv1) R fun _ => (wlq (po_not R) R (wnt (wcO t0 R (fun h3 t0 => ?_) fun h3 t0 => ?_))))))))))))
 refine wcr (asg R R (wnt (wct (wqr ?_))))
 obtain rfl := oi t0
 exact wq1 R R fun w hw => ⟨R, hw.weak zn⟩
 refine wck (wqt (wcr (asg R R (wnt (wct ?_)))))
 obtain rfl := oi t0
 exact wq1 R R fun w hw => ⟨R, hw.weak zn⟩

theorem c_laws_eqEntryS (w : World) (a_a : List GEntry) (v0a : Hd) (u0a : List Value) (r0 : RdL w (dm w []) (sl v0a) u0a a_a) (a_b : List GEntry) (v1a : Hd) (u1a : List Value) (r1 : RdL w (dm w []) (sl v1a) u1a a_b) {r : Bool} (t0 : laws_eqEntryS a_a a_b = some r) : Calls Tryz.prog 32 #[(sl v0a), (sl v1a)] w fun e w' => e = .returned (.bool r) ∧ SH w [] [] w' := by
 refine cwc (args := [_, _]) Tryz.func32 R Tryz.ntmps32 R ?_
 unfold laws_eqEntryS at t0
 refine wcr (asg R R (wnt (wcs (wcr (mv R R (wlq (pln (rga r0) el_32 R) R (mv R R (wlq (pln (rga r1) el_32 R) R (wlq (po_neq R R) R (wnt (wcO t0 R (fun h1 t0 => ?_) fun h1 t0 => ?_)))))))))))
 refine wcr (asg R R (wnt (wct (wqr ?_))))
 obtain rfl := oi t0
 exact wq1 R R fun w hw => ⟨R, hw.weak zn⟩
 refine wck (wqt (wcs (wcr (asg R R (wnt (gdO t0 fun g1 t0 => (sqO t0 fun y1 l1 t0 => (wj (J := Unit) (X := Unit) (fun z => y1 = .inl z) (fun _ _ => []) (fun _ _ => []) ?_ ?_))))))))
 refine wcb (wcf (X := Unit) l1 (fun k1 s1 x1l => [(0, (sl v0a)), (1, (sl v1a)), (5, iv ((k1 : Nat) : Int))]) (fun k1 s1 x1l => []) () (su3 R R R) zn fun k1 s1 x1l hN1 l1 => ?_)
 by_cases hk1 : k1 < a_a.length
 refine fos l1 hk1 fun _ t1 l1 => ?_
 unfold laws_eqEntryS_L1 at t1
 have c1 : (decide (((k1 : Nat) : Int) < ((a_a.length : Nat) : Int))) = true := ddt (by omega)
 refine wcs (wcr (mv R R (mv R R (wlq (pln (rga r0) el_32 R) R (wlq (pls R R) R (wnt (wft R c1 (wck (wqt (wcs (wcb (wcs (wcd [] 10 mixed (aq 0 R (pom R) zn R (aq 1 R (pom R) zn R (aq 2 R (po_ixn (k := k1) (rga r0) el_32 R R hk1) zn R (wa_elem (rga r0) hk1 ?_)))))))))))))))))
 rintro ⟨_, _, he1⟩
 obtain ⟨w1, hc1, _⟩ := rd_GEntry.1 he1
 refine aq (v := .agg #[iv ((gx a_a k1).Owner), iv ((gx a_a k1).Day), iv (((gx a_a k1).Block).Size), (sl w1)]) 3 R (po_ldns (rga r0) tk_54 R hc1 R R R) zn R (aq 4 R (pom R) zn R (aq 5 R (pom R) zn R (gdO t1 fun g2 t1 => (aq 6 R (po_ixn (k := k1) (rga r1) el_32 R R g2) zn R (wa_elem (rga r1) g2 ?_)))))
 rintro ⟨_, _, he2⟩
 obtain ⟨w2, hc2, _⟩ := rd_GEntry.1 he2
 refine aq (v := .agg #[iv ((gx a_b k1).Owner), iv ((gx a_b k1).Day), iv (((gx a_b k1).Block).Size), (sl w2)]) 7 R (po_ldns (rga r1) tk_54 R hc2 R R R) zn R (a1 8 (bdO t1 fun v1 hv1 t1 => (wsc R (cz0 fa_66 R fun w hw => c_laws_eqEntry w (gx a_a k1) w1 (Rg.on (er_GEntry_0 hc1 (rga r0) hk1) hw) (gx a_b k1) w2 (Rg.on (er_GEntry_0 hc2 (rga r1) g2) hw) hv1) (fun _ => (zt zn)) R fun _ => (aq 9 R (po_not R) zn R (ae (wqt (wcO t1 R (fun h2 t1 => ?_) fun h2 t1 => ?_)))))))
 refine wcr (asg R R (wnt (wct (wbr (wqr (wqr (wbr (wqr (wqr ?_)))))))))
 replace t0 := lpR t0 l1 t1
 obtain rfl := oi t0
 exact wq1 R R fun w hw => ⟨R, hw.weak zn⟩
 refine wck (wqb (wqt (wcg (mv R R (wlq (po_inc R R (by omega)) R ?_)))))
 exact asg R R (wln (wq_rnd hk1 (stpN l1 t1) () (su3 R R R) zn))
 have c1 : (decide (((k1 : Nat) : Int) < ((a_a.length : Nat) : Int))) = false := ddf (by omega)
 have en1 := foe l1 hk1
 exact wcs (wcr (mv R R (mv R R (wlq (pln (rga r0) el_32 R) R (wlq (pls R R) R (wnt (wff R c1 (wcx (wqe (wqe (wbx (wjm _ () en1 yn zn))))))))))))
 intro e1 _ hp
 replace t0 := sqE (j := e1) t0 hp
 refine wqt (wcr (asg R R (wnt (wct ?_))))
 obtain rfl := oi t0
 exact wq1 R R fun w hw => ⟨R, hw.weak zn⟩

theorem c_laws_eqBooking (w : World) (a_a : GBooking) (a_b : GBooking) {r : Bool} (t0 : laws_eqBooking a_a a_b = some r) : Calls Tryz.prog 67 #[.agg #[.int .i64 a_a.Day, .int .i64 a_a.From, .int .i64 a_a.To, .int .i64 a_a.Sum], .agg #[.int .i64 a_b.Day, .int .i64 a_b.From, .int .i64 a_b.To, .int .i64 a_b.Sum]] w fun e w' => e = .returned (.bool r) ∧ SH w [] [] w' := by
 refine cwc (args := [_, _]) Tryz.func67 R Tryz.ntmps67 R ?_
 unfold laws_eqBooking at t0
 refine wcr (wle (eo_box R R) R fun b1 => (wle (eo_box R R) R fun b2 => (asg R R (wnt (wcs (wcr (wlq (pof fo_92_0 R) R (wlq (v := iv a_a.Day) (plx tk_3 pk1 R R) R (wlq (pof fo_92_0 R) R (wlq (v := iv a_b.Day) (plx tk_3 pz R R) R (wlq (po_neq R R) R (wnt (wcO t0 R (fun h1 t0 => ?_) fun h1 t0 => ?_)))))))))))))
 refine wcr (asg R R (wnt (wct (wqr ?_))))
 obtain rfl := oi t0
 exact wq1 R R fun w hw => ⟨R, hw.weak zn⟩
 refine wck (wqt (wcs (wcr (wlq (pof fo_92_1 R) R (wlq (v := iv a_a.From) (plx tk_3 pk1 R R) R (wlq (pof fo_92_1 R) R (wlq (v := iv a_b.From) (plx tk_3 pz R R) R (wlq (po_neq R R) R (wnt (wcO t0 R (fun h2 t0 => ?_) fun h2 t0 => ?_))))))))))
 refine wcr (asg R R (wnt (wct (wqr ?_))))
 obtain rfl := oi t0
 exact wq1 R R fun w hw => ⟨R, hw.weak zn⟩
 refine wck (wqt (wcs (wcr (wlq (pof fo_92_2 R) R (wlq (v := iv a_a.To) (plx tk_3 pk1 R R) R (wlq (pof fo_92_2 R) R (wlq (v := iv a_b.To) (plx tk_3 pz R R) R (wlq (po_neq R R) R (wnt (wcO t0 R (fun h3 t0 => ?_) fun h3 t0 => ?_))))))))))
 refine wcr (asg R R (wnt (wct (wqr ?_))))
 obtain rfl := oi t0
 exact wq1 R R fun w hw => ⟨R, hw.weak zn⟩
 refine wck (wqt (wcs (wcr (wlq (pof fo_92_3 R) R (wlq (v := iv a_a.Sum) (plx tk_3 pk1 R R) R (wlq (pof fo_92_3 R) R (wlq (v := iv a_b.Sum) (plx tk_3 pz R R) R (wlq (po_neq R R) R (wnt (wcO t0 R (fun h4 t0 => ?_) fun h4 t0 => ?_))))))))))
 refine wcr (asg R R (wnt (wct (wqr ?_))))
 obtain rfl := oi t0
 exact wq1 R R fun w hw => ⟨R, hw.weak zn⟩
 refine wck (wqt (wcr (asg R R (wnt (wct ?_)))))
 obtain rfl := oi t0
 exact wq1 R R fun w hw => ⟨R, hw.weak zn⟩

theorem c_laws_eqBookingS (w : World) (a_a : List GBooking) (v0a : Hd) (r0 : rdF w (dm w []) (sl v0a) a_a) (a_b : List GBooking) (v1a : Hd) (r1 : rdF w (dm w []) (sl v1a) a_b) {r : Bool} (t0 : laws_eqBookingS a_a a_b = some r) : Calls Tryz.prog 33 #[(sl v0a), (sl v1a)] w fun e w' => e = .returned (.bool r) ∧ SH w [] [] w' := by
 refine cwc (args := [_, _]) Tryz.func33 R Tryz.ntmps33 R ?_
 unfold laws_eqBookingS at t0
 refine wcr (asg R R (wnt (wcs (wcr (mv R R (wlq (pln (rga r0) el_33 R) R (mv R R (wlq (pln (rga r1) el_33 R) R (wlq (po_neq R R) R (wnt (wcO t0 R (fun h1 t0 => ?_) fun h1 t0 => ?_)))))))))))
 refine wcr (asg R R (wnt (wct (wqr ?_))))
 obtain rfl := oi t0
 exact wq1 R R fun w hw => ⟨R, hw.weak zn⟩
 refine wck (wqt (wcs (wcr (asg R R (wnt (gdO t0 fun g1 t0 => (sqO t0 fun y1 l1 t0 => (wj (J := Unit) (X := Unit) (fun z => y1 = .inl z) (fun _ _ => []) (fun _ _ => []) ?_ ?_))))))))
 refine wcb (wcf (X := Unit) l1 (fun k1 s1 x1l => [(0, (sl v0a)), (1, (sl v1a)), (5, iv ((k1 : Nat) : Int))]) (fun k1 s1 x1l => []) () (su3 R R R) zn fun k1 s1 x1l hN1 l1 => ?_)
 by_cases hk1 : k1 < a_a.length
 refine fos l1 hk1 fun _ t1 l1 => ?_
 unfold laws_eqBookingS_L1 at t1
 have c1 : (decide (((k1 : Nat) : Int) < ((a_a.length : Nat) : Int))) = true := ddt (by omega)
 refine wcs (wcr (mv R R (mv R R (wlq (pln (rga r0) el_33 R) R (wlq (pls R R) R (wnt (wft R c1 (wck (wqt (wcs (wcb (wcs (wcd [] 10 mixed (aq 0 R (pom R) zn R (aq 1 R (pom R) zn R (aq 2 R (po_ixn (k := k1) (rga r0) el_33 R R hk1) zn R (aq (v := .agg #[iv ((gx a_a k1).Day), iv ((gx a_a k1).From), iv ((gx a_a k1).To), iv ((gx a_a k1).Sum)]) 3 R (po_ldfs (rga r0) tk_92 R hk1 R R R) zn R (aq 4 R (pom R) zn R (aq 5 R (pom R) zn R (gdO t1 fun g2 t1 => (aq 6 R (po_ixn (k := k1) (rga r1) el_33 R R g2) zn R (aq (v := .agg #[iv ((gx a_b k1).Day), iv ((gx a_b k1).From), iv ((gx a_b k1).To), iv ((gx a_b k1).Sum)]) 7 R (po_ldfs (rga r1) tk_92 R g2 R R R) zn R (a1 8 (bdO t1 fun v1 hv1 t1 => (wsc R (cz0 fa_67 R fun w hw => c_laws_eqBooking w (gx a_a k1) (gx a_b k1) hv1) (fun _ => (zt zn)) R fun _ => (aq 9 R (po_not R) zn R (ae (wqt (wcO t1 R (fun h2 t1 => ?_) fun h2 t1 => ?_)))))))))))))))))))))))))))))
 refine wcr (asg R R (wnt (wct (wbr (wqr (wqr (wbr (wqr (wqr ?_)))))))))
 replace t0 := lpR t0 l1 t1
 obtain rfl := oi t0
 exact wq1 R R fun w hw => ⟨R, hw.weak zn⟩
 refine wck (wqb (wqt (wcg (mv R R (wlq (po_inc R R (by omega)) R ?_)))))
 exact asg R R (wln (wq_rnd hk1 (stpN l1 t1) () (su3 R R R) zn))
 have c1 : (decide (((k1 : Nat) : Int) < ((a_a.length : Nat) : Int))) = false := ddf (by omega)
 have en1 := foe l1 hk1
 exact wcs (wcr (mv R R (mv R R (wlq (pln (rga r0) el_33 R) R (wlq (pls R R) R (wnt (wff R c1 (wcx (wqe (wqe (wbx (wjm _ () en1 yn zn))))))))))))
 intro e1 _ hp
 replace t0 := sqE (j := e1) t0 hp
 refine wqt (wcr (asg R R (wnt (wct ?_))))
 obtain rfl := oi t0
 exact wq1 R R fun w hw => ⟨R, hw.weak zn⟩

theorem c_laws_eqGuild (w : World) (a_a : GGuild) (v0a : Hd) (r0 : rdF w (dm w []) (sl v0a) a_a.Members) (v1a : Hd) (r1 : rdF w (dm w []) (sl v1a) a_a.Stock) (v2a : Hd) (u2a : List Value) (r2 : RdL w (dm w []) (sl v2a) u2a a_a.Entries) (v3a : Hd) (r3 : rdF w (dm w []) (sl v3a) a_a.Books) (a_b : GGuild) (v4a : Hd) (r4 : rdF w (dm w []) (sl v4a) a_b.Members) (v5a : Hd) (r5 : rdF w (dm w []) (sl v5a) a_b.Stock) (v6a : Hd) (u6a : List Value) (r6 : RdL w (dm w []) (sl v6a) u6a a_b.Entries) (v7a : Hd) (r7 : rdF w (dm w []) (sl v7a) a_b.Books) {r : Bool} (t0 : laws_eqGuild a_a a_b = some r) : Calls Tryz.prog 9 #[.agg #[(sl v0a), (sl v1a), (sl v2a), (sl v3a), .int .i64 a_a.Round, .int .i64 a_a.Year], .agg #[(sl v4a), (sl v5a), (sl v6a), (sl v7a), .int .i64 a_b.Round, .int .i64 a_b.Year]] w fun e w' => e = .returned (.bool r) ∧ SH w [] [] w' := by
 refine cwc (args := [_, _]) Tryz.func9 R Tryz.ntmps9 R ?_
 unfold laws_eqGuild at t0
 refine wcr (wle (eo_box R R) R fun b1 => (wle (eo_box R R) R fun b2 => (asg R R (wnt (wcs (wcr (wlq (pof fo_35_0 R) R (wlq (v := (sl v0a)) (plx tk_31 pk1 R R) R (wlq (pof fo_35_0 R) R (wlq (v := (sl v4a)) (plx tk_31 pz R R) R (bdO t0 fun v1 hv1 t0 => (wlc (cz0 fa_30 R fun w hw => c_laws_eqMemberS w a_a.Members v0a (ra r0 hw) a_b.Members v4a (ra r4 hw) hv1) R fun _ => (wlq (po_not R) R (wnt (wcO t0 R (fun h1 t0 => ?_) fun h1 t0 => ?_)))))))))))))))
 refine wcr (asg R R (wnt (wct (wqr ?_))))
 obtain rfl := oi t0
 exact wq1 R R fun w hw => ⟨R, hw.weak zn⟩
 refine wck (wqt (wcs (wcr (wlq (pof fo_35_1 R) R (wlq (v := (sl v1a)) (plx tk_23 pk1 R R) R (wlq (pof fo_35_1 R) R (wlq (v := (sl v5a)) (plx tk_23 pz R R) R (bdO t0 fun v2 hv2 t0 => (wlc (cz0 fa_31 R fun w hw => c_laws_eqIntS w a_a.Stock v1a (ra r1 hw) a_b.Stock v5a (ra r5 hw) hv2) R fun _ => (wlq (po_not R) R (wnt (wcO t0 R (fun h2 t0 => ?_) fun h2 t0 => ?_))))))))))))
 refine wcr (asg R R (wnt (wct (wqr ?_))))
 obtain rfl := oi t0
 exact wq1 R R fun w hw => ⟨R, hw.weak zn⟩
 refine wck (wqt (wcs (wcr (wlq (pof fo_35_2 R) R (wlq (v := (sl v2a)) (plx tk_32 pk1 R R) R (wlq (pof fo_35_2 R) R (wlq (v := (sl v6a)) (plx tk_32 pz R R) R (bdO t0 fun v3 hv3 t0 => (wlc (cz0 fa_32 R fun w hw => c_laws_eqEntryS w a_a.Entries v2a u2a (ra r2 hw) a_b.Entries v6a u6a (ra r6 hw) hv3) R fun _ => (wlq (po_not R) R (wnt (wcO t0 R (fun h3 t0 => ?_) fun h3 t0 => ?_))))))))))))
 refine wcr (asg R R (wnt (wct (wqr ?_))))
 obtain rfl := oi t0
 exact wq1 R R fun w hw => ⟨R, hw.weak zn⟩
 refine wck (wqt (wcs (wcr (wlq (pof fo_35_3 R) R (wlq (v := (sl v3a)) (plx tk_33 pk1 R R) R (wlq (pof fo_35_3 R) R (wlq (v := (sl v7a)) (plx tk_33 pz R R) R (bdO t0 fun v4 hv4 t0 => (wlc (cz0 fa_33 R fun w hw => c_laws_eqBookingS w a_a.Books v3a (ra r3 hw) a_b.Books v7a (ra r7 hw) hv4) R fun _ => (wlq (po_not R) R (wnt (wcO t0 R (fun h4 t0 => ?_) fun h4 t0 => ?_))))))))))))
 refine wcr (asg R R (wnt (wct (wqr ?_))))
 obtain rfl := oi t0
 exact wq1 R R fun w hw => ⟨R, hw.weak zn⟩
 refine wck (wqt (wcs (wcr (wlq (pof fo_35_4 R) R (wlq (v := iv a_a.Round) (plx tk_3 pk1 R R) R (wlq (pof fo_35_4 R) R (wlq (v := iv a_b.Round) (plx tk_3 pz R R) R (wlq (po_neq R R) R (wnt (wcO t0 R (fun h5 t0 => ?_) fun h5 t0 => ?_))))))))))
 refine wcr (asg R R (wnt (wct (wqr ?_))))
 obtain rfl := oi t0
 exact wq1 R R fun w hw => ⟨R, hw.weak zn⟩
 refine wck (wqt (wcs (wcr (wlq (pof fo_35_5 R) R (wlq (v := iv a_a.Year) (plx tk_3 pk1 R R) R (wlq (pof fo_35_5 R) R (wlq (v := iv a_b.Year) (plx tk_3 pz R R) R (wlq (po_neq R R) R (wnt (wcO t0 R (fun h6 t0 => ?_) fun h6 t0 => ?_))))))))))
 refine wcr (asg R R (wnt (wct (wqr ?_))))
 obtain rfl := oi t0
 exact wq1 R R fun w hw => ⟨R, hw.weak zn⟩
 refine wck (wqt (wcr (asg R R (wnt (wct ?_)))))
 obtain rfl := oi t0
 exact wq1 R R fun w hw => ⟨R, hw.weak zn⟩

theorem c_laws_markMemberS (w : World) (fp : List Nat) (a_a : List GMember) (v0a : Hd) (a_k : Int) (o : Ow w [ownF (sl v0a) a_a] fp) {r : Int × (List GMember)} (t0 : laws_markMemberS a_a a_k = some r) : Calls Tryz.prog 34 #[(sl v0a), .int .i64 a_k] w fun e w' => ∃ _x : Unit, e = .returned (.int .i64 r.1) ∧ SH w fp [ownF (sl v0a) r.2] w' := by
 refine calls_of_wc_own (args := [_, _]) o Tryz.func34 R Tryz.ntmps34 R ?_
 unfold laws_markMemberS at t0
 refine wcr (asg R R (wnt (wcs (wcr (asg R R (wnt (gdO t0 fun g1 t0 => (wc_hl (rgo pz) fun hl1 => (lpO_inv t0 fun y1 l1 t0 => (wj (J := (List GMember) × Int) (X := Unit) (fun z => y1 = z) (fun z _ => [(0, (sl v0a)), (1, iv z.2)]) (fun z _ => [ownF (sl v0a) z.1]) ?_ ?_))))))))))
 refine wcb (wcf (X := Unit) l1 (fun k1 s1 x1l => [(0, (sl v0a)), (1, iv s1.2), (5, iv ((k1 : Nat) : Int))]) (fun k1 s1 x1l => [ownF (sl v0a) s1.1]) () (su3 R R R) so1 fun k1 s1 x1l hN1 l1 => (wc_hl (rgo pz) fun hl2 => ?_))
 by_cases hk1 : k1 < a_a.length
 refine fos l1 hk1 fun _ t1 l1 => ?_
 unfold laws_markMemberS_L1 at t1
 have c1 : (decide (((k1 : Nat) : Int) < ((s1.1.length : Nat) : Int))) = true := ddt (by omega)
 have hq1 : k1 < s1.1.length := by omega
 refine wcs (wcr (mv R R (mv R R (wlq (pln (rgo pz) el_31 R) R (wlq (pls R R) R (wnt (wft R c1 (wck (wqt (wcs (wcb (wcr (mv R R (mv R R (mv R R (wlq (po_ixn (k := k1) (rgo pz) el_31 R R hq1) R (wlq (po_sfldr (rgo pz) hq1 fo_49_0 R) R (wls (so_own (x' := (GMember.mk s1.2 ((gx s1.1 k1).Since) ((gx s1.1 k1).Paid))) tk_3 pz R R R R R R hq1 R) (wnt (wcr (mv R R (wlq (po_add R R) R (asg R R (wnt (wcr (mv R R (mv R R (mv R R (wlq (po_ixn (k := k1) (rgo pz) el_31 R R (set_lt hq1)) R (wlq (po_sfldr (rgo pz) (set_lt hq1) fo_49_1 R) R (wls (so_own2 (X := s1.1) (e := (GMember.mk s1.2 ((gx s1.1 k1).Since) ((gx s1.1 k1).Paid))) (x' := (GMember.mk s1.2 (wr (s1.2 + 1)) ((gx s1.1 k1).Paid))) tk_3 pz R R R R R R hq1 R) (wnt (wcr (mv R R (wlq (po_add R R) R (asg R R (wnt (wcr (mv R R ?_)))))))))))))))))))))))))))))))))))))))
 refine mv R R (mv R R (wlq (po_ixn (k := k1) (rgo pz) el_31 R R (set_lt hq1)) R (wlq (po_sfldr (rgo pz) (set_lt hq1) fo_49_2 R) R (wls (so_own2 (X := s1.1) (e := (GMember.mk s1.2 (wr (s1.2 + 1)) ((gx s1.1 k1).Paid))) (x' := (GMember.mk s1.2 (wr (s1.2 + 1)) (wr ((wr (s1.2 + 1)) + 1)))) tk_3 pz R R R R R R hq1 R) (wnt (wcg (mv R R (wlq (po_add R R) R (asg R R (wln (wqb (wqt (wcg (mv R R (wlq (po_inc R R (by omega)) R ?_)))))))))))))))
 exact asg R R (wln (wq_rnd hk1 (stpN l1 t1) () (su3 R R R) so1))
 have c1 : (decide (((k1 : Nat) : Int) < ((s1.1.length : Nat) : Int))) = false := ddf (by omega)
 have en1 := foe l1 hk1
 exact wcs (wcr (mv R R (mv R R (wlq (pln (rgo pz) el_31 R) R (wlq (pls R R) R (wnt (wff R c1 (wcx (wqe (wqe (wbx (wjm _ () (Sum.inl.inj en1) (su2 R R) so1))))))))))))
 intro e1 _ hp
 obtain rfl : e1 = y1 := hp.symm
 refine wqt (wcr (mv R R (asg R R (wnt (wct ?_)))))
 obtain rfl := oi t0
 exact wq1 R R fun w hw => ⟨(), R, hw.weak so1⟩

theorem c_laws_markIntS (w : World) (fp : List Nat) (a_a : List Int) (v0a : Hd) (a_k : Int) (o : Ow w [ownF (sl v0a) a_a] fp) {r : Int × (List Int)} (t0 : laws_markIntS a_a a_k = some r) : Calls Tryz.prog 35 #[(sl v0a), .int .i64 a_k] w fun e w' => ∃ _x : Unit, e = .returned (.int .i64 r.1) ∧ SH w fp [ownF (sl v0a) r.2] w' := by
 refine calls_of_wc_own (args := [_, _]) o Tryz.func35 R Tryz.ntmps35 R ?_
 unfold laws_markIntS at t0
 refine wcr (asg R R (wnt (wcs (wcr (asg R R (wnt (gdO t0 fun g1 t0 => (wc_hl (rgo pz) fun hl1 => (lpO_inv t0 fun y1 l1 t0 => (wj (J := (List Int) × Int) (X := Unit) (fun z => y1 = z) (fun z _ => [(0, (sl v0a)), (1, iv z.2)]) (fun z _ => [ownF (sl v0a) z.1]) ?_ ?_))))))))))
 refine wcb (wcf (X := Unit) l1 (fun k1 s1 x1l => [(0, (sl v0a)), (1, iv s1.2), (5, iv ((k1 : Nat) : Int))]) (fun k1 s1 x1l => [ownF (sl v0a) s1.1]) () (su3 R R R) so1 fun k1 s1 x1l hN1 l1 => (wc_hl (rgo pz) fun hl2 => ?_))
 by_cases hk1 : k1 < a_a.length
 refine fos l1 hk1 fun _ t1 l1 => ?_
 unfold laws_markIntS_L1 at t1
 have c1 : (decide (((k1 : Nat) : Int) < ((s1.1.length : Nat) : Int))) = true := ddt (by omega)
 have hq1 : k1 < s1.1.length := by omega
 refine wcs (wcr (mv R R (mv R R (wlq (pln (rgo pz) el_23 R) R (wlq (pls R R) R (wnt (wft R c1 (wck (wqt (wcs (wcb (wcr (mv R R (mv R R (mv R R (wlq (po_ixn (k := k1) (rgo pz) el_23 R R hq1) R (wls (so_own (x' := s1.2) tk_3 pz R R R R R R hq1 R) (wnt (wcg (mv R R (wlq (po_add R R) R (asg R R (wln (wqb (wqt (wcg (mv R R (wlq (po_inc R R (by omega)) R ?_))))))))))))))))))))))))))))
 exact asg R R (wln (wq_rnd hk1 (stpN l1 t1) () (su3 R R R) so1))
 have c1 : (decide (((k1 : Nat) : Int) < ((s1.1.length : Nat) : Int))) = false := ddf (by omega)
 have en1 := foe l1 hk1
 exact wcs (wcr (mv R R (mv R R (wlq (pln (rgo pz) el_23 R) R (wlq (pls R R) R (wnt (wff R c1 (wcx (wqe (wqe (wbx (wjm _ () (Sum.inl.inj en1) (su2 R R) so1))))))))))))
 intro e1 _ hp
 obtain rfl : e1 = y1 := hp.symm
 refine wqt (wcr (mv R R (asg R R (wnt (wct ?_)))))
 obtain rfl := oi t0
 exact wq1 R R fun w hw => ⟨(), R, hw.weak so1⟩

theorem c_laws_markCellS (w : World) (fp : List Nat) (a_a : List GCell) (v0a : Hd) (a_k : Int) (o : Ow w [ownF (sl v0a) a_a] fp) {r : Int × (List GCell)} (t0 : laws_markCellS a_a a_k = some r) : Calls Tryz.prog 68 #[(sl v0a), .int .i64 a_k] w fun e w' => ∃ _x : Unit, e = .returned (.int .i64 r.1) ∧ SH w fp [ownF (sl v0a) r.2] w' := by
 refine calls_of_wc_own (args := [_, _]) o Tryz.func68 R Tryz.ntmps68 R ?_
 unfold laws_markCellS at t0
 refine wcr (asg R R (wnt (wcs (wcr (asg R R (wnt (gdO t0 fun g1 t0 => (wc_hl (rgo pz) fun hl1 => (lpO_inv t0 fun y1 l1 t0 => (wj (J := (List GCell) × Int) (X := Unit) (fun z => y1 = z) (fun z _ => [(0, (sl v0a)), (1, iv z.2)]) (fun z _ => [ownF (sl v0a) z.1]) ?_ ?_))))))))))
 refine wcb (wcf (X := Unit) l1 (fun k1 s1 x1l => [(0, (sl v0a)), (1, iv s1.2), (5, iv ((k1 : Nat) : Int))]) (fun k1 s1 x1l => [ownF (sl v0a) s1.1]) () (su3 R R R) so1 fun k1 s1 x1l hN1 l1 => (wc_hl (rgo pz) fun hl2 => ?_))
 by_cases hk1 : k1 < a_a.length
 refine fos l1 hk1 fun _ t1 l1 => ?_
 unfold laws_markCellS_L1 at t1
 have c1 : (decide (((k1 : Nat) : Int) < ((s1.1.length : Nat) : Int))) = true := ddt (by omega)
 have hq1 : k1 < s1.1.length := by omega
 refine wcs (wcr (mv R R (mv R R (wlq (pln (rgo pz) el_50 R) R (wlq (pls R R) R (wnt (wft R c1 (wck (wqt (wcs (wcb (wcr (mv R R (mv R R (mv R R (wlq (po_ixn (k := k1) (rgo pz) el_50 R R hq1) R (wlq (po_sfldr (rgo pz) hq1 fo_86_0 R) R (wls (so_own (x' := (GCell.mk s1.2 ((gx s1.1 k1).A) ((gx s1.1 k1).B))) tk_3 pz R R R R R R hq1 R) (wnt (wcr (mv R R (wlq (po_add R R) R (asg R R (wnt (wcr (mv R R (mv R R (mv R R (wlq (po_ixn (k := k1) (rgo pz) el_50 R R (set_lt hq1)) R (wlq (po_sfldr (rgo pz) (set_lt hq1) fo_86_1 R) R (wls (so_own2 (X := s1.1) (e := (GCell.mk s1.2 ((gx s1.1 k1).A) ((gx s1.1 k1).B))) (x' := (GCell.mk s1.2 (wr (s1.2 + 1)) ((gx s1.1 k1).B))) tk_3 pz R R R R R R hq1 R) (wnt (wcr (mv R R (wlq (po_add R R) R (asg R R (wnt (wcr (mv R R ?_)))))))))))))))))))))))))))))))))))))))
 refine mv R R (mv R R (wlq (po_ixn (k := k1) (rgo pz) el_50 R R (set_lt hq1)) R (wlq (po_sfldr (rgo pz) (set_lt hq1) fo_86_2 R) R (wls (so_own2 (X := s1.1) (e := (GCell.mk s1.2 (wr (s1.2 + 1)) ((gx s1.1 k1).B))) (x' := (GCell.mk s1.2 (wr (s1.2 + 1)) (wr ((wr (s1.2 + 1)) + 1)))) tk_3 pz R R R R R R hq1 R) (wnt (wcg (mv R R (wlq (po_add R R) R (asg R R (wln (wqb (wqt (wcg (mv R R (wlq (po_inc R R (by omega)) R ?_)))))))))))))))
 exact asg R R (wln (wq_rnd hk1 (stpN l1 t1) () (su3 R R R) so1))
 have c1 : (decide (((k1 : Nat) : Int) < ((s1.1.length : Nat) : Int))) = false := ddf (by omega)
 have en1 := foe l1 hk1
 exact wcs (wcr (mv R R (mv R R (wlq (pln (rgo pz) el_50 R) R (wlq (pls R R) R (wnt (wff R c1 (wcx (wqe (wqe (wbx (wjm _ () (Sum.inl.inj en1) (su2 R R) so1))))))))))))
 intro e1 _ hp
 obtain rfl : e1 = y1 := hp.symm
 refine wqt (wcr (mv R R (asg R R (wnt (wct ?_)))))
 obtain rfl := oi t0
 exact wq1 R R fun w hw => ⟨(), R, hw.weak so1⟩

theorem c_laws_markEntryS (w : World) (fp : List Nat) (a_a : List GEntry) (v0a : Hd) (u0a : List Value) (a_k : Int) (o : Ow w [own (sl v0a) u0a a_a] fp) {r : Int × (List GEntry)} (t0 : laws_markEntryS a_a a_k = some r) : Calls Tryz.prog 36 #[(sl v0a), .int .i64 a_k] w fun e w' => ∃ x : List Value, e = .returned (.int .i64 r.1) ∧ SH w fp [own (sl v0a) x r.2] w' := by
 refine calls_of_wc_own (args := [_, _]) o Tryz.func36 R Tryz.ntmps36 R ?_
 unfold laws_markEntryS at t0
 refine wcr (asg R R (wnt (wcs (wcr (asg R R (wnt (gdO t0 fun g1 t0 => (wc_hl (rgo pz) fun hl1 => (lpO_inv t0 fun y1 l1 t0 => (wj (J := (List GEntry) × Int) (X := List Value) (fun z => y1 = z) (fun z _ => [(0, (sl v0a)), (1, iv z.2)]) (fun z x => [own (sl v0a) x z.1]) ?_ ?_))))))))))
 refine wcb (wcf (X := List Value) l1 (fun k1 s1 x1l => [(0, (sl v0a)), (1, iv s1.2), (5, iv ((k1 : Nat) : Int))]) (fun k1 s1 x1l => [own (sl v0a) x1l s1.1]) u0a (su3 R R R) so1 fun k1 s1 x1l hN1 l1 => (wc_hl (rgo pz) fun hl2 => ?_))
 by_cases hk1 : k1 < a_a.length
 refine fos l1 hk1 fun _ t1 l1 => ?_
 unfold laws_markEntryS_L1 at t1
 have c1 : (decide (((k1 : Nat) : Int) < ((s1.1.length : Nat) : Int))) = true := ddt (by omega)
 have hq1 : k1 < s1.1.length := by omega
 refine wcs (wcr (mv R R (mv R R (wlq (pln (rgo pz) el_32 R) R (wlq (pls R R) R (wnt (wft R c1 (wck (wqt (wcs (wcb (wcr (mv R R (mv R R (mv R R (wlq (po_ixn (k := k1) (rgo pz) el_32 R R hq1) R (wlq (po_sfldr (rgo pz) hq1 fo_54_0 R) R (wl_elem (rgo pz) hq1 ?_))))))))))))))))))
 rintro ⟨_, _, he1⟩
 obtain ⟨w1, hc1, _⟩ := rd_GEntry.1 he1
 refine wl_ent (Ent.trans un_GEntry (take_elem pz hq1 hc1)) ?_
 refine wl_lenh pk1 fun hl3 => wls (so_hol tk_3 pk1 R R R R R R hq1) ?_
 have hc2 := chunk_putp (o := 0) (vs := [iv s1.2]) hl3 hq1 rfl hc1 (cells' := [iv s1.2, iv ((gx s1.1 k1).Day), iv (((gx s1.1 k1).Block).Size), (sl w1)]) rfl
 refine wl_ent (put_elem pz (pow_GEntry (x := (GEntry.mk s1.2 ((gx s1.1 k1).Day) ((gx s1.1 k1).Block))) pz) hq1 hc2) ?_
 refine wnt (wcr (mv R R (wlq (po_add R R) R (asg R R (wnt (wcr (mv R R (mv R R (mv R R (wlq (po_ixn (k := k1) (rgo pz) el_32 R R (set_lt hq1)) R (wlq (po_sfldr (rgo pz) (set_lt hq1) fo_54_1 R) R (wl_ent (Ent.trans un_GEntry (take_set pz hq1 hc2)) (wl_lenh pk1 fun hl4 => (wls (so_hol tk_3 pk1 R R R R R R hq1) ?_))))))))))))))
 have hc3 := chunk_putp (o := 1) (vs := [iv (wr (s1.2 + 1))]) hl4 hq1 rfl hc2 (cells' := [iv s1.2, iv (wr (s1.2 + 1)), iv (((gx s1.1 k1).Block).Size), (sl w1)]) rfl
 refine wl_ent (put_elem pz (pow_GEntry (x := (GEntry.mk s1.2 (wr (s1.2 + 1)) ((gx s1.1 k1).Block))) pz) hq1 hc3) ?_
 refine wnt (wcr (mv R R (wlq (po_add R R) R (asg R R (wnt (wcr (mv R R (mv R R (mv R R (wlq (po_ixn (k := k1) (rgo pz) el_32 R R (set_lt hq1)) R (wlq (po_sfldr (rgo pz) (set_lt hq1) fo_54_2 R) R (wlq (po_sfldr (rgo pz) (set_lt hq1) fo_52_0 R) R (wl_ent (Ent.trans un_GEntry (take_set pz hq1 hc3)) (wl_lenh pk1 fun hl5 => (wls (so_hol tk_3 pk1 R R R R R R hq1) ?_)))))))))))))))
 have hc4 := chunk_putp (o := 2) (vs := [iv (wr ((wr (s1.2 + 1)) + 1))]) hl5 hq1 rfl hc3 (cells' := [iv s1.2, iv (wr (s1.2 + 1)), iv (wr ((wr (s1.2 + 1)) + 1)), (sl w1)]) rfl
 refine wl_ent (put_elem pz (pow_GEntry (x := (GEntry.mk s1.2 (wr (s1.2 + 1)) (GBlock.mk (wr ((wr (s1.2 + 1)) + 1)) (((gx s1.1 k1).Block).Cells)))) pz) hq1 hc4) ?_
 refine wnt (wcr (mv R R (wlq (po_add R R) R (asg R R (wnt (wcg (mv R R (mv R R (wlq (po_ixn (k := k1) (rgo pz) el_32 R R (set_lt hq1)) R (wlq (po_sfldr (rgo pz) (set_lt hq1) fo_54_2 R) R (wlq (po_sfldr (rgo pz) (set_lt hq1) fo_52_1 R) R (wlq (v := (sl w1)) (po_ldn (rgo pz) tk_50 R hc4 R) R (mv R R (wl_ent (Ent.trans un_GEntry (take_set pz hq1 hc4)) (bdO t1 fun v1 hv1 t1 => (wlc (co_o1 [ownF (sl w1) (((gx s1.1 k1).Block).Cells)] fa_68 (zc pz some_refl) R fun w fp hw => c_laws_markCellS w fp (((gx s1.1 k1).Block).Cells) w1 (wr ((wr ((wr (s1.2 + 1)) + 1)) + 1)) hw.ow hv1) R fun _ => (wl_ent (put_elem pk1 (pow_GEntry (x := (GEntry.mk s1.2 (wr (s1.2 + 1)) (GBlock.mk (wr ((wr (s1.2 + 1)) + 1)) v1.2))) pz) hq1 hc4) (asg R R (wln (wqb (wqt (wcg (mv R R (wlq (po_inc R R (by omega)) R ?_))))))))))))))))))))))))
 exact asg R R (wln (wq_rnd hk1 (stpN l1 t1) (put_ (put_ (put_ x1l (k1 * (Rep.sz GEntry) + 0) [iv s1.2]) (k1 * (Rep.sz GEntry) + 1) [iv (wr (s1.2 + 1))]) (k1 * (Rep.sz GEntry) + 2) [iv (wr ((wr (s1.2 + 1)) + 1))]) (su3 R R R) so1))
 have c1 : (decide (((k1 : Nat) : Int) < ((s1.1.length : Nat) : Int))) = false := ddf (by omega)
 have en1 := foe l1 hk1
 exact wcs (wcr (mv R R (mv R R (wlq (pln (rgo pz) el_32 R) R (wlq (pls R R) R (wnt (wff R c1 (wcx (wqe (wqe (wbx (wjm _ x1l (Sum.inl.inj en1) (su2 R R) so1))))))))))))
 intro e1 x1 hp
 obtain rfl : e1 = y1 := hp.symm
 refine wqt (wcr (mv R R (asg R R (wnt (wct ?_)))))
 obtain rfl := oi t0
 exact wq1 R R fun w hw => ⟨x1, R, hw.weak so1⟩

theorem c_laws_markBookingS (w : World) (fp : List Nat) (a_a : List GBooking) (v0a : Hd) (a_k : Int) (o : Ow w [ownF (sl v0a) a_a] fp) {r : Int × (List GBooking)} (t0 : laws_markBookingS a_a a_k = some r) : Calls Tryz.prog 37 #[(sl v0a), .int .i64 a_k] w fun e w' => ∃ _x : Unit, e = .returned (.int .i64 r.1) ∧ SH w fp [ownF (sl v0a) r.2] w' := by
 refine calls_of_wc_own (args := [_, _]) o Tryz.func37 R Tryz.ntmps37 R ?_
 unfold laws_markBookingS at t0
 refine wcr (asg R R (wnt (wcs (wcr (asg R R (wnt (gdO t0 fun g1 t0 => (wc_hl (rgo pz) fun hl1 => (lpO_inv t0 fun y1 l1 t0 => (wj (J := (List GBooking) × Int) (X := Unit) (fun z => y1 = z) (fun z _ => [(0, (sl v0a)), (1, iv z.2)]) (fun z _ => [ownF (sl v0a) z.1]) ?_ ?_))))))))))
 refine wcb (wcf (X := Unit) l1 (fun k1 s1 x1l => [(0, (sl v0a)), (1, iv s1.2), (5, iv ((k1 : Nat) : Int))]) (fun k1 s1 x1l => [ownF (sl v0a) s1.1]) () (su3 R R R) so1 fun k1 s1 x1l hN1 l1 => (wc_hl (rgo pz) fun hl2 => ?_))
 by_cases hk1 : k1 < a_a.length
 refine fos l1 hk1 fun _ t1 l1 => ?_
 unfold laws_markBookingS_L1 at t1
 have c1 : (decide (((k1 : Nat) : Int) < ((s1.1.length : Nat) : Int))) = true := ddt (by omega)
 have hq1 : k1 < s1.1.length := by omega
 refine wcs (wcr (mv R R (mv R R (wlq (pln (rgo pz) el_33 R) R (wlq (pls R R) R (wnt (wft R c1 (wck (wqt (wcs (wcb (wcr (mv R R (mv R R (mv R R (wlq (po_ixn (k := k1) (rgo pz) el_33 R R hq1) R (wlq (po_sfldr (rgo pz) hq1 fo_92_0 R) R (wls (so_own (x' := (GBooking.mk s1.2 ((gx s1.1 k1).From) ((gx s1.1 k1).To) ((gx s1.1 k1).Sum))) tk_3 pz R R R R R R hq1 R) (wnt (wcr (mv R R (wlq (po_add R R) R (asg R R (wnt (wcr (mv R R (mv R R (mv R R (wlq (po_ixn (k := k1) (rgo pz) el_33 R R (set_lt hq1)) R (wlq (po_sfldr (rgo pz) (set_lt hq1) fo_92_1 R) R (wls (so_own2 (X := s1.1) (e := (GBooking.mk s1.2 ((gx s1.1 k1).From) ((gx s1.1 k1).To) ((gx s1.1 k1).Sum))) (x' := (GBooking.mk s1.2 (wr (s1.2 + 1)) ((gx s1.1 k1).To) ((gx s1.1 k1).Sum))) tk_3 pz R R R R R R hq1 R) (wnt (wcr (mv R R (wlq (po_add R R) R (asg R R (wnt (wcr (mv R R ?_)))))))))))))))))))))))))))))))))))))))
 refine mv R R (mv R R (wlq (po_ixn (k := k1) (rgo pz) el_33 R R (set_lt hq1)) R (wlq (po_sfldr (rgo pz) (set_lt hq1) fo_92_2 R) R (wls (so_own2 (X := s1.1) (e := (GBooking.mk s1.2 (wr (s1.2 + 1)) ((gx s1.1 k1).To) ((gx s1.1 k1).Sum))) (x' := (GBooking.mk s1.2 (wr (s1.2 + 1)) (wr ((wr (s1.2 + 1)) + 1)) ((gx s1.1 k1).Sum))) tk_3 pz R R R R R R hq1 R) (wnt (wcr (mv R R (wlq (po_add R R) R (asg R R (wnt (wcr (mv R R (mv R R (mv R R (wlq (po_ixn (k := k1) (rgo pz) el_33 R R (set_lt hq1)) R (wlq (po_sfldr (rgo pz) (set_lt hq1) fo_92_3 R) R (wls (so_own2 (X := s1.1) (e := (GBooking.mk s1.2 (wr (s1.2 + 1)) (wr ((wr (s1.2 + 1)) + 1)) ((gx s1.1 k1).Sum))) (x' := (GBooking.mk s1.2 (wr (s1.2 + 1)) (wr ((wr (s1.2 + 1)) + 1)) (wr ((wr ((wr (s1.2 + 1)) + 1)) + 1)))) tk_3 pz R R R R R R hq1 R) (wnt (wcg (mv R R (wlq (po_add R R) R (asg R R (wln (wqb (wqt (wcg (mv R R (wlq (po_inc R R (by omega)) R ?_))))))))))))))))))))))))))))
 exact asg R R (wln (wq_rnd hk1 (stpN l1 t1) () (su3 R R R) so1))
 have c1 : (decide (((k1 : Nat) : Int) < ((s1.1.length : Nat) : Int))) = false := ddf (by omega)
 have en1 := foe l1 hk1
 exact wcs (wcr (mv R R (mv R R (wlq (pln (rgo pz) el_33 R) R (wlq (pls R R) R (wnt (wff R c1 (wcx (wqe (wqe (wbx (wjm _ () (Sum.inl.inj en1) (su2 R R) so1))))))))))))
 intro e1 _ hp
 obtain rfl : e1 = y1 := hp.symm
 refine wqt (wcr (mv R R (asg R R (wnt (wct ?_)))))
 obtain rfl := oi t0
 exact wq1 R R fun w hw => ⟨(), R, hw.weak so1⟩

theorem c_laws_markGuild (w : World) (fp : List Nat) (a_a : GGuild) (v0a : Hd) (v1a : Hd) (v2a : Hd) (u2a : List Value) (v3a : Hd) (a_k : Int) (o : Ow w [ownF (sl v0a) a_a.Members, ownF (sl v1a) a_a.Stock, own (sl v2a) u2a a_a.Entries, ownF (sl v3a) a_a.Books] fp) {r : Int × (List GMember) × (List Int) × (List GEntry) × (List GBooking)} (t0 : laws_markGuild a_a a_k = some r) : Calls Tryz.prog 10 #[.agg #[(sl v0a), (sl v1a), (sl v2a), (sl v3a), .int .i64 a_a.Round, .int .i64 a_a.Year], .int .i64 a_k] w fun e w' => ∃ x : List Value, e = .returned (.int .i64 r.1) ∧ SH w fp [ownF (sl v0a) r.2.1, ownF (sl v1a) r.2.2.1, own (sl v2a) x r.2.2.2.1, ownF (sl v3a) r.2.2.2.2] w' := by
 refine calls_of_wc_own (args := [_, _]) o Tryz.func10 R Tryz.ntmps10 R ?_
 unfold laws_markGuild at t0
 refine wcr (wle (eo_box R R) R fun b1 => (asg R R (wnt (wcr (wlq (pof fo_35_0 R) R (wlq (v := (sl v0a)) (plx tk_31 pz R R) R (mv R R (bdO t0 fun v1 hv1 t0 => (wlc (co_o1 [ownF (sl v0a) a_a.Members] fa_34 (zc pk1 some_refl) R fun w fp hw => c_laws_markMemberS w fp a_a.Members v0a a_k hw.ow hv1) R fun _ => (asg R R (wnt (wcr (wlq (pof fo_35_1 R) R (wlq (v := (sl v1a)) (plx tk_23 pk1 R R) R (mv R R (bdO t0 fun v2 hv2 t0 => (wlc (co_o1 [ownF (sl v1a) a_a.Stock] fa_35 (zc pk2 some_refl) R fun w fp hw => c_laws_markIntS w fp a_a.Stock v1a v1.1 hw.ow hv2) R fun _ => (asg R R (wnt (wcr (wlq (pof fo_35_2 R) R (wlq (v := (sl v2a)) (plx tk_32 pk2 R R) R (mv R R (bdO t0 fun v3 hv3 t0 => (wlc (co_o1 [own (sl v2a) u2a a_a.Entries] fa_36 (zc pk3 some_refl) R fun w fp hw => c_laws_markEntryS w fp a_a.Entries v2a u2a v2.1 hw.ow hv3) R fun x1 => (asg R R (wnt (wcr (wlq (pof fo_35_3 R) R (wlq (v := (sl v3a)) (plx tk_33 pk3 R R) R (mv R R (bdO t0 fun v4 hv4 t0 => (wlc (co_o1 [ownF (sl v3a) a_a.Books] fa_37 (zc pk4 some_refl) R fun w fp hw => c_laws_markBookingS w fp a_a.Books v3a v3.1 hw.ow hv4) R fun _ => (asg R R (wnt (wcr (mv R R (asg R R (wnt ?_)))))))))))))))))))))))))))))))))))))))
 refine wct ?_
 obtain rfl := oi t0
 exact wq1 R R fun w hw => ⟨x1, R, hw.weak (zc pk3 (zc pk2 (zc pk1 so1)))⟩

theorem c_laws_markText (w : World) (a_k : Int) {r : Str} (t0 : laws_markText a_k = some r) : Calls Tryz.prog 38 #[.int .i64 a_k] w fun e w' => e = .returned (bs r) ∧ SH w [] [] w' := by
 refine cwc (args := [_]) Tryz.func38 R Tryz.ntmps38 R ?_
 unfold laws_markText at t0
 refine wcr (asg R R (wnt (wcs (wcr (mv R R (wlq (po_leq R R) R (wnt (wcO t0 R (fun h1 t0 => ?_) fun h1 t0 => ?_))))))))
 refine wcr (asg R R (wnt (wct (wqr ?_))))
 obtain rfl := oi t0
 exact wq1 R R fun w hw => ⟨R, hw.weak zn⟩
 refine wck (wqt (wcr (asg R R (wnt (wcs (wlO_inv t0 fun y1 l1 t0 => (wj (J := Int × Str) (X := Unit) (fun z => y1 = z) (fun z _ => [(0, iv z.1), (3, bs z.2)]) (fun _ _ => []) ?_ ?_)))))))
 refine wcb (wc_whO (X := Unit) l1 (fun s1 x1l => [(0, iv s1.1), (3, bs s1.2)]) (fun s1 x1l => []) () (su2 R R) zn fun m1 s1 x1l l1 => (whO_step l1 fun _ t1 l1 => ?_))
 unfold laws_markText_L1 at t1
 refine wcs (wcr (mv R R (wlq (po_gtr R R) R (wnt (wcO t1 R (fun h2 t1 => ?_) fun h2 t1 => ?_)))))
 refine wck (wqt (wcb (wcr (mv R R (wlq (po_rem R R (by decide)) R ?_)))))
 refine wlq (po_add R R) R (wlq (po_intu8 isInt_3 isU8_5 R) R (wle (ebs R (sb_82_1 (u8of (wr (48 + (s1.1.tmod 10)))))) R fun b1 => (wlq (po_b2s (rgo (pbo pz (n := 1) (xs := ([(u8of (wr (48 + (s1.1.tmod 10))))] : List UInt8)) R R (by unfold maxLen; omega))) isBytes_82 isStr_9 R) R ?_)))
 refine mv R R (gdO t1 fun g1 t1 => (wlq (po_sadd R R g1) R (asg R R (wnt (wcg (mv R R (wlq (po_quo R R (by decide)) R ?_)))))))
 exact asg R R (wln (wqb (wq_rndw (stwN l1 t1) () (su2 R R) zn)))
 exact wcx (wqe (wqe (wbx (wjm _ () (Sum.inl.inj (stwB l1 t1)) (su2 R R) zn))))
 intro e1 _ hp
 obtain rfl : e1 = y1 := hp.symm
 refine wqt (wcr (mv R R (gdO t0 fun g2 t0 => (wlq (po_sadd R R g2) R (asg R R (wnt (wct ?_)))))))
 obtain rfl := oi t0
 exact wq1 R R fun w hw => ⟨R, hw.weak zn⟩

theorem c_laws_markStringS (w : World) (fp : List Nat) (a_a : List Str) (v0a : Hd) (a_k : Int) (o : Ow w [ownF (sl v0a) a_a] fp) {r : Int × (List Str)} (t0 : laws_markStringS a_a a_k = some r) : Calls Tryz.prog 11 #[(sl v0a), .int .i64 a_k] w fun e w' => ∃ _x : Unit, e = .returned (.int .i64 r.1) ∧ SH w fp [ownF (sl v0a) r.2] w' := by
 refine calls_of_wc_own (args := [_, _]) o Tryz.func11 R Tryz.ntmps11 R ?_
 unfold laws_markStringS at t0
 refine wcr (asg R R (wnt (wcs (wcr (asg R R (wnt (gdO t0 fun g1 t0 => (wc_hl (rgo pz) fun hl1 => (lpO_inv t0 fun y1 l1 t0 => (wj (J := (List Str) × Int) (X := Unit) (fun z => y1 = z) (fun z _ => [(0, (sl v0a)), (1, iv z.2)]) (fun z _ => [ownF (sl v0a) z.1]) ?_ ?_))))))))))
 refine wcb (wcf (X := Unit) l1 (fun k1 s1 x1l => [(0, (sl v0a)), (1, iv s1.2), (5, iv ((k1 : Nat) : Int))]) (fun k1 s1 x1l => [ownF (sl v0a) s1.1]) () (su3 R R R) so1 fun k1 s1 x1l hN1 l1 => (wc_hl (rgo pz) fun hl2 => ?_))
 by_cases hk1 : k1 < a_a.length
 refine fos l1 hk1 fun _ t1 l1 => ?_
 unfold laws_markStringS_L1 at t1
 have c1 : (decide (((k1 : Nat) : Int) < ((s1.1.length : Nat) : Int))) = true := ddt (by omega)
 have hq1 : k1 < s1.1.length := by omega
 refine wcs (wcr (mv R R (mv R R (wlq (pln (rgo pz) el_29 R) R (wlq (pls R R) R (wnt (wft R c1 (wck (wqt (wcs (wcb (wcr (mv R R (mv R R (mv R R (bdO t1 fun v1 hv1 t1 => (wlc (cz0 fa_38 R fun w hw => c_laws_markText w s1.2 hv1) R fun _ => (wlq (po_ixn (k := k1) (rgo pz) el_29 R R hq1) R (wls (so_own (x' := v1) tk_9 pz R R R R R R hq1 R) (wnt (wcg (mv R R (wlq (po_add R R) R (asg R R (wln (wqb (wqt (wcg (mv R R (wlq (po_inc R R (by omega)) R ?_))))))))))))))))))))))))))))))
 exact asg R R (wln (wq_rnd hk1 (stpN l1 t1) () (su3 R R R) so1))
 have c1 : (decide (((k1 : Nat) : Int) < ((s1.1.length : Nat) : Int))) = false := ddf (by omega)
 have en1 := foe l1 hk1
 exact wcs (wcr (mv R R (mv R R (wlq (pln (rgo pz) el_29 R) R (wlq (pls R R) R (wnt (wff R c1 (wcx (wqe (wqe (wbx (wjm _ () (Sum.inl.inj en1) (su2 R R) so1))))))))))))
 intro e1 _ hp
 obtain rfl : e1 = y1 := hp.symm
 refine wqt (wcr (mv R R (asg R R (wnt (wct ?_)))))
 obtain rfl := oi t0
 exact wq1 R R fun w hw => ⟨(), R, hw.weak so1⟩

theorem c_laws_heldStringS (w : World) (a_a : List Str) (v0a : Hd) (r0 : rdF w (dm w []) (sl v0a) a_a) (a_k : Int) {r : Int} (t0 : laws_heldStringS a_a a_k = some r) : Calls Tryz.prog 12 #[(sl v0a), .int .i64 a_k] w fun e w' => e = .returned (.int .i64 r) ∧ SH w [] [] w' := by
 refine cwc (args := [_, _]) Tryz.func12 R Tryz.ntmps12 R ?_
 unfold laws_heldStringS at t0
 refine wcr (asg R R (wnt (wcs (wcr (asg R R (wnt (gdO t0 fun g1 t0 => (sqO t0 fun y1 l1 t0 => (wj (J := Int) (X := Unit) (fun z => y1 = .inl z) (fun z _ => [(1, iv z)]) (fun _ _ => []) ?_ ?_)))))))))
 refine wcb (wcf (X := Unit) l1 (fun k1 s1 x1l => [(0, (sl v0a)), (1, iv s1), (5, iv ((k1 : Nat) : Int))]) (fun k1 s1 x1l => []) () (su3 R R R) zn fun k1 s1 x1l hN1 l1 => ?_)
 by_cases hk1 : k1 < a_a.length
 refine fos l1 hk1 fun _ t1 l1 => ?_
 unfold laws_heldStringS_L1 at t1
 have c1 : (decide (((k1 : Nat) : Int) < ((a_a.length : Nat) : Int))) = true := ddt (by omega)
 refine wcs (wcr (mv R R (mv R R (wlq (pln (rga r0) el_29 R) R (wlq (pls R R) R (wnt (wft R c1 (wck (wqt (wcs (wcb (wcs (wcs (wcd [] 7 mixed (aq 0 R (pom R) zn R (aq 1 R (pom R) zn R (aq 2 R (po_ixn (k := k1) (rga r0) el_29 R R hk1) zn R (aq (v := bs (gx a_a k1)) 3 R (po_ldf (rga r0) tk_9 R hk1 R) zn R (aq 4 R (pom R) zn R (a1 5 (bdO t1 fun v1 hv1 t1 => (wsc R (cz0 fa_38 R fun w hw => c_laws_markText w s1 hv1) (fun _ => (zt zn)) R fun _ => (aq 6 R (po_sneq R R) zn R (ae (wqt (wcO t1 R (fun h1 t1 => ?_) fun h1 t1 => ?_))))))))))))))))))))))))))
 refine wcr (asg R R (wnt (wct (wqr (wbr (wqr (wqr (wbr (wqr (wqr ?_))))))))))
 replace t0 := lpR t0 l1 t1
 obtain rfl := oi t0
 exact wq1 R R fun w hw => ⟨R, hw.weak zn⟩
 refine wck (wqt (wcg (mv R R (wlq (po_add R R) R (asg R R (wln (wqb (wqt (wcg (mv R R (wlq (po_inc R R (by omega)) R ?_)))))))))))
 exact asg R R (wln (wq_rnd hk1 (stpN l1 t1) () (su3 R R R) zn))
 have c1 : (decide (((k1 : Nat) : Int) < ((a_a.length : Nat) : Int))) = false := ddf (by omega)
 have en1 := foe l1 hk1
 exact wcs (wcr (mv R R (mv R R (wlq (pln (rga r0) el_29 R) R (wlq (pls R R) R (wnt (wff R c1 (wcx (wqe (wqe (wbx (wjm _ () en1 (su1 R) zn))))))))))))
 intro e1 _ hp
 replace t0 := sqE (j := e1) t0 hp
 refine wqt (wcr (mv R R (asg R R (wnt (wct ?_)))))
 obtain rfl := oi t0
 exact wq1 R R fun w hw => ⟨R, hw.weak zn⟩

end Go.Proofs.YtkahnmhkfmjomacGreatDoor
