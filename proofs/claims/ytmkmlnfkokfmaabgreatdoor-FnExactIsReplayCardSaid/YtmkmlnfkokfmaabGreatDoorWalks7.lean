/-
 Each Go function computes its Lean function (part 7).
-/
import Derived.Test.YtmkmlnfkokfmaabGreatDoorWalks6
namespace Go.Proofs.YtmkmlnfkokfmaabGreatDoor
open Go Go.RowKit Go.Proofs
set_option maxRecDepth 100000

theorem c_laws_eqCell (w : World) (a_a : GCell) (a_b : GCell) {r : Bool} (t0 : laws_eqCell a_a a_b = some r) : Calls Tryz.prog 120 #[.agg #[.int .i64 a_a.Split, .int .i64 a_a.A, .int .i64 a_a.B], .agg #[.int .i64 a_b.Split, .int .i64 a_b.A, .int .i64 a_b.B]] w fun e w' => e = .returned (.bool r) ∧ SH w [] [] w' := by
 refine cwc (args := [_, _]) Tryz.func120 R Tryz.ntmps120 R ?_
 unfold laws_eqCell at t0
 refine wcr (wle (eo_box R R) R fun b1 => (wle (eo_box R R) R fun b2 => (asg R R (wnt (wcs (wcr (wlq (pof fo_119_0 R) R (wlq (v := iv a_a.Split) (plx tk_3 pk1 R R) R (wlq (pof fo_119_0 R) R (wlq (v := iv a_b.Split) (plx tk_3 pz R R) R (wlq (po_neq R R) R (wnt (wcO t0 R (fun h1 t0 => ?_) fun h1 t0 => ?_)))))))))))))
 refine wcr (asg R R (wnt (wct (wqr ?_))))
 obtain rfl := oi t0
 exact wq1 R R fun w hw => ⟨R, hw.weak zn⟩
 refine wck (wqt (wcs (wcr (wlq (pof fo_119_1 R) R (wlq (v := iv a_a.A) (plx tk_3 pk1 R R) R (wlq (pof fo_119_1 R) R (wlq (v := iv a_b.A) (plx tk_3 pz R R) R (wlq (po_neq R R) R (wnt (wcO t0 R (fun h2 t0 => ?_) fun h2 t0 => ?_))))))))))
 refine wcr (asg R R (wnt (wct (wqr ?_))))
 obtain rfl := oi t0
 exact wq1 R R fun w hw => ⟨R, hw.weak zn⟩
 refine wck (wqt (wcs (wcr (wlq (pof fo_119_2 R) R (wlq (v := iv a_a.B) (plx tk_3 pk1 R R) R (wlq (pof fo_119_2 R) R (wlq (v := iv a_b.B) (plx tk_3 pz R R) R (wlq (po_neq R R) R (wnt (wcO t0 R (fun h3 t0 => ?_) fun h3 t0 => ?_))))))))))
 refine wcr (asg R R (wnt (wct (wqr ?_))))
 obtain rfl := oi t0
 exact wq1 R R fun w hw => ⟨R, hw.weak zn⟩
 refine wck (wqt (wcr (asg R R (wnt (wct ?_)))))
 obtain rfl := oi t0
 exact wq1 R R fun w hw => ⟨R, hw.weak zn⟩

theorem c_laws_eqCellS (w : World) (a_a : List GCell) (v0a : Hd) (r0 : rdF w (dm w []) (sl v0a) a_a) (a_b : List GCell) (v1a : Hd) (r1 : rdF w (dm w []) (sl v1a) a_b) {r : Bool} (t0 : laws_eqCellS a_a a_b = some r) : Calls Tryz.prog 113 #[(sl v0a), (sl v1a)] w fun e w' => e = .returned (.bool r) ∧ SH w [] [] w' := by
 refine cwc (args := [_, _]) Tryz.func113 R Tryz.ntmps113 R ?_
 unfold laws_eqCellS at t0
 refine wcr (asg R R (wnt (wcs (wcr (mv R R (wlq (pln (rga r0) el_73 R) R (mv R R (wlq (pln (rga r1) el_73 R) R (wlq (po_neq R R) R (wnt (wcO t0 R (fun h1 t0 => ?_) fun h1 t0 => ?_)))))))))))
 refine wcr (asg R R (wnt (wct (wqr ?_))))
 obtain rfl := oi t0
 exact wq1 R R fun w hw => ⟨R, hw.weak zn⟩
 refine wck (wqt (wcs (wcr (asg R R (wnt (gdO t0 fun g1 t0 => (sqO t0 fun y1 l1 t0 => (wj (J := Unit) (X := Unit) (fun z => y1 = .inl z) (fun _ _ => []) (fun _ _ => []) ?_ ?_))))))))
 refine wcb (wcf (X := Unit) l1 (fun k1 s1 x1l => [(0, (sl v0a)), (1, (sl v1a)), (5, iv ((k1 : Nat) : Int))]) (fun k1 s1 x1l => []) () (su3 R R R) zn fun k1 s1 x1l hN1 l1 => ?_)
 by_cases hk1 : k1 < a_a.length
 refine fos l1 hk1 fun _ t1 l1 => ?_
 unfold laws_eqCellS_L1 at t1
 have c1 : (decide (((k1 : Nat) : Int) < ((a_a.length : Nat) : Int))) = true := ddt (by omega)
 refine wcs (wcr (mv R R (mv R R (wlq (pln (rga r0) el_73 R) R (wlq (pls R R) R (wnt (wft R c1 (wck (wqt (wcs (wcb (wcs (wcd [] 10 mixed (aq 0 R (pom R) zn R (aq 1 R (pom R) zn R (aq 2 R (po_ixn (k := k1) (rga r0) el_73 R R hk1) zn R (aq (v := .agg #[iv ((gx a_a k1).Split), iv ((gx a_a k1).A), iv ((gx a_a k1).B)]) 3 R (po_ldfs (rga r0) tk_119 R hk1 R R R) zn R (aq 4 R (pom R) zn R (aq 5 R (pom R) zn R (gdO t1 fun g2 t1 => (aq 6 R (po_ixn (k := k1) (rga r1) el_73 R R g2) zn R (aq (v := .agg #[iv ((gx a_b k1).Split), iv ((gx a_b k1).A), iv ((gx a_b k1).B)]) 7 R (po_ldfs (rga r1) tk_119 R g2 R R R) zn R (a1 8 (bdO t1 fun v1 hv1 t1 => (wsc R (cz0 fa_120 R fun w hw => c_laws_eqCell w (gx a_a k1) (gx a_b k1) hv1) (fun _ => (zt zn)) R fun _ => (aq 9 R (po_not R) zn R (ae (wqt (wcO t1 R (fun h2 t1 => ?_) fun h2 t1 => ?_)))))))))))))))))))))))))))))
 refine wcr (asg R R (wnt (wct (wbr (wqr (wqr (wbr (wqr (wqr ?_)))))))))
 replace t0 := lpR t0 l1 t1
 obtain rfl := oi t0
 exact wq1 R R fun w hw => ⟨R, hw.weak zn⟩
 refine wck (wqb (wqt (wcg (mv R R (wlq (po_inc R R (by omega)) R ?_)))))
 exact asg R R (wln (wq_rnd hk1 (stpN l1 t1) () (su3 R R R) zn))
 have c1 : (decide (((k1 : Nat) : Int) < ((a_a.length : Nat) : Int))) = false := ddf (by omega)
 have en1 := foe l1 hk1
 exact wcs (wcr (mv R R (mv R R (wlq (pln (rga r0) el_73 R) R (wlq (pls R R) R (wnt (wff R c1 (wcx (wqe (wqe (wbx (wjm _ () en1 yn zn))))))))))))
 intro e1 _ hp
 replace t0 := sqE (j := e1) t0 hp
 refine wqt (wcr (asg R R (wnt (wct ?_))))
 obtain rfl := oi t0
 exact wq1 R R fun w hw => ⟨R, hw.weak zn⟩

theorem c_laws_eqBlock (w : World) (a_a : GBlock) (v0a : Hd) (r0 : rdF w (dm w []) (sl v0a) a_a.Cells) (a_b : GBlock) (v1a : Hd) (r1 : rdF w (dm w []) (sl v1a) a_b.Cells) {r : Bool} (t0 : laws_eqBlock a_a a_b = some r) : Calls Tryz.prog 86 #[.agg #[.int .i64 a_a.Size, (sl v0a)], .agg #[.int .i64 a_b.Size, (sl v1a)]] w fun e w' => e = .returned (.bool r) ∧ SH w [] [] w' := by
 refine cwc (args := [_, _]) Tryz.func86 R Tryz.ntmps86 R ?_
 unfold laws_eqBlock at t0
 refine wcr (wle (eo_box R R) R fun b1 => (wle (eo_box R R) R fun b2 => (asg R R (wnt (wcs (wcr (wlq (pof fo_75_0 R) R (wlq (v := iv a_a.Size) (plx tk_3 pk1 R R) R (wlq (pof fo_75_0 R) R (wlq (v := iv a_b.Size) (plx tk_3 pz R R) R (wlq (po_neq R R) R (wnt (wcO t0 R (fun h1 t0 => ?_) fun h1 t0 => ?_)))))))))))))
 refine wcr (asg R R (wnt (wct (wqr ?_))))
 obtain rfl := oi t0
 exact wq1 R R fun w hw => ⟨R, hw.weak zn⟩
 refine wck (wqt (wcs (wcr (wlq (pof fo_75_1 R) R (wlq (v := (sl v0a)) (plx tk_73 pk1 R R) R (wlq (pof fo_75_1 R) R (wlq (v := (sl v1a)) (plx tk_73 pz R R) R (bdO t0 fun v1 hv1 t0 => (wlc (cz0 fa_113 R fun w hw => c_laws_eqCellS w a_a.Cells v0a (ra r0 hw) a_b.Cells v1a (ra r1 hw) hv1) R fun _ => (wlq (po_not R) R (wnt (wcO t0 R (fun h2 t0 => ?_) fun h2 t0 => ?_))))))))))))
 refine wcr (asg R R (wnt (wct (wqr ?_))))
 obtain rfl := oi t0
 exact wq1 R R fun w hw => ⟨R, hw.weak zn⟩
 refine wck (wqt (wcr (asg R R (wnt (wct ?_)))))
 obtain rfl := oi t0
 exact wq1 R R fun w hw => ⟨R, hw.weak zn⟩

theorem c_laws_eqEntry (w : World) (a_a : GEntry) (v0a : Hd) (r0 : rdF w (dm w []) (sl v0a) a_a.Block.Cells) (a_b : GEntry) (v1a : Hd) (r1 : rdF w (dm w []) (sl v1a) a_b.Block.Cells) {r : Bool} (t0 : laws_eqEntry a_a a_b = some r) : Calls Tryz.prog 55 #[.agg #[.int .i64 a_a.Owner, .int .i64 a_a.Day, .int .i64 a_a.Block.Size, (sl v0a)], .agg #[.int .i64 a_b.Owner, .int .i64 a_b.Day, .int .i64 a_b.Block.Size, (sl v1a)]] w fun e w' => e = .returned (.bool r) ∧ SH w [] [] w' := by
 refine cwc (args := [_, _]) Tryz.func55 R Tryz.ntmps55 R ?_
 unfold laws_eqEntry at t0
 refine wcr (wle (eo_box R R) R fun b1 => (wle (eo_box R R) R fun b2 => (asg R R (wnt (wcs (wcr (wlq (pof fo_77_0 R) R (wlq (v := iv a_a.Owner) (plx tk_3 pk1 R R) R (wlq (pof fo_77_0 R) R (wlq (v := iv a_b.Owner) (plx tk_3 pz R R) R (wlq (po_neq R R) R (wnt (wcO t0 R (fun h1 t0 => ?_) fun h1 t0 => ?_)))))))))))))
 refine wcr (asg R R (wnt (wct (wqr ?_))))
 obtain rfl := oi t0
 exact wq1 R R fun w hw => ⟨R, hw.weak zn⟩
 refine wck (wqt (wcs (wcr (wlq (pof fo_77_1 R) R (wlq (v := iv a_a.Day) (plx tk_3 pk1 R R) R (wlq (pof fo_77_1 R) R (wlq (v := iv a_b.Day) (plx tk_3 pz R R) R (wlq (po_neq R R) R (wnt (wcO t0 R (fun h2 t0 => ?_) fun h2 t0 => ?_))))))))))
 refine wcr (asg R R (wnt (wct (wqr ?_))))
 obtain rfl := oi t0
 exact wq1 R R fun w hw => ⟨R, hw.weak zn⟩
 refine wck (wqt (wcs (wcr (wlq (pof fo_77_2 R) R (wlq (v := .agg #[iv a_a.Block.Size, (sl v0a)]) (plb tk_75 pk1 R R R) R (wlq (pof fo_77_2 R) R (wlq (v := .agg #[iv a_b.Block.Size, (sl v1a)]) (plb tk_75 pz R R R) R (bdO t0 fun v1 hv1 t0 => (wlc (cz0 fa_86 R fun w hw => c_laws_eqBlock w a_a.Block v0a (ra r0 hw) a_b.Block v1a (ra r1 hw) hv1) R fun _ => (wlq (po_not R) R (wnt (wcO t0 R (fun h3 t0 => ?_) fun h3 t0 => ?_))))))))))))
 refine wcr (asg R R (wnt (wct (wqr ?_))))
 obtain rfl := oi t0
 exact wq1 R R fun w hw => ⟨R, hw.weak zn⟩
 refine wck (wqt (wcr (asg R R (wnt (wct ?_)))))
 obtain rfl := oi t0
 exact wq1 R R fun w hw => ⟨R, hw.weak zn⟩

theorem c_laws_eqEntryS (w : World) (a_a : List GEntry) (v0a : Hd) (u0a : List Value) (r0 : RdL w (dm w []) (sl v0a) u0a a_a) (a_b : List GEntry) (v1a : Hd) (u1a : List Value) (r1 : RdL w (dm w []) (sl v1a) u1a a_b) {r : Bool} (t0 : laws_eqEntryS a_a a_b = some r) : Calls Tryz.prog 29 #[(sl v0a), (sl v1a)] w fun e w' => e = .returned (.bool r) ∧ SH w [] [] w' := by
 refine cwc (args := [_, _]) Tryz.func29 R Tryz.ntmps29 R ?_
 unfold laws_eqEntryS at t0
 refine wcr (asg R R (wnt (wcs (wcr (mv R R (wlq (pln (rga r0) el_33 R) R (mv R R (wlq (pln (rga r1) el_33 R) R (wlq (po_neq R R) R (wnt (wcO t0 R (fun h1 t0 => ?_) fun h1 t0 => ?_)))))))))))
 refine wcr (asg R R (wnt (wct (wqr ?_))))
 obtain rfl := oi t0
 exact wq1 R R fun w hw => ⟨R, hw.weak zn⟩
 refine wck (wqt (wcs (wcr (asg R R (wnt (gdO t0 fun g1 t0 => (sqO t0 fun y1 l1 t0 => (wj (J := Unit) (X := Unit) (fun z => y1 = .inl z) (fun _ _ => []) (fun _ _ => []) ?_ ?_))))))))
 refine wcb (wcf (X := Unit) l1 (fun k1 s1 x1l => [(0, (sl v0a)), (1, (sl v1a)), (5, iv ((k1 : Nat) : Int))]) (fun k1 s1 x1l => []) () (su3 R R R) zn fun k1 s1 x1l hN1 l1 => ?_)
 by_cases hk1 : k1 < a_a.length
 refine fos l1 hk1 fun _ t1 l1 => ?_
 unfold laws_eqEntryS_L1 at t1
 have c1 : (decide (((k1 : Nat) : Int) < ((a_a.length : Nat) : Int))) = true := ddt (by omega)
 refine wcs (wcr (mv R R (mv R R (wlq (pln (rga r0) el_33 R) R (wlq (pls R R) R (wnt (wft R c1 (wck (wqt (wcs (wcb (wcs (wcd [] 10 mixed (aq 0 R (pom R) zn R (aq 1 R (pom R) zn R (aq 2 R (po_ixn (k := k1) (rga r0) el_33 R R hk1) zn R (wa_elem (rga r0) hk1 ?_)))))))))))))))))
 rintro ⟨_, _, he1⟩
 obtain ⟨w1, hc1, _⟩ := rd_GEntry.1 he1
 refine aq (v := .agg #[iv ((gx a_a k1).Owner), iv ((gx a_a k1).Day), iv (((gx a_a k1).Block).Size), (sl w1)]) 3 R (po_ldns (rga r0) tk_77 R hc1 R R R) zn R (aq 4 R (pom R) zn R (aq 5 R (pom R) zn R (gdO t1 fun g2 t1 => (aq 6 R (po_ixn (k := k1) (rga r1) el_33 R R g2) zn R (wa_elem (rga r1) g2 ?_)))))
 rintro ⟨_, _, he2⟩
 obtain ⟨w2, hc2, _⟩ := rd_GEntry.1 he2
 refine aq (v := .agg #[iv ((gx a_b k1).Owner), iv ((gx a_b k1).Day), iv (((gx a_b k1).Block).Size), (sl w2)]) 7 R (po_ldns (rga r1) tk_77 R hc2 R R R) zn R (a1 8 (bdO t1 fun v1 hv1 t1 => (wsc R (cz0 fa_55 R fun w hw => c_laws_eqEntry w (gx a_a k1) w1 (Rg.on (er_GEntry_0 hc1 (rga r0) hk1) hw) (gx a_b k1) w2 (Rg.on (er_GEntry_0 hc2 (rga r1) g2) hw) hv1) (fun _ => (zt zn)) R fun _ => (aq 9 R (po_not R) zn R (ae (wqt (wcO t1 R (fun h2 t1 => ?_) fun h2 t1 => ?_)))))))
 refine wcr (asg R R (wnt (wct (wbr (wqr (wqr (wbr (wqr (wqr ?_)))))))))
 replace t0 := lpR t0 l1 t1
 obtain rfl := oi t0
 exact wq1 R R fun w hw => ⟨R, hw.weak zn⟩
 refine wck (wqb (wqt (wcg (mv R R (wlq (po_inc R R (by omega)) R ?_)))))
 exact asg R R (wln (wq_rnd hk1 (stpN l1 t1) () (su3 R R R) zn))
 have c1 : (decide (((k1 : Nat) : Int) < ((a_a.length : Nat) : Int))) = false := ddf (by omega)
 have en1 := foe l1 hk1
 exact wcs (wcr (mv R R (mv R R (wlq (pln (rga r0) el_33 R) R (wlq (pls R R) R (wnt (wff R c1 (wcx (wqe (wqe (wbx (wjm _ () en1 yn zn))))))))))))
 intro e1 _ hp
 replace t0 := sqE (j := e1) t0 hp
 refine wqt (wcr (asg R R (wnt (wct ?_))))
 obtain rfl := oi t0
 exact wq1 R R fun w hw => ⟨R, hw.weak zn⟩

theorem c_laws_eqBooking (w : World) (a_a : GBooking) (a_b : GBooking) {r : Bool} (t0 : laws_eqBooking a_a a_b = some r) : Calls Tryz.prog 56 #[.agg #[.int .i64 a_a.Day, .int .i64 a_a.From, .int .i64 a_a.To, .int .i64 a_a.Sum], .agg #[.int .i64 a_b.Day, .int .i64 a_b.From, .int .i64 a_b.To, .int .i64 a_b.Sum]] w fun e w' => e = .returned (.bool r) ∧ SH w [] [] w' := by
 refine cwc (args := [_, _]) Tryz.func56 R Tryz.ntmps56 R ?_
 unfold laws_eqBooking at t0
 refine wcr (wle (eo_box R R) R fun b1 => (wle (eo_box R R) R fun b2 => (asg R R (wnt (wcs (wcr (wlq (pof fo_90_0 R) R (wlq (v := iv a_a.Day) (plx tk_3 pk1 R R) R (wlq (pof fo_90_0 R) R (wlq (v := iv a_b.Day) (plx tk_3 pz R R) R (wlq (po_neq R R) R (wnt (wcO t0 R (fun h1 t0 => ?_) fun h1 t0 => ?_)))))))))))))
 refine wcr (asg R R (wnt (wct (wqr ?_))))
 obtain rfl := oi t0
 exact wq1 R R fun w hw => ⟨R, hw.weak zn⟩
 refine wck (wqt (wcs (wcr (wlq (pof fo_90_1 R) R (wlq (v := iv a_a.From) (plx tk_3 pk1 R R) R (wlq (pof fo_90_1 R) R (wlq (v := iv a_b.From) (plx tk_3 pz R R) R (wlq (po_neq R R) R (wnt (wcO t0 R (fun h2 t0 => ?_) fun h2 t0 => ?_))))))))))
 refine wcr (asg R R (wnt (wct (wqr ?_))))
 obtain rfl := oi t0
 exact wq1 R R fun w hw => ⟨R, hw.weak zn⟩
 refine wck (wqt (wcs (wcr (wlq (pof fo_90_2 R) R (wlq (v := iv a_a.To) (plx tk_3 pk1 R R) R (wlq (pof fo_90_2 R) R (wlq (v := iv a_b.To) (plx tk_3 pz R R) R (wlq (po_neq R R) R (wnt (wcO t0 R (fun h3 t0 => ?_) fun h3 t0 => ?_))))))))))
 refine wcr (asg R R (wnt (wct (wqr ?_))))
 obtain rfl := oi t0
 exact wq1 R R fun w hw => ⟨R, hw.weak zn⟩
 refine wck (wqt (wcs (wcr (wlq (pof fo_90_3 R) R (wlq (v := iv a_a.Sum) (plx tk_3 pk1 R R) R (wlq (pof fo_90_3 R) R (wlq (v := iv a_b.Sum) (plx tk_3 pz R R) R (wlq (po_neq R R) R (wnt (wcO t0 R (fun h4 t0 => ?_) fun h4 t0 => ?_))))))))))
 refine wcr (asg R R (wnt (wct (wqr ?_))))
 obtain rfl := oi t0
 exact wq1 R R fun w hw => ⟨R, hw.weak zn⟩
 refine wck (wqt (wcr (asg R R (wnt (wct ?_)))))
 obtain rfl := oi t0
 exact wq1 R R fun w hw => ⟨R, hw.weak zn⟩

theorem c_laws_eqBookingS (w : World) (a_a : List GBooking) (v0a : Hd) (r0 : rdF w (dm w []) (sl v0a) a_a) (a_b : List GBooking) (v1a : Hd) (r1 : rdF w (dm w []) (sl v1a) a_b) {r : Bool} (t0 : laws_eqBookingS a_a a_b = some r) : Calls Tryz.prog 30 #[(sl v0a), (sl v1a)] w fun e w' => e = .returned (.bool r) ∧ SH w [] [] w' := by
 refine cwc (args := [_, _]) Tryz.func30 R Tryz.ntmps30 R ?_
 unfold laws_eqBookingS at t0
 refine wcr (asg R R (wnt (wcs (wcr (mv R R (wlq (pln (rga r0) el_34 R) R (mv R R (wlq (pln (rga r1) el_34 R) R (wlq (po_neq R R) R (wnt (wcO t0 R (fun h1 t0 => ?_) fun h1 t0 => ?_)))))))))))
 refine wcr (asg R R (wnt (wct (wqr ?_))))
 obtain rfl := oi t0
 exact wq1 R R fun w hw => ⟨R, hw.weak zn⟩
 refine wck (wqt (wcs (wcr (asg R R (wnt (gdO t0 fun g1 t0 => (sqO t0 fun y1 l1 t0 => (wj (J := Unit) (X := Unit) (fun z => y1 = .inl z) (fun _ _ => []) (fun _ _ => []) ?_ ?_))))))))
 refine wcb (wcf (X := Unit) l1 (fun k1 s1 x1l => [(0, (sl v0a)), (1, (sl v1a)), (5, iv ((k1 : Nat) : Int))]) (fun k1 s1 x1l => []) () (su3 R R R) zn fun k1 s1 x1l hN1 l1 => ?_)
 by_cases hk1 : k1 < a_a.length
 refine fos l1 hk1 fun _ t1 l1 => ?_
 unfold laws_eqBookingS_L1 at t1
 have c1 : (decide (((k1 : Nat) : Int) < ((a_a.length : Nat) : Int))) = true := ddt (by omega)
 refine wcs (wcr (mv R R (mv R R (wlq (pln (rga r0) el_34 R) R (wlq (pls R R) R (wnt (wft R c1 (wck (wqt (wcs (wcb (wcs (wcd [] 10 mixed (aq 0 R (pom R) zn R (aq 1 R (pom R) zn R (aq 2 R (po_ixn (k := k1) (rga r0) el_34 R R hk1) zn R (aq (v := .agg #[iv ((gx a_a k1).Day), iv ((gx a_a k1).From), iv ((gx a_a k1).To), iv ((gx a_a k1).Sum)]) 3 R (po_ldfs (rga r0) tk_90 R hk1 R R R) zn R (aq 4 R (pom R) zn R (aq 5 R (pom R) zn R (gdO t1 fun g2 t1 => (aq 6 R (po_ixn (k := k1) (rga r1) el_34 R R g2) zn R (aq (v := .agg #[iv ((gx a_b k1).Day), iv ((gx a_b k1).From), iv ((gx a_b k1).To), iv ((gx a_b k1).Sum)]) 7 R (po_ldfs (rga r1) tk_90 R g2 R R R) zn R (a1 8 (bdO t1 fun v1 hv1 t1 => (wsc R (cz0 fa_56 R fun w hw => c_laws_eqBooking w (gx a_a k1) (gx a_b k1) hv1) (fun _ => (zt zn)) R fun _ => (aq 9 R (po_not R) zn R (ae (wqt (wcO t1 R (fun h2 t1 => ?_) fun h2 t1 => ?_)))))))))))))))))))))))))))))
 refine wcr (asg R R (wnt (wct (wbr (wqr (wqr (wbr (wqr (wqr ?_)))))))))
 replace t0 := lpR t0 l1 t1
 obtain rfl := oi t0
 exact wq1 R R fun w hw => ⟨R, hw.weak zn⟩
 refine wck (wqb (wqt (wcg (mv R R (wlq (po_inc R R (by omega)) R ?_)))))
 exact asg R R (wln (wq_rnd hk1 (stpN l1 t1) () (su3 R R R) zn))
 have c1 : (decide (((k1 : Nat) : Int) < ((a_a.length : Nat) : Int))) = false := ddf (by omega)
 have en1 := foe l1 hk1
 exact wcs (wcr (mv R R (mv R R (wlq (pln (rga r0) el_34 R) R (wlq (pls R R) R (wnt (wff R c1 (wcx (wqe (wqe (wbx (wjm _ () en1 yn zn))))))))))))
 intro e1 _ hp
 replace t0 := sqE (j := e1) t0 hp
 refine wqt (wcr (asg R R (wnt (wct ?_))))
 obtain rfl := oi t0
 exact wq1 R R fun w hw => ⟨R, hw.weak zn⟩

theorem c_laws_eqGuild (w : World) (a_a : GGuild) (v0a : Hd) (r0 : rdF w (dm w []) (sl v0a) a_a.Members) (v1a : Hd) (r1 : rdF w (dm w []) (sl v1a) a_a.Stock) (v2a : Hd) (u2a : List Value) (r2 : RdL w (dm w []) (sl v2a) u2a a_a.Entries) (v3a : Hd) (r3 : rdF w (dm w []) (sl v3a) a_a.Books) (a_b : GGuild) (v4a : Hd) (r4 : rdF w (dm w []) (sl v4a) a_b.Members) (v5a : Hd) (r5 : rdF w (dm w []) (sl v5a) a_b.Stock) (v6a : Hd) (u6a : List Value) (r6 : RdL w (dm w []) (sl v6a) u6a a_b.Entries) (v7a : Hd) (r7 : rdF w (dm w []) (sl v7a) a_b.Books) {r : Bool} (t0 : laws_eqGuild a_a a_b = some r) : Calls Tryz.prog 11 #[.agg #[(sl v0a), (sl v1a), (sl v2a), (sl v3a), .int .i64 a_a.Round, .int .i64 a_a.Year], .agg #[(sl v4a), (sl v5a), (sl v6a), (sl v7a), .int .i64 a_b.Round, .int .i64 a_b.Year]] w fun e w' => e = .returned (.bool r) ∧ SH w [] [] w' := by
 refine cwc (args := [_, _]) Tryz.func11 R Tryz.ntmps11 R ?_
 unfold laws_eqGuild at t0
 refine wcr (wle (eo_box R R) R fun b1 => (wle (eo_box R R) R fun b2 => (asg R R (wnt (wcs (wcr (wlq (pof fo_36_0 R) R (wlq (v := (sl v0a)) (plx tk_32 pk1 R R) R (wlq (pof fo_36_0 R) R (wlq (v := (sl v4a)) (plx tk_32 pz R R) R (bdO t0 fun v1 hv1 t0 => (wlc (cz0 fa_28 R fun w hw => c_laws_eqMemberS w a_a.Members v0a (ra r0 hw) a_b.Members v4a (ra r4 hw) hv1) R fun _ => (wlq (po_not R) R (wnt (wcO t0 R (fun h1 t0 => ?_) fun h1 t0 => ?_)))))))))))))))
 refine wcr (asg R R (wnt (wct (wqr ?_))))
 obtain rfl := oi t0
 exact wq1 R R fun w hw => ⟨R, hw.weak zn⟩
 refine wck (wqt (wcs (wcr (wlq (pof fo_36_1 R) R (wlq (v := (sl v1a)) (plx tk_23 pk1 R R) R (wlq (pof fo_36_1 R) R (wlq (v := (sl v5a)) (plx tk_23 pz R R) R (bdO t0 fun v2 hv2 t0 => (wlc (cz0 fa_13 R fun w hw => c_laws_eqIntS w a_a.Stock v1a (ra r1 hw) a_b.Stock v5a (ra r5 hw) hv2) R fun _ => (wlq (po_not R) R (wnt (wcO t0 R (fun h2 t0 => ?_) fun h2 t0 => ?_))))))))))))
 refine wcr (asg R R (wnt (wct (wqr ?_))))
 obtain rfl := oi t0
 exact wq1 R R fun w hw => ⟨R, hw.weak zn⟩
 refine wck (wqt (wcs (wcr (wlq (pof fo_36_2 R) R (wlq (v := (sl v2a)) (plx tk_33 pk1 R R) R (wlq (pof fo_36_2 R) R (wlq (v := (sl v6a)) (plx tk_33 pz R R) R (bdO t0 fun v3 hv3 t0 => (wlc (cz0 fa_29 R fun w hw => c_laws_eqEntryS w a_a.Entries v2a u2a (ra r2 hw) a_b.Entries v6a u6a (ra r6 hw) hv3) R fun _ => (wlq (po_not R) R (wnt (wcO t0 R (fun h3 t0 => ?_) fun h3 t0 => ?_))))))))))))
 refine wcr (asg R R (wnt (wct (wqr ?_))))
 obtain rfl := oi t0
 exact wq1 R R fun w hw => ⟨R, hw.weak zn⟩
 refine wck (wqt (wcs (wcr (wlq (pof fo_36_3 R) R (wlq (v := (sl v3a)) (plx tk_34 pk1 R R) R (wlq (pof fo_36_3 R) R (wlq (v := (sl v7a)) (plx tk_34 pz R R) R (bdO t0 fun v4 hv4 t0 => (wlc (cz0 fa_30 R fun w hw => c_laws_eqBookingS w a_a.Books v3a (ra r3 hw) a_b.Books v7a (ra r7 hw) hv4) R fun _ => (wlq (po_not R) R (wnt (wcO t0 R (fun h4 t0 => ?_) fun h4 t0 => ?_))))))))))))
 refine wcr (asg R R (wnt (wct (wqr ?_))))
 obtain rfl := oi t0
 exact wq1 R R fun w hw => ⟨R, hw.weak zn⟩
 refine wck (wqt (wcs (wcr (wlq (pof fo_36_4 R) R (wlq (v := iv a_a.Round) (plx tk_3 pk1 R R) R (wlq (pof fo_36_4 R) R (wlq (v := iv a_b.Round) (plx tk_3 pz R R) R (wlq (po_neq R R) R (wnt (wcO t0 R (fun h5 t0 => ?_) fun h5 t0 => ?_))))))))))
 refine wcr (asg R R (wnt (wct (wqr ?_))))
 obtain rfl := oi t0
 exact wq1 R R fun w hw => ⟨R, hw.weak zn⟩
 refine wck (wqt (wcs (wcr (wlq (pof fo_36_5 R) R (wlq (v := iv a_a.Year) (plx tk_3 pk1 R R) R (wlq (pof fo_36_5 R) R (wlq (v := iv a_b.Year) (plx tk_3 pz R R) R (wlq (po_neq R R) R (wnt (wcO t0 R (fun h6 t0 => ?_) fun h6 t0 => ?_))))))))))
 refine wcr (asg R R (wnt (wct (wqr ?_))))
 obtain rfl := oi t0
 exact wq1 R R fun w hw => ⟨R, hw.weak zn⟩
 refine wck (wqt (wcr (asg R R (wnt (wct ?_)))))
 obtain rfl := oi t0
 exact wq1 R R fun w hw => ⟨R, hw.weak zn⟩

theorem c_laws_eqAct (w : World) (a_a : GAct) (a_b : GAct) {r : Bool} (t0 : laws_eqAct a_a a_b = some r) : Calls Tryz.prog 31 #[.agg #[.int .i64 a_a.Kind, .int .i64 a_a.A, .int .i64 a_a.B], .agg #[.int .i64 a_b.Kind, .int .i64 a_b.A, .int .i64 a_b.B]] w fun e w' => e = .returned (.bool r) ∧ SH w [] [] w' := by
 refine cwc (args := [_, _]) Tryz.func31 R Tryz.ntmps31 R ?_
 unfold laws_eqAct at t0
 refine wcr (wle (eo_box R R) R fun b1 => (wle (eo_box R R) R fun b2 => (asg R R (wnt (wcs (wcr (wlq (pof fo_56_0 R) R (wlq (v := iv a_a.Kind) (plx tk_3 pk1 R R) R (wlq (pof fo_56_0 R) R (wlq (v := iv a_b.Kind) (plx tk_3 pz R R) R (wlq (po_neq R R) R (wnt (wcO t0 R (fun h1 t0 => ?_) fun h1 t0 => ?_)))))))))))))
 refine wcr (asg R R (wnt (wct (wqr ?_))))
 obtain rfl := oi t0
 exact wq1 R R fun w hw => ⟨R, hw.weak zn⟩
 refine wck (wqt (wcs (wcr (wlq (pof fo_56_1 R) R (wlq (v := iv a_a.A) (plx tk_3 pk1 R R) R (wlq (pof fo_56_1 R) R (wlq (v := iv a_b.A) (plx tk_3 pz R R) R (wlq (po_neq R R) R (wnt (wcO t0 R (fun h2 t0 => ?_) fun h2 t0 => ?_))))))))))
 refine wcr (asg R R (wnt (wct (wqr ?_))))
 obtain rfl := oi t0
 exact wq1 R R fun w hw => ⟨R, hw.weak zn⟩
 refine wck (wqt (wcs (wcr (wlq (pof fo_56_2 R) R (wlq (v := iv a_a.B) (plx tk_3 pk1 R R) R (wlq (pof fo_56_2 R) R (wlq (v := iv a_b.B) (plx tk_3 pz R R) R (wlq (po_neq R R) R (wnt (wcO t0 R (fun h3 t0 => ?_) fun h3 t0 => ?_))))))))))
 refine wcr (asg R R (wnt (wct (wqr ?_))))
 obtain rfl := oi t0
 exact wq1 R R fun w hw => ⟨R, hw.weak zn⟩
 refine wck (wqt (wcr (asg R R (wnt (wct ?_)))))
 obtain rfl := oi t0
 exact wq1 R R fun w hw => ⟨R, hw.weak zn⟩

theorem c_laws_eqActS (w : World) (a_a : List GAct) (v0a : Hd) (r0 : rdF w (dm w []) (sl v0a) a_a) (a_b : List GAct) (v1a : Hd) (r1 : rdF w (dm w []) (sl v1a) a_b) {r : Bool} (t0 : laws_eqActS a_a a_b = some r) : Calls Tryz.prog 12 #[(sl v0a), (sl v1a)] w fun e w' => e = .returned (.bool r) ∧ SH w [] [] w' := by
 refine cwc (args := [_, _]) Tryz.func12 R Tryz.ntmps12 R ?_
 unfold laws_eqActS at t0
 refine wcr (asg R R (wnt (wcs (wcr (mv R R (wlq (pln (rga r0) el_38 R) R (mv R R (wlq (pln (rga r1) el_38 R) R (wlq (po_neq R R) R (wnt (wcO t0 R (fun h1 t0 => ?_) fun h1 t0 => ?_)))))))))))
 refine wcr (asg R R (wnt (wct (wqr ?_))))
 obtain rfl := oi t0
 exact wq1 R R fun w hw => ⟨R, hw.weak zn⟩
 refine wck (wqt (wcs (wcr (asg R R (wnt (gdO t0 fun g1 t0 => (sqO t0 fun y1 l1 t0 => (wj (J := Unit) (X := Unit) (fun z => y1 = .inl z) (fun _ _ => []) (fun _ _ => []) ?_ ?_))))))))
 refine wcb (wcf (X := Unit) l1 (fun k1 s1 x1l => [(0, (sl v0a)), (1, (sl v1a)), (5, iv ((k1 : Nat) : Int))]) (fun k1 s1 x1l => []) () (su3 R R R) zn fun k1 s1 x1l hN1 l1 => ?_)
 by_cases hk1 : k1 < a_a.length
 refine fos l1 hk1 fun _ t1 l1 => ?_
 unfold laws_eqActS_L1 at t1
 have c1 : (decide (((k1 : Nat) : Int) < ((a_a.length : Nat) : Int))) = true := ddt (by omega)
 refine wcs (wcr (mv R R (mv R R (wlq (pln (rga r0) el_38 R) R (wlq (pls R R) R (wnt (wft R c1 (wck (wqt (wcs (wcb (wcs (wcd [] 10 mixed (aq 0 R (pom R) zn R (aq 1 R (pom R) zn R (aq 2 R (po_ixn (k := k1) (rga r0) el_38 R R hk1) zn R (aq (v := .agg #[iv ((gx a_a k1).Kind), iv ((gx a_a k1).A), iv ((gx a_a k1).B)]) 3 R (po_ldfs (rga r0) tk_56 R hk1 R R R) zn R (aq 4 R (pom R) zn R (aq 5 R (pom R) zn R (gdO t1 fun g2 t1 => (aq 6 R (po_ixn (k := k1) (rga r1) el_38 R R g2) zn R (aq (v := .agg #[iv ((gx a_b k1).Kind), iv ((gx a_b k1).A), iv ((gx a_b k1).B)]) 7 R (po_ldfs (rga r1) tk_56 R g2 R R R) zn R (a1 8 (bdO t1 fun v1 hv1 t1 => (wsc R (cz0 fa_31 R fun w hw => c_laws_eqAct w (gx a_a k1) (gx a_b k1) hv1) (fun _ => (zt zn)) R fun _ => (aq 9 R (po_not R) zn R (ae (wqt (wcO t1 R (fun h2 t1 => ?_) fun h2 t1 => ?_)))))))))))))))))))))))))))))
 refine wcr (asg R R (wnt (wct (wbr (wqr (wqr (wbr (wqr (wqr ?_)))))))))
 replace t0 := lpR t0 l1 t1
 obtain rfl := oi t0
 exact wq1 R R fun w hw => ⟨R, hw.weak zn⟩
 refine wck (wqb (wqt (wcg (mv R R (wlq (po_inc R R (by omega)) R ?_)))))
 exact asg R R (wln (wq_rnd hk1 (stpN l1 t1) () (su3 R R R) zn))
 have c1 : (decide (((k1 : Nat) : Int) < ((a_a.length : Nat) : Int))) = false := ddf (by omega)
 have en1 := foe l1 hk1
 exact wcs (wcr (mv R R (mv R R (wlq (pln (rga r0) el_38 R) R (wlq (pls R R) R (wnt (wff R c1 (wcx (wqe (wqe (wbx (wjm _ () en1 yn zn))))))))))))
 intro e1 _ hp
 replace t0 := sqE (j := e1) t0 hp
 refine wqt (wcr (asg R R (wnt (wct ?_))))
 obtain rfl := oi t0
 exact wq1 R R fun w hw => ⟨R, hw.weak zn⟩

theorem c_laws_FnExactIsReplay (w : World) (a_aG : GGuild) (v0a : Hd) (r0 : rdF w (dm w []) (sl v0a) a_aG.Members) (v1a : Hd) (r1 : rdF w (dm w []) (sl v1a) a_aG.Stock) (v2a : Hd) (u2a : List Value) (r2 : RdL w (dm w []) (sl v2a) u2a a_aG.Entries) (v3a : Hd) (r3 : rdF w (dm w []) (sl v3a) a_aG.Books) (a_aActs : List GAct) (v4a : Hd) (r4 : rdF w (dm w []) (sl v4a) a_aActs) (a_aNumbers : List Int) (v5a : Hd) (r5 : rdF w (dm w []) (sl v5a) a_aNumbers) {r : Bool} (t0 : laws_FnExactIsReplay a_aG a_aActs a_aNumbers = some r) : Calls Tryz.prog 3 #[.agg #[(sl v0a), (sl v1a), (sl v2a), (sl v3a), .int .i64 a_aG.Round, .int .i64 a_aG.Year], (sl v4a), (sl v5a)] w fun e w' => e = .returned (.bool r) ∧ SH w [] [] w' := by
 refine cwc (args := [_, _, _]) Tryz.func3 R Tryz.ntmps3 R ?_
 unfold laws_FnExactIsReplay at t0
 refine wcr (wle (eo_box R R) R fun b1 => (asg R R (wnt (wcs (wcr (mv R R (wlq (pln (rga r5) el_23 R) R (wlq (po_gtr R R) R (wnt (wcO t0 R (fun h1 t0 => ?_) fun h1 t0 => ?_))))))))))
 refine wcr (asg R R (wnt (wct (wqr ?_))))
 obtain rfl := oi t0
 exact wq1 R R fun w hw => ⟨R, hw.weak zn⟩
 refine wck (wqt (wcr (asg R R (wnt (wcr (wlq (v := .agg #[(sl v0a), (sl v1a), (sl v2a), (sl v3a), iv a_aG.Round, iv a_aG.Year]) (plb tk_27 pz R R R) R (mv R R (bdO t0 fun v1 hv1 t0 => (wlc (cz0 fa_4 R fun w hw => c_laws_szGuild w a_aG v0a (ra r0 hw) v1a (ra r1 hw) v2a u2a (ra r2 hw) v3a (ra r3 hw) 1048576 hv1) R fun _ => (asg R R (wnt (wcs (wcr (mv R R (wlq (pls R R) R (wnt (wcO t0 R (fun h2 t0 => ?_) fun h2 t0 => ?_)))))))))))))))))
 refine wcr (asg R R (wnt (wct (wqr ?_))))
 obtain rfl := oi t0
 exact wq1 R R fun w hw => ⟨R, hw.weak zn⟩
 refine wck (wqt (wcr (mv R R (mv R R (bdO t0 fun v2 hv2 t0 => (wlc (cz0 fa_5 R fun w hw => c_laws_szActS w a_aActs v4a (ra r4 hw) v1 hv2) R fun _ => (asg R R (wnt (wcs (wcr (mv R R (wlq (pls R R) R (wnt (wcO t0 R (fun h3 t0 => ?_) fun h3 t0 => ?_))))))))))))))
 refine wcr (asg R R (wnt (wct (wqr ?_))))
 obtain rfl := oi t0
 exact wq1 R R fun w hw => ⟨R, hw.weak zn⟩
 refine wck (wqt (wcr (wlq (v := .agg #[(sl v0a), (sl v1a), (sl v2a), (sl v3a), iv a_aG.Round, iv a_aG.Year]) (plb tk_27 pz R R R) R (bdO t0 fun v3 hv3 t0 => (wlc (co_c4 fa_7 R fun w hw => c_laws_toGuild w a_aG v0a (ra r0 hw) v1a (ra r1 hw) v2a u2a (ra r2 hw) v3a (ra r3 hw) hv3) R fun x1 => (mv R R (bdO t0 fun v4 hv4 t0 => (wlc (cz1 fa_8 R fun w hw => c_laws_toActS w a_aActs v4a (ra r4 hw) hv4) R fun x2 => (mv R R (bdO t0 fun v5 hv5 t0 => (wlc (cz1 fa_9 R fun w hw => c_laws_toIntS w a_aNumbers v5a (ra r5 hw) hv5) R fun x3 => (bdO t0 fun v6 hv6 t0 => (wlc (cz0 fa_6 R fun w hw => c_spec_IsReplay w v3 x1.1 (Rg.on (rgo pk2) hw) x1.2.1 (Rg.on (rgo pk3) hw) x1.2.2.1 x1.2.2.2.1 (Rg.on (rgo pk4) hw) x1.2.2.2.2 (Rg.on (rgo pk5) hw) v4 x2 (Rg.on (rgo pk1) hw) v5 x3 (Rg.on (rgo pz) hw) hv6) R fun _ => (asg R R (wnt (wcr (wlq (v := .agg #[(sl v0a), (sl v1a), (sl v2a), (sl v3a), iv a_aG.Round, iv a_aG.Year]) (plb tk_27 pk6 R R R) R (bdO t0 fun v7 hv7 t0 => (wlc (co_c4 fa_7 R fun w hw => c_laws_toGuild w a_aG v0a (ra r0 hw) v1a (ra r1 hw) v2a u2a (ra r2 hw) v3a (ra r3 hw) hv7) R fun x4 => (wle (eal (cs := [(sl hn), (sl hn), (sl hn), (sl hn), iv 0, iv 0]) za_36) R fun b2 => (wls (sbx (cs' := [(sl x4.1), (sl x4.2.1), (sl x4.2.2.1), (sl x4.2.2.2.2), iv v7.Round, iv v7.Year]) tk_36 pz R R R R R R R) (wnt (wcr (mv R R (bdO t0 fun v8 hv8 t0 => (wlc (cz1 fa_8 R fun w hw => c_laws_toActS w a_aActs v4a (ra r4 hw) hv8) R fun x5 => (asg R R (wnt (wcr (mv R R (bdO t0 fun v9 hv9 t0 => (wlc (cz1 fa_9 R fun w hw => c_laws_toIntS w a_aNumbers v5a (ra r5 hw) hv9) R fun x6 => (asg R R (wnt (wcr (wlq (v := .agg #[(sl x4.1), (sl x4.2.1), (sl x4.2.2.1), (sl x4.2.2.2.2), iv v7.Round, iv v7.Year]) (plb tk_36 pk2 R R R) R (mv R R (mv R R (bdO t0 fun v10 hv10 t0 => ?_)))))))))))))))))))))))))))))))))))))))
 refine wlc (cz0 fa_10 R fun w hw => c_impl_IsReplay w v7 x4.1 (Rg.on (rgo pk3) hw) x4.2.1 (Rg.on (rgo pk4) hw) x4.2.2.1 x4.2.2.2.1 (Rg.on (rgo pk5) hw) x4.2.2.2.2 (Rg.on (rgo pk6) hw) v8 x5 (Rg.on (rgo pk1) hw) v9 x6 (Rg.on (rgo pz) hw) hv10) R fun _ => asg R R (wnt (wcs (wcr (mv R R (mv R R (wlq (po_neq_bool ub_4 R R) R (wnt (wcO t0 R (fun h4 t0 => ?_) fun h4 t0 => ?_))))))))
 refine wcr (asg R R (wnt (wct (wqr ?_))))
 obtain rfl := oi t0
 exact wq1 R R fun w hw => ⟨R, hw.weak zn⟩
 refine wck (wqt (wcs (wcs (wcd [ownF (sl x6) v9, ownF (sl x5) v8, box b2 [(sl x4.1), (sl x4.2.1), (sl x4.2.2.1), (sl x4.2.2.2.2), iv v7.Round, iv v7.Year], ownF (sl x4.1) v7.Members, ownF (sl x4.2.1) v7.Stock, own (sl x4.2.2.1) x4.2.2.2.1 v7.Entries, ownF (sl x4.2.2.2.2) v7.Books, ownF (sl x3) v5, ownF (sl x2) v4, ownF (sl x1.1) v3.Members, ownF (sl x1.2.1) v3.Stock, own (sl x1.2.2.1) x1.2.2.2.1 v3.Entries, ownF (sl x1.2.2.2.2) v3.Books, box b1 [(sl v0a), (sl v1a), (sl v2a), (sl v3a), iv a_aG.Round, iv a_aG.Year]] 5 mixed (aq (v := .agg #[(sl x4.1), (sl x4.2.1), (sl x4.2.2.1), (sl x4.2.2.2.2), iv v7.Round, iv v7.Year]) 0 R (plb tk_36 pk2 R R R) (zc pz (zc pz so12)) R (aq (v := .agg #[(sl v0a), (sl v1a), (sl v2a), (sl v3a), iv a_aG.Round, iv a_aG.Year]) 1 R (plb tk_27 pk13 R R R) (zc pz (zc pz so12)) R (a1 2 (bdO t0 fun v11 hv11 t0 => (wsc R (co_c4 fa_7 R fun w hw => c_laws_toGuild w a_aG v0a (ra r0 hw) v1a (ra r1 hw) v2a u2a (ra r2 hw) v3a (ra r3 hw) hv11) (fun _ => (zt (zc pk4 (zc pk4 (zc pk4 (zc pk4 (zc pk4 (zc pk4 (zc pk4 (zc pk4 (zc pk4 (zc pk4 (zc pk4 (zc pk4 (zc pk4 (zc pk4 zn)))))))))))))))) R fun x7 => (a1 3 (bdO t0 fun v12 hv12 t0 => (wsc R (cz0 fa_11 R fun w hw => c_laws_eqGuild w v7 x4.1 (Rg.on (rgo pk7) hw) x4.2.1 (Rg.on (rgo pk8) hw) x4.2.2.1 x4.2.2.2.1 (Rg.on (rgo pk9) hw) x4.2.2.2.2 (Rg.on (rgo pk10) hw) v11 x7.1 (Rg.on (rgo pz) hw) x7.2.1 (Rg.on (rgo pk1) hw) x7.2.2.1 x7.2.2.2.1 (Rg.on (rgo pk2) hw) x7.2.2.2.2 (Rg.on (rgo pk3) hw) hv12) (fun _ => (zt (zc pk4 (zc pk4 (zc pk4 (zc pk4 (zc pk4 (zc pk4 (zc pk4 (zc pk4 (zc pk4 (zc pk4 (zc pk4 (zc pk4 (zc pk4 (zc pk4 zn)))))))))))))))) R fun _ => (aq 4 R (po_not R) (zc pk4 (zc pk4 (zc pk4 (zc pk4 (zc pk4 (zc pk4 (zc pk4 (zc pk4 (zc pk4 (zc pk4 (zc pk4 (zc pk4 (zc pk4 (zc pk4 zn)))))))))))))) R (ae (wqt (wcO t0 R (fun h5 t0 => ?_) fun h5 t0 => ?_))))))))))))))))
 refine wcr (asg R R (wnt (wct (wqr ?_))))
 obtain rfl := oi t0
 exact wq1 R R fun w hw => ⟨R, hw.weak zn⟩
 refine wck (wqt (wcs (wcr (mv R R (mv R R (bdO t0 fun v13 hv13 t0 => (wlc (cz1 fa_8 R fun w hw => c_laws_toActS w a_aActs v4a (ra r4 hw) hv13) R fun x8 => (bdO t0 fun v14 hv14 t0 => (wlc (cz0 fa_12 R fun w hw => c_laws_eqActS w v8 x5 (Rg.on (rgo pk6) hw) v13 x8 (Rg.on (rgo pz) hw) hv14) R fun _ => (wlq (po_not R) R (wnt (wcO t0 R (fun h6 t0 => ?_) fun h6 t0 => ?_))))))))))))
 refine wcr (asg R R (wnt (wct (wqr ?_))))
 obtain rfl := oi t0
 exact wq1 R R fun w hw => ⟨R, hw.weak zn⟩
 refine wck (wqt (wcs (wcr (mv R R (mv R R (bdO t0 fun v15 hv15 t0 => (wlc (cz1 fa_9 R fun w hw => c_laws_toIntS w a_aNumbers v5a (ra r5 hw) hv15) R fun x9 => (bdO t0 fun v16 hv16 t0 => (wlc (cz0 fa_13 R fun w hw => c_laws_eqIntS w v9 x6 (Rg.on (rgo pk6) hw) v15 x9 (Rg.on (rgo pz) hw) hv16) R fun _ => (wlq (po_not R) R (wnt (wcO t0 R (fun h7 t0 => ?_) fun h7 t0 => ?_))))))))))))
 refine wcr (asg R R (wnt (wct (wqr ?_))))
 obtain rfl := oi t0
 exact wq1 R R fun w hw => ⟨R, hw.weak zn⟩
 refine wck (wqt (wcr (asg R R (wnt (wct ?_)))))
 obtain rfl := oi t0
 exact wq1 R R fun w hw => ⟨R, hw.weak zn⟩

end Go.Proofs.YtmkmlnfkokfmaabGreatDoor
