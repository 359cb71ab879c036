/-
 Each Go function computes its Lean function (part 1).
-/
import Derived.Test.YtlfhlajpdmcnaacGreatDoorLibs
namespace Go.Proofs.YtlfhlajpdmcnaacGreatDoor
open Go Go.RowKit Go.Proofs
set_option maxRecDepth 100000

theorem c_laws_szMemberS (w : World) (a_a : List GMember) (v0a : Hd) (r0 : rdF w (dm w []) (sl v0a) a_a) (a_left : Int) {r : Int} (t0 : laws_szMemberS a_a a_left = some r) : Calls Tryz.prog 33 #[(sl v0a), .int .i64 a_left] w fun e w' => e = .returned (.int .i64 r) ∧ SH w [] [] w' := by
 refine cwc (args := [_, _]) Tryz.func33 R Tryz.ntmps33 R ?_
 unfold laws_szMemberS at t0
 refine wcr (asg R R (wnt (wcr (mv R R (mv R R (wlq (pln (rga r0) el_22 R) R (wlq (po_sub R R) R (asg R R (wnt (wcs (wcr (mv R R (wlq (pls R R) R (wnt (wcO t0 R (fun h1 t0 => ?_) fun h1 t0 => ?_)))))))))))))))
 refine wcr (asg R R (wnt (wct (wqr ?_))))
 obtain rfl := oi t0
 exact wq1 R R fun w hw => ⟨R, hw.weak zn⟩
 refine wck (wqt (wcr (mv R R (asg R R (wnt (wct ?_))))))
 obtain rfl := oi t0
 exact wq1 R R fun w hw => ⟨R, hw.weak zn⟩

theorem c_laws_szIntS (w : World) (a_a : List Int) (v0a : Hd) (r0 : rdF w (dm w []) (sl v0a) a_a) (a_left : Int) {r : Int} (t0 : laws_szIntS a_a a_left = some r) : Calls Tryz.prog 34 #[(sl v0a), .int .i64 a_left] w fun e w' => e = .returned (.int .i64 r) ∧ SH w [] [] w' := by
 refine cwc (args := [_, _]) Tryz.func34 R Tryz.ntmps34 R ?_
 unfold laws_szIntS at t0
 refine wcr (asg R R (wnt (wcr (mv R R (mv R R (wlq (pln (rga r0) el_23 R) R (wlq (po_sub R R) R (asg R R (wnt (wcs (wcr (mv R R (wlq (pls R R) R (wnt (wcO t0 R (fun h1 t0 => ?_) fun h1 t0 => ?_)))))))))))))))
 refine wcr (asg R R (wnt (wct (wqr ?_))))
 obtain rfl := oi t0
 exact wq1 R R fun w hw => ⟨R, hw.weak zn⟩
 refine wck (wqt (wcr (mv R R (asg R R (wnt (wct ?_))))))
 obtain rfl := oi t0
 exact wq1 R R fun w hw => ⟨R, hw.weak zn⟩

theorem c_laws_szCellS (w : World) (a_a : List GCell) (v0a : Hd) (r0 : rdF w (dm w []) (sl v0a) a_a) (a_left : Int) {r : Int} (t0 : laws_szCellS a_a a_left = some r) : Calls Tryz.prog 37 #[(sl v0a), .int .i64 a_left] w fun e w' => e = .returned (.int .i64 r) ∧ SH w [] [] w' := by
 refine cwc (args := [_, _]) Tryz.func37 R Tryz.ntmps37 R ?_
 unfold laws_szCellS at t0
 refine wcr (asg R R (wnt (wcr (mv R R (mv R R (wlq (pln (rga r0) el_28 R) R (wlq (po_sub R R) R (asg R R (wnt (wcs (wcr (mv R R (wlq (pls R R) R (wnt (wcO t0 R (fun h1 t0 => ?_) fun h1 t0 => ?_)))))))))))))))
 refine wcr (asg R R (wnt (wct (wqr ?_))))
 obtain rfl := oi t0
 exact wq1 R R fun w hw => ⟨R, hw.weak zn⟩
 refine wck (wqt (wcr (mv R R (asg R R (wnt (wct ?_))))))
 obtain rfl := oi t0
 exact wq1 R R fun w hw => ⟨R, hw.weak zn⟩

theorem c_laws_szBlock (w : World) (a_a : GBlock) (v0a : Hd) (r0 : rdF w (dm w []) (sl v0a) a_a.Cells) (a_left : Int) {r : Int} (t0 : laws_szBlock a_a a_left = some r) : Calls Tryz.prog 8 #[.agg #[.int .i64 a_a.Size, (sl v0a)], .int .i64 a_left] w fun e w' => e = .returned (.int .i64 r) ∧ SH w [] [] w' := by
 refine cwc (args := [_, _]) Tryz.func8 R Tryz.ntmps8 R ?_
 unfold laws_szBlock at t0
 refine wcr (wle (eo_box R R) R fun b1 => (asg R R (wnt (wcr (wlq (pof fo_30_1 R) R (wlq (v := (sl v0a)) (plx tk_28 pz R R) R (mv R R (bdO t0 fun v1 hv1 t0 => (wlc (cz0 fa_37 R fun w hw => c_laws_szCellS w a_a.Cells v0a (ra r0 hw) a_left hv1) R fun _ => (asg R R (wnt (wcs (wcr (mv R R (wlq (pls R R) R (wnt (wcO t0 R (fun h1 t0 => ?_) fun h1 t0 => ?_)))))))))))))))))
 refine wcr (asg R R (wnt (wct (wqr ?_))))
 obtain rfl := oi t0
 exact wq1 R R fun w hw => ⟨R, hw.weak zn⟩
 refine wck (wqt (wcr (mv R R (asg R R (wnt (wct ?_))))))
 obtain rfl := oi t0
 exact wq1 R R fun w hw => ⟨R, hw.weak zn⟩

theorem c_laws_szEntry (w : World) (a_a : GEntry) (v0a : Hd) (r0 : rdF w (dm w []) (sl v0a) a_a.Block.Cells) (a_left : Int) {r : Int} (t0 : laws_szEntry a_a a_left = some r) : Calls Tryz.prog 81 #[.agg #[.int .i64 a_a.Owner, .int .i64 a_a.Day, .int .i64 a_a.Block.Size, (sl v0a)], .int .i64 a_left] w fun e w' => e = .returned (.int .i64 r) ∧ SH w [] [] w' := by
 refine cwc (args := [_, _]) Tryz.func81 R Tryz.ntmps81 R ?_
 unfold laws_szEntry at t0
 refine wcr (wle (eo_box R R) R fun b1 => (asg R R (wnt (wcr (wlq (pof fo_106_2 R) R (wlq (v := .agg #[iv a_a.Block.Size, (sl v0a)]) (plb tk_30 pz R R R) R (mv R R (bdO t0 fun v1 hv1 t0 => (wlc (cz0 fa_8 R fun w hw => c_laws_szBlock w a_a.Block v0a (ra r0 hw) a_left hv1) R fun _ => (asg R R (wnt (wcs (wcr (mv R R (wlq (pls R R) R (wnt (wcO t0 R (fun h1 t0 => ?_) fun h1 t0 => ?_)))))))))))))))))
 refine wcr (asg R R (wnt (wct (wqr ?_))))
 obtain rfl := oi t0
 exact wq1 R R fun w hw => ⟨R, hw.weak zn⟩
 refine wck (wqt (wcr (mv R R (asg R R (wnt (wct ?_))))))
 obtain rfl := oi t0
 exact wq1 R R fun w hw => ⟨R, hw.weak zn⟩

theorem c_laws_szEntryS (w : World) (a_a : List GEntry) (v0a : Hd) (u0a : List Value) (r0 : RdL w (dm w []) (sl v0a) u0a a_a) (a_left : Int) {r : Int} (t0 : laws_szEntryS a_a a_left = some r) : Calls Tryz.prog 35 #[(sl v0a), .int .i64 a_left] w fun e w' => e = .returned (.int .i64 r) ∧ SH w [] [] w' := by
 refine cwc (args := [_, _]) Tryz.func35 R Tryz.ntmps35 R ?_
 unfold laws_szEntryS at t0
 refine wcr (asg R R (wnt (wcr (mv R R (mv R R (wlq (pln (rga r0) el_24 R) R (wlq (po_sub R R) R (asg R R (wnt (wcs (wcr (mv R R (wlq (pls R R) R (wnt (wcO t0 R (fun h1 t0 => ?_) fun h1 t0 => ?_)))))))))))))))
 refine wcr (asg R R (wnt (wct (wqr ?_))))
 obtain rfl := oi t0
 exact wq1 R R fun w hw => ⟨R, hw.weak zn⟩
 refine wck (wqt (wcs (wcr (asg R R (wnt (gdO t0 fun g1 t0 => (sqO t0 fun y1 l1 t0 => (wj (J := Int) (X := Unit) (fun z => y1 = .inl z) (fun z _ => [(1, iv z)]) (fun _ _ => []) ?_ ?_))))))))
 refine wcb (wcf (X := Unit) l1 (fun k1 s1 x1l => [(0, (sl v0a)), (1, iv s1), (5, iv ((k1 : Nat) : Int))]) (fun k1 s1 x1l => []) () (su3 R R R) zn fun k1 s1 x1l hN1 l1 => ?_)
 by_cases hk1 : k1 < a_a.length
 refine fos l1 hk1 fun _ t1 l1 => ?_
 unfold laws_szEntryS_L1 at t1
 have c1 : (decide (((k1 : Nat) : Int) < ((a_a.length : Nat) : Int))) = true := ddt (by omega)
 refine wcs (wcr (mv R R (mv R R (wlq (pln (rga r0) el_24 R) R (wlq (pls R R) R (wnt (wft R c1 (wck (wqt (wcs (wcb (wcr (mv R R (mv R R (wlq (po_ixn (k := k1) (rga r0) el_24 R R hk1) R (wl_elem (rga r0) hk1 ?_))))))))))))))))
 rintro ⟨_, _, he1⟩
 obtain ⟨w1, hc1, _⟩ := rd_GEntry.1 he1
 refine wlq (v := .agg #[iv ((gx a_a k1).Owner), iv ((gx a_a k1).Day), iv (((gx a_a k1).Block).Size), (sl w1)]) (po_ldns (rga r0) tk_106 R hc1 R R R) R (mv R R (bdO t1 fun v1 hv1 t1 => (wlc (cz0 fa_81 R fun w hw => c_laws_szEntry w (gx a_a k1) w1 (Rg.on (er_GEntry_0 hc1 (rga r0) hk1) hw) s1 hv1) R fun _ => (asg R R (wnt (wcr (mv R R (wlq (pls R R) R (wnt (wcO t1 R (fun h2 t1 => ?_) fun h2 t1 => ?_))))))))))
 refine wcr (asg R R (wnt (wct (wbr (wqr (wqr (wbr (wqr (wqr ?_)))))))))
 replace t0 := lpR t0 l1 t1
 obtain rfl := oi t0
 exact wq1 R R fun w hw => ⟨R, hw.weak zn⟩
 refine wck (wqb (wqt (wcg (mv R R (wlq (po_inc R R (by omega)) R ?_)))))
 exact asg R R (wln (wq_rnd hk1 (stpN l1 t1) () (su3 R R R) zn))
 have c1 : (decide (((k1 : Nat) : Int) < ((a_a.length : Nat) : Int))) = false := ddf (by omega)
 have en1 := foe l1 hk1
 exact wcs (wcr (mv R R (mv R R (wlq (pln (rga r0) el_24 R) R (wlq (pls R R) R (wnt (wff R c1 (wcx (wqe (wqe (wbx (wjm _ () en1 (su1 R) zn))))))))))))
 intro e1 _ hp
 replace t0 := sqE (j := e1) t0 hp
 refine wqt (wcr (mv R R (asg R R (wnt (wct ?_)))))
 obtain rfl := oi t0
 exact wq1 R R fun w hw => ⟨R, hw.weak zn⟩

theorem c_laws_szBookingS (w : World) (a_a : List GBooking) (v0a : Hd) (r0 : rdF w (dm w []) (sl v0a) a_a) (a_left : Int) {r : Int} (t0 : laws_szBookingS a_a a_left = some r) : Calls Tryz.prog 36 #[(sl v0a), .int .i64 a_left] w fun e w' => e = .returned (.int .i64 r) ∧ SH w [] [] w' := by
 refine cwc (args := [_, _]) Tryz.func36 R Tryz.ntmps36 R ?_
 unfold laws_szBookingS at t0
 refine wcr (asg R R (wnt (wcr (mv R R (mv R R (wlq (pln (rga r0) el_25 R) R (wlq (po_sub R R) R (asg R R (wnt (wcs (wcr (mv R R (wlq (pls R R) R (wnt (wcO t0 R (fun h1 t0 => ?_) fun h1 t0 => ?_)))))))))))))))
 refine wcr (asg R R (wnt (wct (wqr ?_))))
 obtain rfl := oi t0
 exact wq1 R R fun w hw => ⟨R, hw.weak zn⟩
 refine wck (wqt (wcr (mv R R (asg R R (wnt (wct ?_))))))
 obtain rfl := oi t0
 exact wq1 R R fun w hw => ⟨R, hw.weak zn⟩

theorem c_laws_szGuild (w : World) (a_a : GGuild) (v0a : Hd) (r0 : rdF w (dm w []) (sl v0a) a_a.Members) (v1a : Hd) (r1 : rdF w (dm w []) (sl v1a) a_a.Stock) (v2a : Hd) (u2a : List Value) (r2 : RdL w (dm w []) (sl v2a) u2a a_a.Entries) (v3a : Hd) (r3 : rdF w (dm w []) (sl v3a) a_a.Books) (a_left : Int) {r : Int} (t0 : laws_szGuild a_a a_left = some r) : Calls Tryz.prog 7 #[.agg #[(sl v0a), (sl v1a), (sl v2a), (sl v3a), .int .i64 a_a.Round, .int .i64 a_a.Year], .int .i64 a_left] w fun e w' => e = .returned (.int .i64 r) ∧ SH w [] [] w' := by
 refine cwc (args := [_, _]) Tryz.func7 R Tryz.ntmps7 R ?_
 unfold laws_szGuild at t0
 refine wcr (wle (eo_box R R) R fun b1 => (asg R R (wnt (wcr (wlq (pof fo_27_0 R) R (wlq (v := (sl v0a)) (plx tk_22 pz R R) R (mv R R (bdO t0 fun v1 hv1 t0 => (wlc (cz0 fa_33 R fun w hw => c_laws_szMemberS w a_a.Members v0a (ra r0 hw) a_left hv1) R fun _ => (asg R R (wnt (wcs (wcr (mv R R (wlq (pls R R) R (wnt (wcO t0 R (fun h1 t0 => ?_) fun h1 t0 => ?_)))))))))))))))))
 refine wcr (asg R R (wnt (wct (wqr ?_))))
 obtain rfl := oi t0
 exact wq1 R R fun w hw => ⟨R, hw.weak zn⟩
 refine wck (wqt (wcr (wlq (pof fo_27_1 R) R (wlq (v := (sl v1a)) (plx tk_23 pz R R) R (mv R R (bdO t0 fun v2 hv2 t0 => (wlc (cz0 fa_34 R fun w hw => c_laws_szIntS w a_a.Stock v1a (ra r1 hw) v1 hv2) R fun _ => (asg R R (wnt (wcs (wcr (mv R R (wlq (pls R R) R (wnt (wcO t0 R (fun h2 t0 => ?_) fun h2 t0 => ?_)))))))))))))))
 refine wcr (asg R R (wnt (wct (wqr ?_))))
 obtain rfl := oi t0
 exact wq1 R R fun w hw => ⟨R, hw.weak zn⟩
 refine wck (wqt (wcr (wlq (pof fo_27_2 R) R (wlq (v := (sl v2a)) (plx tk_24 pz R R) R (mv R R (bdO t0 fun v3 hv3 t0 => (wlc (cz0 fa_35 R fun w hw => c_laws_szEntryS w a_a.Entries v2a u2a (ra r2 hw) v2 hv3) R fun _ => (asg R R (wnt (wcs (wcr (mv R R (wlq (pls R R) R (wnt (wcO t0 R (fun h3 t0 => ?_) fun h3 t0 => ?_)))))))))))))))
 refine wcr (asg R R (wnt (wct (wqr ?_))))
 obtain rfl := oi t0
 exact wq1 R R fun w hw => ⟨R, hw.weak zn⟩
 refine wck (wqt (wcr (wlq (pof fo_27_3 R) R (wlq (v := (sl v3a)) (plx tk_25 pz R R) R (mv R R (bdO t0 fun v4 hv4 t0 => (wlc (cz0 fa_36 R fun w hw => c_laws_szBookingS w a_a.Books v3a (ra r3 hw) v3 hv4) R fun _ => (asg R R (wnt (wcs (wcr (mv R R (wlq (pls R R) R (wnt (wcO t0 R (fun h4 t0 => ?_) fun h4 t0 => ?_)))))))))))))))
 refine wcr (asg R R (wnt (wct (wqr ?_))))
 obtain rfl := oi t0
 exact wq1 R R fun w hw => ⟨R, hw.weak zn⟩
 refine wck (wqt (wcr (mv R R (asg R R (wnt (wct ?_))))))
 obtain rfl := oi t0
 exact wq1 R R fun w hw => ⟨R, hw.weak zn⟩

theorem c_laws_toMember (w : World) (a_a : GMember) {r : GMember} (t0 : laws_toMember a_a = some r) : Calls Tryz.prog 90 #[.agg #[.int .i64 a_a.Number, .int .i64 a_a.Since, .int .i64 a_a.Paid]] w fun e w' => e = .returned (.agg #[.int .i64 r.Number, .int .i64 r.Since, .int .i64 r.Paid]) ∧ SH w [] [] w' := by
 refine cwc (args := [_]) Tryz.func90 R Tryz.ntmps90 R ?_
 unfold laws_toMember at t0
 refine wcr (wle (eo_box R R) R fun b1 => (wle (eal (cs := [iv 0, iv 0, iv 0]) za_116) R fun b2 => (wnt (wcr (wle (eal (cs := [iv 0, iv 0, iv 0]) za_116) R fun b3 => (wnt (wcr (wlq (pof fo_118_0 R) R (wlq (v := iv a_a.Number) (plx tk_3 pk2 R R) R (wlq (pof fo_116_0 R) R (wls (sbx (cs' := [iv a_a.Number, iv 0, iv 0]) tk_3 pz R R R R R R R) (wnt (wcr (wlq (pof fo_118_1 R) R (wlq (v := iv a_a.Since) (plx tk_3 pk2 R R) R (wlq (pof fo_116_1 R) R (wls (sbx (cs' := [iv a_a.Number, iv a_a.Since, iv 0]) tk_3 pz R R R R R R R) (wnt (wcr (wlq (pof fo_118_2 R) R (wlq (v := iv a_a.Paid) (plx tk_3 pk2 R R) R (wlq (pof fo_116_2 R) R (wls (sbx (cs' := [iv a_a.Number, iv a_a.Since, iv a_a.Paid]) tk_3 pz R R R R R R R) (wnt (wcr (wlq (v := .agg #[iv a_a.Number, iv a_a.Since, iv a_a.Paid]) (plb tk_116 pz R R R) R (wls (sbx (cs' := [iv a_a.Number, iv a_a.Since, iv a_a.Paid]) tk_116 pk1 R R R R R R R) (wnt (wct ?_)))))))))))))))))))))))))))))
 obtain rfl := oi t0
 exact wqc R tk_116 R pz R fun w hw => ⟨R, hw.weak zn⟩

theorem c_laws_toMemberS (w : World) (a_a : List GMember) (v0a : Hd) (r0 : rdF w (dm w []) (sl v0a) a_a) {r : List GMember} (t0 : laws_toMemberS a_a = some r) : Calls Tryz.prog 42 #[(sl v0a)] w fun e w' => ∃ x : Hd, e = .returned ((sl x)) ∧ SH w [] [ownF (sl x) r] w' := by
 refine cwc (args := [_]) Tryz.func42 R Tryz.ntmps42 R ?_
 unfold laws_toMemberS at t0
 refine wcr (asg R R (wnt (wcr (mv R R (wlq (pln (rga r0) el_22 R) R (gdO t0 fun g1 t0 => (wle (eo_make_ (n := a_a.length) ((GMember.mk 0 0 0) : GMember) mk_33 R R R g1 R) R fun x1 => (asg R R (wnt (wcs (wcr (asg R R (wnt (gdO t0 fun g2 t0 => (lpO_inv t0 fun y1 l1 t0 => (wj (J := List GMember) (X := Unit) (fun z => y1 = z) (fun _ _ => [(3, (sl x1))]) (fun z _ => [ownF (sl x1) z]) ?_ ?_))))))))))))))))
 refine wcb (wcf (X := Unit) l1 (fun k1 s1 x1l => [(0, (sl v0a)), (3, (sl x1)), (4, iv ((k1 : Nat) : Int))]) (fun k1 s1 x1l => [ownF (sl x1) s1]) () (su3 R R R) so1 fun k1 s1 x1l hN1 l1 => ?_)
 by_cases hk1 : k1 < a_a.length
 refine fos l1 hk1 fun _ t1 l1 => ?_
 unfold laws_toMemberS_L1 at t1
 have c1 : (decide (((k1 : Nat) : Int) < ((a_a.length : Nat) : Int))) = true := ddt (by omega)
 refine wcs (wcr (mv R R (mv R R (wlq (pln (rga r0) el_22 R) R (wlq (pls R R) R (wnt (wft R c1 (wck (wqt (wcs (wcb (wcg (mv R R (mv R R (mv R R (mv R R (wlq (po_ixn (k := k1) (rga r0) el_22 R R hk1) R (wlq (v := .agg #[iv ((gx a_a k1).Number), iv ((gx a_a k1).Since), iv ((gx a_a k1).Paid)]) (po_ldfs (rga r0) tk_118 R hk1 R R R) R (bdO t1 fun v1 hv1 t1 => (wlc (cz0 fa_90 R fun w hw => c_laws_toMember w (gx a_a k1) hv1) R fun _ => (gdO t1 fun g3 t1 => (wlq (po_ixn (k := k1) (rgo pz) el_33 R R g3) R (wls (so_own (x' := v1) tk_116 pz R R R R R R g3 R) (wln (wqb (wqt (wcg (mv R R (wlq (po_inc R R (by omega)) R ?_)))))))))))))))))))))))))))))
 exact asg R R (wln (wq_rnd hk1 (stpN l1 t1) () (su3 R R R) so1))
 have c1 : (decide (((k1 : Nat) : Int) < ((a_a.length : Nat) : Int))) = false := ddf (by omega)
 have en1 := foe l1 hk1
 exact wcs (wcr (mv R R (mv R R (wlq (pln (rga r0) el_22 R) R (wlq (pls R R) R (wnt (wff R c1 (wcx (wqe (wqe (wbx (wjm _ () (Sum.inl.inj en1) (su1 R) so1))))))))))))
 intro e1 _ hp
 obtain rfl : e1 = y1 := hp.symm
 refine wqt (wcr (mv R R (asg R R (wnt (wct ?_)))))
 obtain rfl := oi t0
 exact wq1 R R fun w hw => ⟨x1, R, hw.weak so1⟩

theorem c_laws_toIntS (w : World) (a_a : List Int) (v0a : Hd) (r0 : rdF w (dm w []) (sl v0a) a_a) {r : List Int} (t0 : laws_toIntS a_a = some r) : Calls Tryz.prog 31 #[(sl v0a)] w fun e w' => ∃ x : Hd, e = .returned ((sl x)) ∧ SH w [] [ownF (sl x) r] w' := by
 refine cwc (args := [_]) Tryz.func31 R Tryz.ntmps31 R ?_
 unfold laws_toIntS at t0
 refine wcr (asg R R (wnt (wcr (mv R R (wlq (pln (rga r0) el_23 R) R (gdO t0 fun g1 t0 => (wle (eo_make_ (n := a_a.length) (0 : Int) mk_23 R R R g1 R) R fun x1 => (asg R R (wnt (wcs (wcr (asg R R (wnt (gdO t0 fun g2 t0 => (lpO_inv t0 fun y1 l1 t0 => (wj (J := List Int) (X := Unit) (fun z => y1 = z) (fun _ _ => [(3, (sl x1))]) (fun z _ => [ownF (sl x1) z]) ?_ ?_))))))))))))))))
 refine wcb (wcf (X := Unit) l1 (fun k1 s1 x1l => [(0, (sl v0a)), (3, (sl x1)), (4, iv ((k1 : Nat) : Int))]) (fun k1 s1 x1l => [ownF (sl x1) s1]) () (su3 R R R) so1 fun k1 s1 x1l hN1 l1 => ?_)
 by_cases hk1 : k1 < a_a.length
 refine fos l1 hk1 fun _ t1 l1 => ?_
 unfold laws_toIntS_L1 at t1
 have c1 : (decide (((k1 : Nat) : Int) < ((a_a.length : Nat) : Int))) = true := ddt (by omega)
 refine wcs (wcr (mv R R (mv R R (wlq (pln (rga r0) el_23 R) R (wlq (pls R R) R (wnt (wft R c1 (wck (wqt (wcs (wcb (wcg (mv R R (mv R R (mv R R (mv R R (wlq (po_ixn (k := k1) (rga r0) el_23 R R hk1) R (wlq (v := iv (gx a_a k1)) (po_ldf (rga r0) tk_3 R hk1 R) R (gdO t1 fun g3 t1 => (wlq (po_ixn (k := k1) (rgo pz) el_23 R R g3) R (wls (so_own (x' := (gx a_a k1)) tk_3 pz R R R R R R g3 R) (wln (wqb (wqt (wcg (mv R R (wlq (po_inc R R (by omega)) R ?_)))))))))))))))))))))))))))
 exact asg R R (wln (wq_rnd hk1 (stpN l1 t1) () (su3 R R R) so1))
 have c1 : (decide (((k1 : Nat) : Int) < ((a_a.length : Nat) : Int))) = false := ddf (by omega)
 have en1 := foe l1 hk1
 exact wcs (wcr (mv R R (mv R R (wlq (pln (rga r0) el_23 R) R (wlq (pls R R) R (wnt (wff R c1 (wcx (wqe (wqe (wbx (wjm _ () (Sum.inl.inj en1) (su1 R) so1))))))))))))
 intro e1 _ hp
 obtain rfl : e1 = y1 := hp.symm
 refine wqt (wcr (mv R R (asg R R (wnt (wct ?_)))))
 obtain rfl := oi t0
 exact wq1 R R fun w hw => ⟨x1, R, hw.weak so1⟩

theorem c_laws_toCell (w : World) (a_a : GCell) {r : GCell} (t0 : laws_toCell a_a = some r) : Calls Tryz.prog 93 #[.agg #[.int .i64 a_a.Split, .int .i64 a_a.A, .int .i64 a_a.B]] w fun e w' => e = .returned (.agg #[.int .i64 r.Split, .int .i64 r.A, .int .i64 r.B]) ∧ SH w [] [] w' := by
 refine cwc (args := [_]) Tryz.func93 R Tryz.ntmps93 R ?_
 unfold laws_toCell at t0
 refine wcr (wle (eo_box R R) R fun b1 => (wle (eal (cs := [iv 0, iv 0, iv 0]) za_125) R fun b2 => (wnt (wcr (wle (eal (cs := [iv 0, iv 0, iv 0]) za_125) R fun b3 => (wnt (wcr (wlq (pof fo_127_0 R) R (wlq (v := iv a_a.Split) (plx tk_3 pk2 R R) R (wlq (pof fo_125_0 R) R (wls (sbx (cs' := [iv a_a.Split, iv 0, iv 0]) tk_3 pz R R R R R R R) (wnt (wcr (wlq (pof fo_127_1 R) R (wlq (v := iv a_a.A) (plx tk_3 pk2 R R) R (wlq (pof fo_125_1 R) R (wls (sbx (cs' := [iv a_a.Split, iv a_a.A, iv 0]) tk_3 pz R R R R R R R) (wnt (wcr (wlq (pof fo_127_2 R) R (wlq (v := iv a_a.B) (plx tk_3 pk2 R R) R (wlq (pof fo_125_2 R) R (wls (sbx (cs' := [iv a_a.Split, iv a_a.A, iv a_a.B]) tk_3 pz R R R R R R R) (wnt (wcr (wlq (v := .agg #[iv a_a.Split, iv a_a.A, iv a_a.B]) (plb tk_125 pz R R R) R (wls (sbx (cs' := [iv a_a.Split, iv a_a.A, iv a_a.B]) tk_125 pk1 R R R R R R R) (wnt (wct ?_)))))))))))))))))))))))))))))
 obtain rfl := oi t0
 exact wqc R tk_125 R pz R fun w hw => ⟨R, hw.weak zn⟩

theorem c_laws_toCellS (w : World) (a_a : List GCell) (v0a : Hd) (r0 : rdF w (dm w []) (sl v0a) a_a) {r : List GCell} (t0 : laws_toCellS a_a = some r) : Calls Tryz.prog 45 #[(sl v0a)] w fun e w' => ∃ x : Hd, e = .returned ((sl x)) ∧ SH w [] [ownF (sl x) r] w' := by
 refine cwc (args := [_]) Tryz.func45 R Tryz.ntmps45 R ?_
 unfold laws_toCellS at t0
 refine wcr (asg R R (wnt (wcr (mv R R (wlq (pln (rga r0) el_28 R) R (gdO t0 fun g1 t0 => (wle (eo_make_ (n := a_a.length) ((GCell.mk 0 0 0) : GCell) mk_41 R R R g1 R) R fun x1 => (asg R R (wnt (wcs (wcr (asg R R (wnt (gdO t0 fun g2 t0 => (lpO_inv t0 fun y1 l1 t0 => (wj (J := List GCell) (X := Unit) (fun z => y1 = z) (fun _ _ => [(3, (sl x1))]) (fun z _ => [ownF (sl x1) z]) ?_ ?_))))))))))))))))
 refine wcb (wcf (X := Unit) l1 (fun k1 s1 x1l => [(0, (sl v0a)), (3, (sl x1)), (4, iv ((k1 : Nat) : Int))]) (fun k1 s1 x1l => [ownF (sl x1) s1]) () (su3 R R R) so1 fun k1 s1 x1l hN1 l1 => ?_)
 by_cases hk1 : k1 < a_a.length
 refine fos l1 hk1 fun _ t1 l1 => ?_
 unfold laws_toCellS_L1 at t1
 have c1 : (decide (((k1 : Nat) : Int) < ((a_a.length : Nat) : Int))) = true := ddt (by omega)
 refine wcs (wcr (mv R R (mv R R (wlq (pln (rga r0) el_28 R) R (wlq (pls R R) R (wnt (wft R c1 (wck (wqt (wcs (wcb (wcg (mv R R (mv R R (mv R R (mv R R (wlq (po_ixn (k := k1) (rga r0) el_28 R R hk1) R (wlq (v := .agg #[iv ((gx a_a k1).Split), iv ((gx a_a k1).A), iv ((gx a_a k1).B)]) (po_ldfs (rga r0) tk_127 R hk1 R R R) R (bdO t1 fun v1 hv1 t1 => (wlc (cz0 fa_93 R fun w hw => c_laws_toCell w (gx a_a k1) hv1) R fun _ => (gdO t1 fun g3 t1 => (wlq (po_ixn (k := k1) (rgo pz) el_41 R R g3) R (wls (so_own (x' := v1) tk_125 pz R R R R R R g3 R) (wln (wqb (wqt (wcg (mv R R (wlq (po_inc R R (by omega)) R ?_)))))))))))))))))))))))))))))
 exact asg R R (wln (wq_rnd hk1 (stpN l1 t1) () (su3 R R R) so1))
 have c1 : (decide (((k1 : Nat) : Int) < ((a_a.length : Nat) : Int))) = false := ddf (by omega)
 have en1 := foe l1 hk1
 exact wcs (wcr (mv R R (mv R R (wlq (pln (rga r0) el_28 R) R (wlq (pls R R) R (wnt (wff R c1 (wcx (wqe (wqe (wbx (wjm _ () (Sum.inl.inj en1) (su1 R) so1))))))))))))
 intro e1 _ hp
 obtain rfl : e1 = y1 := hp.symm
 refine wqt (wcr (mv R R (asg R R (wnt (wct ?_)))))
 obtain rfl := oi t0
 exact wq1 R R fun w hw => ⟨x1, R, hw.weak so1⟩

theorem c_laws_toBlock (w : World) (a_a : GBlock) (v0a : Hd) (r0 : rdF w (dm w []) (sl v0a) a_a.Cells) {r : GBlock} (t0 : laws_toBlock a_a = some r) : Calls Tryz.prog 11 #[.agg #[.int .i64 a_a.Size, (sl v0a)]] w fun e w' => ∃ x : Hd, e = .returned (.agg #[.int .i64 r.Size, (sl x)]) ∧ SH w [] [ownF (sl x) r.Cells] w' := by
 refine cwc (args := [_]) Tryz.func11 R Tryz.ntmps11 R ?_
 unfold laws_toBlock at t0
 refine wcr (wle (eo_box R R) R fun b1 => (wle (eal (cs := [iv 0, (sl hn)]) za_43) R fun b2 => (wnt (wcr (wle (eal (cs := [iv 0, (sl hn)]) za_43) R fun b3 => (wnt (wcr (wlq (pof fo_30_0 R) R (wlq (v := iv a_a.Size) (plx tk_3 pk2 R R) R (wlq (pof fo_43_0 R) R (wls (sbx (cs' := [iv a_a.Size, (sl hn)]) tk_3 pz R R R R R R R) (wnt (wcr (wlq (pof fo_30_1 R) R (wlq (v := (sl v0a)) (plx tk_28 pk2 R R) R (bdO t0 fun v1 hv1 t0 => (wlc (cz1 fa_45 R fun w hw => c_laws_toCellS w a_a.Cells v0a (ra r0 hw) hv1) R fun x1 => (wlq (pof fo_43_1 R) R (wls (sbx (cs' := [iv a_a.Size, (sl x1)]) tk_41 pk1 R R R R R R R) (wnt (wcr (wlq (v := .agg #[iv a_a.Size, (sl x1)]) (plb tk_43 pz R R R) R (wls (sbx (cs' := [iv a_a.Size, (sl x1)]) tk_43 pk2 R R R R R R R) (wnt (wct ?_)))))))))))))))))))))))))
 obtain rfl := oi t0
 exact wqc R tk_43 R pz R fun w hw => ⟨x1, R, hw.weak (zc pk2 zn)⟩

theorem c_laws_toEntry (w : World) (a_a : GEntry) (v0a : Hd) (r0 : rdF w (dm w []) (sl v0a) a_a.Block.Cells) {r : GEntry} (t0 : laws_toEntry a_a = some r) : Calls Tryz.prog 91 #[.agg #[.int .i64 a_a.Owner, .int .i64 a_a.Day, .int .i64 a_a.Block.Size, (sl v0a)]] w fun e w' => ∃ x : Hd, e = .returned (.agg #[.int .i64 r.Owner, .int .i64 r.Day, .int .i64 r.Block.Size, (sl x)]) ∧ SH w [] [ownF (sl x) r.Block.Cells] w' := by
 refine cwc (args := [_]) Tryz.func91 R Tryz.ntmps91 R ?_
 unfold laws_toEntry at t0
 refine wcr (wle (eo_box R R) R fun b1 => (wle (eal (cs := [iv 0, iv 0, iv 0, (sl hn)]) za_78) R fun b2 => (wnt (wcr (wle (eal (cs := [iv 0, iv 0, iv 0, (sl hn)]) za_78) R fun b3 => (wnt (wcr (wlq (pof fo_106_0 R) R (wlq (v := iv a_a.Owner) (plx tk_3 pk2 R R) R (wlq (pof fo_78_0 R) R (wls (sbx (cs' := [iv a_a.Owner, iv 0, iv 0, (sl hn)]) tk_3 pz R R R R R R R) (wnt (wcr (wlq (pof fo_106_1 R) R (wlq (v := iv a_a.Day) (plx tk_3 pk2 R R) R (wlq (pof fo_78_1 R) R (wls (sbx (cs' := [iv a_a.Owner, iv a_a.Day, iv 0, (sl hn)]) tk_3 pz R R R R R R R) (wnt (wcr (wlq (pof fo_106_2 R) R (wlq (v := .agg #[iv a_a.Block.Size, (sl v0a)]) (plb tk_30 pk2 R R R) R (bdO t0 fun v1 hv1 t0 => (wlc (cz1 fa_11 R fun w hw => c_laws_toBlock w a_a.Block v0a (ra r0 hw) hv1) R fun x1 => (wlq (pof fo_78_2 R) R (wls (sbx (cs' := [iv a_a.Owner, iv a_a.Day, iv v1.Size, (sl x1)]) tk_43 pk1 R R R R R R R) (wnt (wcr (wlq (v := .agg #[iv a_a.Owner, iv a_a.Day, iv v1.Size, (sl x1)]) (plb tk_78 pz R R R) R (wls (sbx (cs' := [iv a_a.Owner, iv a_a.Day, iv v1.Size, (sl x1)]) tk_78 pk2 R R R R R R R) (wnt (wct ?_)))))))))))))))))))))))))))))))
 obtain rfl := oi t0
 exact wqc R tk_78 R pz R fun w hw => ⟨x1, R, hw.weak (zc pk2 zn)⟩

theorem c_laws_toEntryS (w : World) (a_a : List GEntry) (v0a : Hd) (u0a : List Value) (r0 : RdL w (dm w []) (sl v0a) u0a a_a) {r : List GEntry} (t0 : laws_toEntryS a_a = some r) : Calls Tryz.prog 43 #[(sl v0a)] w fun e w' => ∃ x : Hd × (List Value), e = .returned ((sl x.1)) ∧ SH w [] [own (sl x.1) x.2 r] w' := by
 refine cwc (args := [_]) Tryz.func43 R Tryz.ntmps43 R ?_
 unfold laws_toEntryS at t0
 refine wcr (asg R R (wnt (wcr (mv R R (wlq (pln (rga r0) el_24 R) R (gdO t0 fun g1 t0 => (wle (eo_maken (n := a_a.length) ((GEntry.mk 0 0 (GBlock.mk 0 ([] : List GCell))) : GEntry) mk_34 zow_GEntry R R g1 R) R fun x1 => (asg R R (wnt (wcs (wcr (asg R R (wnt (gdO t0 fun g2 t0 => (lpO_inv t0 fun y1 l1 t0 => (wj (J := List GEntry) (X := List Value) (fun z => y1 = z) (fun _ _ => [(3, (sl x1))]) (fun z x => [own (sl x1) x z]) ?_ ?_))))))))))))))))
 refine wcb (wcf (X := List Value) l1 (fun k1 s1 x1l => [(0, (sl v0a)), (3, (sl x1)), (4, iv ((k1 : Nat) : Int))]) (fun k1 s1 x1l => [own (sl x1) x1l s1]) (cellsN a_a.length [iv 0, iv 0, iv 0, (Value.slice none 0 0)]) (su3 R R R) so1 fun k1 s1 x1l hN1 l1 => ?_)
 by_cases hk1 : k1 < a_a.length
 refine fos l1 hk1 fun _ t1 l1 => ?_
 unfold laws_toEntryS_L1 at t1
 have c1 : (decide (((k1 : Nat) : Int) < ((a_a.length : Nat) : Int))) = true := ddt (by omega)
 refine wcs (wcr (mv R R (mv R R (wlq (pln (rga r0) el_24 R) R (wlq (pls R R) R (wnt (wft R c1 (wck (wqt (wcs (wcb (wcg (mv R R (mv R R (mv R R (mv R R (wlq (po_ixn (k := k1) (rga r0) el_24 R R hk1) R (wl_elem (rga r0) hk1 ?_))))))))))))))))))
 rintro ⟨_, _, he1⟩
 obtain ⟨w1, hc1, _⟩ := rd_GEntry.1 he1
 refine wlq (v := .agg #[iv ((gx a_a k1).Owner), iv ((gx a_a k1).Day), iv (((gx a_a k1).Block).Size), (sl w1)]) (po_ldns (rga r0) tk_106 R hc1 R R R) R (bdO t1 fun v1 hv1 t1 => (wlc (cz1 fa_91 R fun w hw => c_laws_toEntry w (gx a_a k1) w1 (Rg.on (er_GEntry_0 hc1 (rga r0) hk1) hw) hv1) R fun x3 => (gdO t1 fun g3 t1 => (wlq (po_ixn (k := k1) (rgo pk1) el_34 R R g3) R (wls (so_ownn tk_78 pk1 (pow_GEntry (x := v1) pz) R R R R R g3) (wln (wqb (wqt (wcg (mv R R (wlq (po_inc R R (by omega)) R ?_)))))))))))
 exact asg R R (wln (wq_rnd hk1 (stpN l1 t1) (put_ x1l (k1 * 4) [iv v1.Owner, iv v1.Day, iv v1.Block.Size, (sl x3)]) (su3 R R R) so1))
 have c1 : (decide (((k1 : Nat) : Int) < ((a_a.length : Nat) : Int))) = false := ddf (by omega)
 have en1 := foe l1 hk1
 exact wcs (wcr (mv R R (mv R R (wlq (pln (rga r0) el_24 R) R (wlq (pls R R) R (wnt (wff R c1 (wcx (wqe (wqe (wbx (wjm _ x1l (Sum.inl.inj en1) (su1 R) so1))))))))))))
 intro e1 x2 hp
 obtain rfl : e1 = y1 := hp.symm
 refine wqt (wcr (mv R R (asg R R (wnt (wct ?_)))))
 obtain rfl := oi t0
 exact wq1 R R fun w hw => ⟨(x1, x2), R, hw.weak so1⟩

theorem c_laws_toBooking (w : World) (a_a : GBooking) {r : GBooking} (t0 : laws_toBooking a_a = some r) : Calls Tryz.prog 92 #[.agg #[.int .i64 a_a.Day, .int .i64 a_a.From, .int .i64 a_a.To, .int .i64 a_a.Sum]] w fun e w' => e = .returned (.agg #[.int .i64 r.Day, .int .i64 r.From, .int .i64 r.To, .int .i64 r.Sum]) ∧ SH w [] [] w' := by
 refine cwc (args := [_]) Tryz.func92 R Tryz.ntmps92 R ?_
 unfold laws_toBooking at t0
 refine wcr (wle (eo_box R R) R fun b1 => (wle (eal (cs := [iv 0, iv 0, iv 0, iv 0]) za_121) R fun b2 => (wnt (wcr (wle (eal (cs := [iv 0, iv 0, iv 0, iv 0]) za_121) R fun b3 => (wnt (wcr (wlq (pof fo_123_0 R) R (wlq (v := iv a_a.Day) (plx tk_3 pk2 R R) R (wlq (pof fo_121_0 R) R (wls (sbx (cs' := [iv a_a.Day, iv 0, iv 0, iv 0]) tk_3 pz R R R R R R R) (wnt (wcr (wlq (pof fo_123_1 R) R (wlq (v := iv a_a.From) (plx tk_3 pk2 R R) R (wlq (pof fo_121_1 R) R (wls (sbx (cs' := [iv a_a.Day, iv a_a.From, iv 0, iv 0]) tk_3 pz R R R R R R R) (wnt (wcr (wlq (pof fo_123_2 R) R (wlq (v := iv a_a.To) (plx tk_3 pk2 R R) R (wlq (pof fo_121_2 R) R (wls (sbx (cs' := [iv a_a.Day, iv a_a.From, iv a_a.To, iv 0]) tk_3 pz R R R R R R R) (wnt (wcr (wlq (pof fo_123_3 R) R (wlq (v := iv a_a.Sum) (plx tk_3 pk2 R R) R (wlq (pof fo_121_3 R) R (wls (sbx (cs' := [iv a_a.Day, iv a_a.From, iv a_a.To, iv a_a.Sum]) tk_3 pz R R R R R R R) (wnt (wcr (wlq (v := .agg #[iv a_a.Day, iv a_a.From, iv a_a.To, iv a_a.Sum]) (plb tk_121 pz R R R) R (wls (sbx (cs' := [iv a_a.Day, iv a_a.From, iv a_a.To, iv a_a.Sum]) tk_121 pk1 R R R R R R R) (wnt (wct ?_)))))))))))))))))))))))))))))))))))
 obtain rfl := oi t0
 exact wqc R tk_121 R pz R fun w hw => ⟨R, hw.weak zn⟩

theorem c_laws_toBookingS (w : World) (a_a : List GBooking) (v0a : Hd) (r0 : rdF w (dm w []) (sl v0a) a_a) {r : List GBooking} (t0 : laws_toBookingS a_a = some r) : Calls Tryz.prog 44 #[(sl v0a)] w fun e w' => ∃ x : Hd, e = .returned ((sl x)) ∧ SH w [] [ownF (sl x) r] w' := by
 refine cwc (args := [_]) Tryz.func44 R Tryz.ntmps44 R ?_
 unfold laws_toBookingS at t0
 refine wcr (asg R R (wnt (wcr (mv R R (wlq (pln (rga r0) el_25 R) R (gdO t0 fun g1 t0 => (wle (eo_make_ (n := a_a.length) ((GBooking.mk 0 0 0 0) : GBooking) mk_35 R R R g1 R) R fun x1 => (asg R R (wnt (wcs (wcr (asg R R (wnt (gdO t0 fun g2 t0 => (lpO_inv t0 fun y1 l1 t0 => (wj (J := List GBooking) (X := Unit) (fun z => y1 = z) (fun _ _ => [(3, (sl x1))]) (fun z _ => [ownF (sl x1) z]) ?_ ?_))))))))))))))))
 refine wcb (wcf (X := Unit) l1 (fun k1 s1 x1l => [(0, (sl v0a)), (3, (sl x1)), (4, iv ((k1 : Nat) : Int))]) (fun k1 s1 x1l => [ownF (sl x1) s1]) () (su3 R R R) so1 fun k1 s1 x1l hN1 l1 => ?_)
 by_cases hk1 : k1 < a_a.length
 refine fos l1 hk1 fun _ t1 l1 => ?_
 unfold laws_toBookingS_L1 at t1
 have c1 : (decide (((k1 : Nat) : Int) < ((a_a.length : Nat) : Int))) = true := ddt (by omega)
 refine wcs (wcr (mv R R (mv R R (wlq (pln (rga r0) el_25 R) R (wlq (pls R R) R (wnt (wft R c1 (wck (wqt (wcs (wcb (wcg (mv R R (mv R R (mv R R (mv R R (wlq (po_ixn (k := k1) (rga r0) el_25 R R hk1) R (wlq (v := .agg #[iv ((gx a_a k1).Day), iv ((gx a_a k1).From), iv ((gx a_a k1).To), iv ((gx a_a k1).Sum)]) (po_ldfs (rga r0) tk_123 R hk1 R R R) R (bdO t1 fun v1 hv1 t1 => (wlc (cz0 fa_92 R fun w hw => c_laws_toBooking w (gx a_a k1) hv1) R fun _ => (gdO t1 fun g3 t1 => (wlq (po_ixn (k := k1) (rgo pz) el_35 R R g3) R (wls (so_own (x' := v1) tk_121 pz R R R R R R g3 R) (wln (wqb (wqt (wcg (mv R R (wlq (po_inc R R (by omega)) R ?_)))))))))))))))))))))))))))))
 exact asg R R (wln (wq_rnd hk1 (stpN l1 t1) () (su3 R R R) so1))
 have c1 : (decide (((k1 : Nat) : Int) < ((a_a.length : Nat) : Int))) = false := ddf (by omega)
 have en1 := foe l1 hk1
 exact wcs (wcr (mv R R (mv R R (wlq (pln (rga r0) el_25 R) R (wlq (pls R R) R (wnt (wff R c1 (wcx (wqe (wqe (wbx (wjm _ () (Sum.inl.inj en1) (su1 R) so1))))))))))))
 intro e1 _ hp
 obtain rfl : e1 = y1 := hp.symm
 refine wqt (wcr (mv R R (asg R R (wnt (wct ?_)))))
 obtain rfl := oi t0
 exact wq1 R R fun w hw => ⟨x1, R, hw.weak so1⟩

theorem c_laws_toGuild (w : World) (a_a : GGuild) (v0a : Hd) (r0 : rdF w (dm w []) (sl v0a) a_a.Members) (v1a : Hd) (r1 : rdF w (dm w []) (sl v1a) a_a.Stock) (v2a : Hd) (u2a : List Value) (r2 : RdL w (dm w []) (sl v2a) u2a a_a.Entries) (v3a : Hd) (r3 : rdF w (dm w []) (sl v3a) a_a.Books) {r : GGuild} (t0 : laws_toGuild a_a = some r) : Calls Tryz.prog 10 #[.agg #[(sl v0a), (sl v1a), (sl v2a), (sl v3a), .int .i64 a_a.Round, .int .i64 a_a.Year]] w fun e w' => ∃ x : Hd × Hd × Hd × (List Value) × Hd, e = .returned (.agg #[(sl x.1), (sl x.2.1), (sl x.2.2.1), (sl x.2.2.2.2), .int .i64 r.Round, .int .i64 r.Year]) ∧ SH w [] [ownF (sl x.1) r.Members, ownF (sl x.2.1) r.Stock, own (sl x.2.2.1) x.2.2.2.1 r.Entries, ownF (sl x.2.2.2.2) r.Books] w' := by
 refine cwc (args := [_]) Tryz.func10 R Tryz.ntmps10 R ?_
 unfold laws_toGuild at t0
 refine wcr (wle (eo_box R R) R fun b1 => (wle (eal (cs := [(sl hn), (sl hn), (sl hn), (sl hn), iv 0, iv 0]) za_37) R fun b2 => (wnt (wcr (wle (eal (cs := [(sl hn), (sl hn), (sl hn), (sl hn), iv 0, iv 0]) za_37) R fun b3 => (wnt (wcr (wlq (pof fo_27_0 R) R (wlq (v := (sl v0a)) (plx tk_22 pk2 R R) R (bdO t0 fun v1 hv1 t0 => (wlc (cz1 fa_42 R fun w hw => c_laws_toMemberS w a_a.Members v0a (ra r0 hw) hv1) R fun x1 => (wlq (pof fo_37_0 R) R (wls (sbx (cs' := [(sl x1), (sl hn), (sl hn), (sl hn), iv 0, iv 0]) tk_33 pk1 R R R R R R R) (wnt (wcr (wlq (pof fo_27_1 R) R (wlq (v := (sl v1a)) (plx tk_23 pk3 R R) R (bdO t0 fun v2 hv2 t0 => (wlc (cz1 fa_31 R fun w hw => c_laws_toIntS w a_a.Stock v1a (ra r1 hw) hv2) R fun x2 => (wlq (pof fo_37_1 R) R (wls (sbx (cs' := [(sl x1), (sl x2), (sl hn), (sl hn), iv 0, iv 0]) tk_23 pk1 R R R R R R R) (wnt (wcr (wlq (pof fo_27_2 R) R (wlq (v := (sl v2a)) (plx tk_24 pk4 R R) R (bdO t0 fun v3 hv3 t0 => (wlc (cz1 fa_43 R fun w hw => c_laws_toEntryS w a_a.Entries v2a u2a (ra r2 hw) hv3) R fun x3 => (wlq (pof fo_37_2 R) R (wls (sbx (cs' := [(sl x1), (sl x2), (sl x3.1), (sl hn), iv 0, iv 0]) tk_34 pk1 R R R R R R R) (wnt (wcr (wlq (pof fo_27_3 R) R (wlq (v := (sl v3a)) (plx tk_25 pk5 R R) R (bdO t0 fun v4 hv4 t0 => (wlc (cz1 fa_44 R fun w hw => c_laws_toBookingS w a_a.Books v3a (ra r3 hw) hv4) R fun x4 => (wlq (pof fo_37_3 R) R (wls (sbx (cs' := [(sl x1), (sl x2), (sl x3.1), (sl x4), iv 0, iv 0]) tk_35 pk1 R R R R R R R) (wnt (wcr ?_)))))))))))))))))))))))))))))))))))))))
 refine wlq (pof fo_27_4 R) R (wlq (v := iv a_a.Round) (plx tk_3 pk6 R R) R (wlq (pof fo_37_4 R) R (wls (sbx (cs' := [(sl x1), (sl x2), (sl x3.1), (sl x4), iv a_a.Round, iv 0]) tk_3 pz R R R R R R R) (wnt (wcr (wlq (pof fo_27_5 R) R (wlq (v := iv a_a.Year) (plx tk_3 pk6 R R) R (wlq (pof fo_37_5 R) R (wls (sbx (cs' := [(sl x1), (sl x2), (sl x3.1), (sl x4), iv a_a.Round, iv a_a.Year]) tk_3 pz R R R R R R R) (wnt (wcr (wlq (v := .agg #[(sl x1), (sl x2), (sl x3.1), (sl x4), iv a_a.Round, iv a_a.Year]) (plb tk_37 pz R R R) R (wls (sbx (cs' := [(sl x1), (sl x2), (sl x3.1), (sl x4), iv a_a.Round, iv a_a.Year]) tk_37 pk5 R R R R R R R) (wnt (wct ?_)))))))))))))))
 obtain rfl := oi t0
 exact wqc R tk_37 R pz R fun w hw => ⟨(x1, x2, x3.1, x3.2, x4), R, hw.weak (zc pk5 (zc pk4 (zc pk3 (zc pk2 zn))))⟩

theorem c_laws_toAct (w : World) (a_a : GAct) {r : GAct} (t0 : laws_toAct a_a = some r) : Calls Tryz.prog 19 #[.agg #[.int .i64 a_a.Kind, .int .i64 a_a.A, .int .i64 a_a.B]] w fun e w' => e = .returned (.agg #[.int .i64 r.Kind, .int .i64 r.A, .int .i64 r.B]) ∧ SH w [] [] w' := by
 refine cwc (args := [_]) Tryz.func19 R Tryz.ntmps19 R ?_
 unfold laws_toAct at t0
 refine wcr (wle (eo_box R R) R fun b1 => (wle (eal (cs := [iv 0, iv 0, iv 0]) za_54) R fun b2 => (wnt (wcr (wle (eal (cs := [iv 0, iv 0, iv 0]) za_54) R fun b3 => (wnt (wcr (wlq (pof fo_51_0 R) R (wlq (v := iv a_a.Kind) (plx tk_3 pk2 R R) R (wlq (pof fo_54_0 R) R (wls (sbx (cs' := [iv a_a.Kind, iv 0, iv 0]) tk_3 pz R R R R R R R) (wnt (wcr (wlq (pof fo_51_1 R) R (wlq (v := iv a_a.A) (plx tk_3 pk2 R R) R (wlq (pof fo_54_1 R) R (wls (sbx (cs' := [iv a_a.Kind, iv a_a.A, iv 0]) tk_3 pz R R R R R R R) (wnt (wcr (wlq (pof fo_51_2 R) R (wlq (v := iv a_a.B) (plx tk_3 pk2 R R) R (wlq (pof fo_54_2 R) R (wls (sbx (cs' := [iv a_a.Kind, iv a_a.A, iv a_a.B]) tk_3 pz R R R R R R R) (wnt (wcr (wlq (v := .agg #[iv a_a.Kind, iv a_a.A, iv a_a.B]) (plb tk_54 pz R R R) R (wls (sbx (cs' := [iv a_a.Kind, iv a_a.A, iv a_a.B]) tk_54 pk1 R R R R R R R) (wnt (wct ?_)))))))))))))))))))))))))))))
 obtain rfl := oi t0
 exact wqc R tk_54 R pz R fun w hw => ⟨R, hw.weak zn⟩

theorem c_spec_l03Copy (w : World) (a_b : GBlock) (v0a : Hd) (r0 : rdF w (dm w []) (sl v0a) a_b.Cells) {r : GBlock} (t0 : spec_l03Copy a_b = some r) : Calls Tryz.prog 39 #[.agg #[.int .i64 a_b.Size, (sl v0a)]] w fun e w' => ∃ x : Hd, e = .returned (.agg #[.int .i64 r.Size, (sl x)]) ∧ SH w [] [ownF (sl x) r.Cells] w' := by
 refine cwc (args := [_]) Tryz.func39 R Tryz.ntmps39 R ?_
 unfold spec_l03Copy at t0
 refine wcr (wle (eo_box R R) R fun b1 => (wle (eal (cs := [iv 0, (sl hn)]) za_43) R fun b2 => (wnt (wcs (wcd [box b2 [iv 0, (sl hn)], box b1 [iv a_b.Size, (sl v0a)]] 7 mixed (aq 0 R (pof fo_43_0 R) so2 R (aq (v := iv a_b.Size) 1 R (plx tk_3 pk1 R R) so2 R (aq 3 R (pof fo_43_1 R) so2 R (aq (v := (sl v0a)) 4 R (plx tk_41 pk1 R R) so2 R (a1 2 (wse R (ebs R sb_41_0) (fun _ => (zt (zc pk1 (zc pk1 zn)))) R fun b3 => (a1 5 (gdO t0 fun g1 t0 => (wse R (eo_append (xs := ([] : List GCell)) (ys := a_b.Cells) ak_41 (pbo pz (n := 0) (xs := ([] : List GCell)) R R (by unfold maxLen; omega)) R R (slin_rd fun _ g => Rg.on (rga r0) g) g1) (fun _ => (zt (zc pk1 (zc pk1 zn)))) R fun x1 => ?_))))))))))))))
 refine aq 6 R (po_build R (bd_43_0_1 a_b.Size x1)) (zc pk1 (zc pk1 zn)) R (a1 7 (ws_skipop R (sbx (cs' := [iv a_b.Size, (sl x1)]) tk_43 pk1 R R R R R R R) (sts_past (by kernel_rfl)) ?_))
 refine ae (wqt (wct ?_))
 obtain rfl := oi t0
 exact wqc R tk_43 R pz R fun w hw => ⟨x1, R, hw.weak (zc pk1 zn)⟩

theorem c_spec_l38Copy (w : World) (a_g : GGuild) (v0a : Hd) (r0 : rdF w (dm w []) (sl v0a) a_g.Members) (v1a : Hd) (r1 : rdF w (dm w []) (sl v1a) a_g.Stock) (v2a : Hd) (u2a : List Value) (r2 : RdL w (dm w []) (sl v2a) u2a a_g.Entries) (v3a : Hd) (r3 : rdF w (dm w []) (sl v3a) a_g.Books) {r : GGuild} (t0 : spec_l38Copy a_g = some r) : Calls Tryz.prog 38 #[.agg #[(sl v0a), (sl v1a), (sl v2a), (sl v3a), .int .i64 a_g.Round, .int .i64 a_g.Year]] w fun e w' => ∃ x : Hd × Hd × Hd × (List Value) × Hd, e = .returned (.agg #[(sl x.1), (sl x.2.1), (sl x.2.2.1), (sl x.2.2.2.2), .int .i64 r.Round, .int .i64 r.Year]) ∧ SH w [] [ownF (sl x.1) r.Members, ownF (sl x.2.1) r.Stock, own (sl x.2.2.1) x.2.2.2.1 r.Entries, ownF (sl x.2.2.2.2) r.Books] w' := by
 refine cwc (args := [_]) Tryz.func38 R Tryz.ntmps38 R ?_
 unfold spec_l38Copy at t0
 refine wcr (wle (eo_box R R) R fun b1 => (wle (eal (cs := [(sl hn), (sl hn), (sl hn), (sl hn), iv 0, iv 0]) za_37) R fun b2 => (wnt (wcs (gdO t0 fun g1 t0 => (gdO t0 fun g2 t0 => (gdO t0 fun g3 t0 => (wcj (X := Nat × Hd × Hd × Hd) (fun _ => True) (fun z => [(1, ptr b1 0), (2, ptr b2 0), (3, ptr z.1 0)]) (fun z => [box z.1 [(sl z.2.1), (sl z.2.2.1), (sl hn), (sl z.2.2.2), iv a_g.Round, iv a_g.Year], ownF (sl z.2.2.2) (([] : List GBooking) ++ a_g.Books), ownF (sl z.2.2.1) (([] : List Int) ++ a_g.Stock), ownF (sl z.2.1) (([] : List GMember) ++ a_g.Members), box b2 [(sl hn), (sl hn), (sl hn), (sl hn), iv 0, iv 0], box b1 [(sl v0a), (sl v1a), (sl v2a), (sl v3a), iv a_g.Round, iv a_g.Year]]) ?_ ?_))))))))
 refine wcd [box b2 [(sl hn), (sl hn), (sl hn), (sl hn), iv 0, iv 0], box b1 [(sl v0a), (sl v1a), (sl v2a), (sl v3a), iv a_g.Round, iv a_g.Year]] 18 mixed (wa_dag [⟨9, #[false, true, true, false, false, true, true, false, false, true, true, false, true, true, true, true, false, false, false], Unit, fun _ => [(1, ptr b1 0), (2, ptr b2 0), (8, (sl v0a)), (12, (sl v1a)), (16, (sl v3a)), (19, iv a_g.Round), (21, iv a_g.Year)], fun _ => [box b2 [(sl hn), (sl hn), (sl hn), (sl hn), iv 0, iv 0], box b1 [(sl v0a), (sl v1a), (sl v2a), (sl v3a), iv a_g.Round, iv a_g.Year]]⟩, ⟨8, #[true, true, true, false, false, true, true, false, false, true, true, false, true, true, true, true, false, false, false], Nat, fun z => [(1, ptr b1 0), (2, ptr b2 0), (6, (sl (⟨some ⟨z, 0, none⟩, 0, 0⟩ : Hd))), (8, (sl v0a)), (12, (sl v1a)), (16, (sl v3a)), (19, iv a_g.Round), (21, iv a_g.Year)], fun z => [box z [], box b2 [(sl hn), (sl hn), (sl hn), (sl hn), iv 0, iv 0], box b1 [(sl v0a), (sl v1a), (sl v2a), (sl v3a), iv a_g.Round, iv a_g.Year]]⟩, ⟨8, #[false, true, true, false, true, true, true, false, false, true, true, false, true, true, true, true, false, false, false], Nat, fun z => [(1, ptr b1 0), (2, ptr b2 0), (8, (sl v0a)), (10, (sl (⟨some ⟨z, 0, none⟩, 0, 0⟩ : Hd))), (12, (sl v1a)), (16, (sl v3a)), (19, iv a_g.Round), (21, iv a_g.Year)], fun z => [box z [], box b2 [(sl hn), (sl hn), (sl hn), (sl hn), iv 0, iv 0], box b1 [(sl v0a), (sl v1a), (sl v2a), (sl v3a), iv a_g.Round, iv a_g.Year]]⟩, ⟨8, #[false, true, true, false, false, true, true, false, true, true, true, false, true, true, true, true, false, false, false], Nat, fun z => [(1, ptr b1 0), (2, ptr b2 0), (8, (sl v0a)), (12, (sl v1a)), (14, (sl (⟨some ⟨z, 0, none⟩, 0, 0⟩ : Hd))), (16, (sl v3a)), (19, iv a_g.Round), (21, iv a_g.Year)], fun z => [box z [], box b2 [(sl hn), (sl hn), (sl hn), (sl hn), iv 0, iv 0], box b1 [(sl v0a), (sl v1a), (sl v2a), (sl v3a), iv a_g.Round, iv a_g.Year]]⟩, ⟨8, #[false, true, true, false, false, true, true, false, false, true, true, false, true, true, true, true, false, true, false], Nat, fun z => [(1, ptr b1 0), (2, ptr b2 0), (3, ptr z 0), (8, (sl v0a)), (12, (sl v1a)), (16, (sl v3a)), (19, iv a_g.Round), (21, iv a_g.Year)], fun z => [box z [(sl hn), (sl hn), (sl hn), (sl hn), iv 0, iv 0], box b2 [(sl hn), (sl hn), (sl hn), (sl hn), iv 0, iv 0], box b1 [(sl v0a), (sl v1a), (sl v2a), (sl v3a), iv a_g.Round, iv a_g.Year]]⟩, ⟨7, #[true, true, true, true, false, true, true, false, false, true, true, false, true, true, true, true, false, false, false], Hd, fun z => [(1, ptr b1 0), (2, ptr b2 0), (9, (sl z)), (12, (sl v1a)), (16, (sl v3a)), (19, iv a_g.Round), (21, iv a_g.Year)], fun z => [ownF (sl z) (([] : List GMember) ++ a_g.Members), box b2 [(sl hn), (sl hn), (sl hn), (sl hn), iv 0, iv 0], box b1 [(sl v0a), (sl v1a), (sl v2a), (sl v3a), iv a_g.Round, iv a_g.Year]]⟩, ⟨7, #[true, true, true, false, true, true, true, false, false, true, true, false, true, true, true, true, false, false, false], Nat × Nat, fun z => [(1, ptr b1 0), (2, ptr b2 0), (6, (sl (⟨some ⟨z.1, 0, none⟩, 0, 0⟩ : Hd))), (8, (sl v0a)), (10, (sl (⟨some ⟨z.2, 0, none⟩, 0, 0⟩ : Hd))), (12, (sl v1a)), (16, (sl v3a)), (19, iv a_g.Round), (21, iv a_g.Year)], fun z => [box z.2 [], box z.1 [], box b2 [(sl hn), (sl hn), (sl hn), (sl hn), iv 0, iv 0], box b1 [(sl v0a), (sl v1a), (sl v2a), (sl v3a), iv a_g.Round, iv a_g.Year]]⟩, ⟨7, #[true, true, true, false, false, true, true, false, true, true, true, false, true, true, true, true, false, false, false], Nat × Nat, fun z => [(1, ptr b1 0), (2, ptr b2 0), (6, (sl (⟨some ⟨z.1, 0, none⟩, 0, 0⟩ : Hd))), (8, (sl v0a)), (12, (sl v1a)), (14, (sl (⟨some ⟨z.2, 0, none⟩, 0, 0⟩ : Hd))), (16, (sl v3a)), (19, iv a_g.Round), (21, iv a_g.Year)], fun z => [box z.2 [], box z.1 [], box b2 [(sl hn), (sl hn), (sl hn), (sl hn), iv 0, iv 0], box b1 [(sl v0a), (sl v1a), (sl v2a), (sl v3a), iv a_g.Round, iv a_g.Year]]⟩, ⟨7, #[true, true, true, false, false, true, true, false, false, true, true, false, true, true, true, true, false, true, false], Nat × Nat, fun z => [(1, ptr b1 0), (2, ptr b2 0), (3, ptr z.1 0), (6, (sl (⟨some ⟨z.2, 0, none⟩, 0, 0⟩ : Hd))), (8, (sl v0a)), (12, (sl v1a)), (16, (sl v3a)), (19, iv a_g.Round), (21, iv a_g.Year)], fun z => [box z.1 [(sl hn), (sl hn), (sl hn), (sl hn), iv 0, iv 0], box z.2 [], box b2 [(sl hn), (sl hn), (sl hn), (sl hn), iv 0, iv 0], box b1 [(sl v0a), (sl v1a), (sl v2a), (sl v3a), iv a_g.Round, iv a_g.Year]]⟩, ⟨7, #[false, true, true, false, true, true, true, false, true, true, true, false, true, true, true, true, false, false, false], Nat × Nat, fun z => [(1, ptr b1 0), (2, ptr b2 0), (8, (sl v0a)), (10, (sl (⟨some ⟨z.1, 0, none⟩, 0, 0⟩ : Hd))), (12, (sl v1a)), (14, (sl (⟨some ⟨z.2, 0, none⟩, 0, 0⟩ : Hd))), (16, (sl v3a)), (19, iv a_g.Round), (21, iv a_g.Year)], fun z => [box z.2 [], box z.1 [], box b2 [(sl hn), (sl hn), (sl hn), (sl hn), iv 0, iv 0], box b1 [(sl v0a), (sl v1a), (sl v2a), (sl v3a), iv a_g.Round, iv a_g.Year]]⟩, ⟨7, #[false, true, true, false, true, true, true, false, false, true, true, false, true, true, true, true, false, true, false], Nat × Nat, fun z => [(1, ptr b1 0), (2, ptr b2 0), (3, ptr z.1 0), (8, (sl v0a)), (10, (sl (⟨some ⟨z.2, 0, none⟩, 0, 0⟩ : Hd))), (12, (sl v1a)), (16, (sl v3a)), (19, iv a_g.Round), (21, iv a_g.Year)], fun z => [box z.1 [(sl hn), (sl hn), (sl hn), (sl hn), iv 0, iv 0], box z.2 [], box b2 [(sl hn), (sl hn), (sl hn), (sl hn), iv 0, iv 0], box b1 [(sl v0a), (sl v1a), (sl v2a), (sl v3a), iv a_g.Round, iv a_g.Year]]⟩, ⟨7, #[false, true, true, false, false, true, true, false, true, true, true, false, true, true, true, true, false, true, false], Nat × Nat, fun z => [(1, ptr b1 0), (2, ptr b2 0), (3, ptr z.1 0), (8, (sl v0a)), (12, (sl v1a)), (14, (sl (⟨some ⟨z.2, 0, none⟩, 0, 0⟩ : Hd))), (16, (sl v3a)), (19, iv a_g.Round), (21, iv a_g.Year)], fun z => [box z.1 [(sl hn), (sl hn), (sl hn), (sl hn), iv 0, iv 0], box z.2 [], box b2 [(sl hn), (sl hn), (sl hn), (sl hn), iv 0, iv 0], box b1 [(sl v0a), (sl v1a), (sl v2a), (sl v3a), iv a_g.Round, iv a_g.Year]]⟩, ⟨6, #[true, true, true, true, true, true, true, false, false, true, true, false, true, true, true, true, false, false, false], Hd × Nat, fun z => [(1, ptr b1 0), (2, ptr b2 0), (9, (sl z.1)), (10, (sl (⟨some ⟨z.2, 0, none⟩, 0, 0⟩ : Hd))), (12, (sl v1a)), (16, (sl v3a)), (19, iv a_g.Round), (21, iv a_g.Year)], fun z => [box z.2 [], ownF (sl z.1) (([] : List GMember) ++ a_g.Members), box b2 [(sl hn), (sl hn), (sl hn), (sl hn), iv 0, iv 0], box b1 [(sl v0a), (sl v1a), (sl v2a), (sl v3a), iv a_g.Round, iv a_g.Year]]⟩, ⟨6, #[true, true, true, true, false, true, true, false, true, true, true, false, true, true, true, true, false, false, false], Hd × Nat, fun z => [(1, ptr b1 0), (2, ptr b2 0), (9, (sl z.1)), (12, (sl v1a)), (14, (sl (⟨some ⟨z.2, 0, none⟩, 0, 0⟩ : Hd))), (16, (sl v3a)), (19, iv a_g.Round), (21, iv a_g.Year)], fun z => [box z.2 [], ownF (sl z.1) (([] : List GMember) ++ a_g.Members), box b2 [(sl hn), (sl hn), (sl hn), (sl hn), iv 0, iv 0], box b1 [(sl v0a), (sl v1a), (sl v2a), (sl v3a), iv a_g.Round, iv a_g.Year]]⟩, ⟨6, #[true, true, true, true, false, true, true, false, false, true, true, false, true, true, true, true, false, true, false], Nat × Hd, fun z => [(1, ptr b1 0), (2, ptr b2 0), (3, ptr z.1 0), (9, (sl z.2)), (12, (sl v1a)), (16, (sl v3a)), (19, iv a_g.Round), (21, iv a_g.Year)], fun z => [box z.1 [(sl hn), (sl hn), (sl hn), (sl hn), iv 0, iv 0], ownF (sl z.2) (([] : List GMember) ++ a_g.Members), box b2 [(sl hn), (sl hn), (sl hn), (sl hn), iv 0, iv 0], box b1 [(sl v0a), (sl v1a), (sl v2a), (sl v3a), iv a_g.Round, iv a_g.Year]]⟩, ⟨6, #[true, true, true, false, true, true, true, false, true, true, true, false, true, true, true, true, false, false, false], Nat × Nat × Nat, fun z => [(1, ptr b1 0), (2, ptr b2 0), (6, (sl (⟨some ⟨z.1, 0, none⟩, 0, 0⟩ : Hd))), (8, (sl v0a)), (10, (sl (⟨some ⟨z.2.1, 0, none⟩, 0, 0⟩ : Hd))), (12, (sl v1a)), (14, (sl (⟨some ⟨z.2.2, 0, none⟩, 0, 0⟩ : Hd))), (16, (sl v3a)), (19, iv a_g.Round), (21, iv a_g.Year)], fun z => [box z.2.2 [], box z.2.1 [], box z.1 [], box b2 [(sl hn), (sl hn), (sl hn), (sl hn), iv 0, iv 0], box b1 [(sl v0a), (sl v1a), (sl v2a), (sl v3a), iv a_g.Round, iv a_g.Year]]⟩, ⟨6, #[true, true, true, false, true, true, true, false, false, true, true, false, true, true, true, true, false, true, false], Nat × Nat × Nat, fun z => [(1, ptr b1 0), (2, ptr b2 0), (3, ptr z.1 0), (6, (sl (⟨some ⟨z.2.1, 0, none⟩, 0, 0⟩ : Hd))), (8, (sl v0a)), (10, (sl (⟨some ⟨z.2.2, 0, none⟩, 0, 0⟩ : Hd))), (12, (sl v1a)), (16, (sl v3a)), (19, iv a_g.Round), (21, iv a_g.Year)], fun z => [box z.1 [(sl hn), (sl hn), (sl hn), (sl hn), iv 0, iv 0], box z.2.2 [], box z.2.1 [], box b2 [(sl hn), (sl hn), (sl hn), (sl hn), iv 0, iv 0], box b1 [(sl v0a), (sl v1a), (sl v2a), (sl v3a), iv a_g.Round, iv a_g.Year]]⟩, ⟨6, #[true, true, true, false, false, true, true, false, true, true, true, false, true, true, true, true, false, true, false], Nat × Nat × Nat, fun z => [(1, ptr b1 0), (2, ptr b2 0), (3, ptr z.1 0), (6, (sl (⟨some ⟨z.2.1, 0, none⟩, 0, 0⟩ : Hd))), (8, (sl v0a)), (12, (sl v1a)), (14, (sl (⟨some ⟨z.2.2, 0, none⟩, 0, 0⟩ : Hd))), (16, (sl v3a)), (19, iv a_g.Round), (21, iv a_g.Year)], fun z => [box z.1 [(sl hn), (sl hn), (sl hn), (sl hn), iv 0, iv 0], box z.2.2 [], box z.2.1 [], box b2 [(sl hn), (sl hn), (sl hn), (sl hn), iv 0, iv 0], box b1 [(sl v0a), (sl v1a), (sl v2a), (sl v3a), iv a_g.Round, iv a_g.Year]]⟩, ⟨6, #[false, true, true, false, true, true, true, false, true, true, true, false, true, true, true, true, false, true, false], Nat × Nat × Nat, fun z => [(1, ptr b1 0), (2, ptr b2 0), (3, ptr z.1 0), (8, (sl v0a)), (10, (sl (⟨some ⟨z.2.1, 0, none⟩, 0, 0⟩ : Hd))), (12, (sl v1a)), (14, (sl (⟨some ⟨z.2.2, 0, none⟩, 0, 0⟩ : Hd))), (16, (sl v3a)), (19, iv a_g.Round), (21, iv a_g.Year)], fun z => [box z.1 [(sl hn), (sl hn), (sl hn), (sl hn), iv 0, iv 0], box z.2.2 [], box z.2.1 [], box b2 [(sl hn), (sl hn), (sl hn), (sl hn), iv 0, iv 0], box b1 [(sl v0a), (sl v1a), (sl v2a), (sl v3a), iv a_g.Round, iv a_g.Year]]⟩, ⟨5, #[true, true, true, true, true, true, true, true, false, true, true, false, true, true, true, true, false, false, false], Hd × Hd, fun z => [(1, ptr b1 0), (2, ptr b2 0), (9, (sl z.1)), (13, (sl z.2)), (16, (sl v3a)), (19, iv a_g.Round), (21, iv a_g.Year)], fun z => [ownF (sl z.2) (([] : List Int) ++ a_g.Stock), ownF (sl z.1) (([] : List GMember) ++ a_g.Members), box b2 [(sl hn), (sl hn), (sl hn), (sl hn), iv 0, iv 0], box b1 [(sl v0a), (sl v1a), (sl v2a), (sl v3a), iv a_g.Round, iv a_g.Year]]⟩, ⟨5, #[true, true, true, true, true, true, true, false, true, true, true, false, true, true, true, true, false, false, false], Hd × Nat × Nat, fun z => [(1, ptr b1 0), (2, ptr b2 0), (9, (sl z.1)), (10, (sl (⟨some ⟨z.2.1, 0, none⟩, 0, 0⟩ : Hd))), (12, (sl v1a)), (14, (sl (⟨some ⟨z.2.2, 0, none⟩, 0, 0⟩ : Hd))), (16, (sl v3a)), (19, iv a_g.Round), (21, iv a_g.Year)], fun z => [box z.2.2 [], box z.2.1 [], ownF (sl z.1) (([] : List GMember) ++ a_g.Members), box b2 [(sl hn), (sl hn), (sl hn), (sl hn), iv 0, iv 0], box b1 [(sl v0a), (sl v1a), (sl v2a), (sl v3a), iv a_g.Round, iv a_g.Year]]⟩, ⟨5, #[true, true, true, true, true, true, true, false, false, true, true, false, true, true, true, true, false, true, false], Nat × Hd × Nat, fun z => [(1, ptr b1 0), (2, ptr b2 0), (3, ptr z.1 0), (9, (sl z.2.1)), (10, (sl (⟨some ⟨z.2.2, 0, none⟩, 0, 0⟩ : Hd))), (12, (sl v1a)), (16, (sl v3a)), (19, iv a_g.Round), (21, iv a_g.Year)], fun z => [box z.1 [(sl hn), (sl hn), (sl hn), (sl hn), iv 0, iv 0], box z.2.2 [], ownF (sl z.2.1) (([] : List GMember) ++ a_g.Members), box b2 [(sl hn), (sl hn), (sl hn), (sl hn), iv 0, iv 0], box b1 [(sl v0a), (sl v1a), (sl v2a), (sl v3a), iv a_g.Round, iv a_g.Year]]⟩, ⟨5, #[true, true, true, true, false, true, true, false, true, true, true, false, true, true, true, true, false, true, false], Nat × Hd × Nat, fun z => [(1, ptr b1 0), (2, ptr b2 0), (3, ptr z.1 0), (9, (sl z.2.1)), (12, (sl v1a)), (14, (sl (⟨some ⟨z.2.2, 0, none⟩, 0, 0⟩ : Hd))), (16, (sl v3a)), (19, iv a_g.Round), (21, iv a_g.Year)], fun z => [box z.1 [(sl hn), (sl hn), (sl hn), (sl hn), iv 0, iv 0], box z.2.2 [], ownF (sl z.2.1) (([] : List GMember) ++ a_g.Members), box b2 [(sl hn), (sl hn), (sl hn), (sl hn), iv 0, iv 0], box b1 [(sl v0a), (sl v1a), (sl v2a), (sl v3a), iv a_g.Round, iv a_g.Year]]⟩, ⟨5, #[true, true, true, false, true, true, true, false, true, true, true, false, true, true, true, true, false, true, false], Nat × Nat × Nat × Nat, fun z => [(1, ptr b1 0), (2, ptr b2 0), (3, ptr z.1 0), (6, (sl (⟨some ⟨z.2.1, 0, none⟩, 0, 0⟩ : Hd))), (8, (sl v0a)), (10, (sl (⟨some ⟨z.2.2.1, 0, none⟩, 0, 0⟩ : Hd))), (12, (sl v1a)), (14, (sl (⟨some ⟨z.2.2.2, 0, none⟩, 0, 0⟩ : Hd))), (16, (sl v3a)), (19, iv a_g.Round), (21, iv a_g.Year)], fun z => [box z.1 [(sl hn), (sl hn), (sl hn), (sl hn), iv 0, iv 0], box z.2.2.2 [], box z.2.2.1 [], box z.2.1 [], box b2 [(sl hn), (sl hn), (sl hn), (sl hn), iv 0, iv 0], box b1 [(sl v0a), (sl v1a), (sl v2a), (sl v3a), iv a_g.Round, iv a_g.Year]]⟩, ⟨4, #[true, true, true, true, true, true, true, true, true, true, true, false, true, true, true, true, false, false, false], Hd × Hd × Nat, fun z => [(1, ptr b1 0), (2, ptr b2 0), (9, (sl z.1)), (13, (sl z.2.1)), (14, (sl (⟨some ⟨z.2.2, 0, none⟩, 0, 0⟩ : Hd))), (16, (sl v3a)), (19, iv a_g.Round), (21, iv a_g.Year)], fun z => [box z.2.2 [], ownF (sl z.2.1) (([] : List Int) ++ a_g.Stock), ownF (sl z.1) (([] : List GMember) ++ a_g.Members), box b2 [(sl hn), (sl hn), (sl hn), (sl hn), iv 0, iv 0], box b1 [(sl v0a), (sl v1a), (sl v2a), (sl v3a), iv a_g.Round, iv a_g.Year]]⟩, ⟨4, #[true, true, true, true, true, true, true, true, false, true, true, false, true, true, true, true, false, true, false], Nat × Hd × Hd, fun z => [(1, ptr b1 0), (2, ptr b2 0), (3, ptr z.1 0), (9, (sl z.2.1)), (13, (sl z.2.2)), (16, (sl v3a)), (19, iv a_g.Round), (21, iv a_g.Year)], fun z => [box z.1 [(sl hn), (sl hn), (sl hn), (sl hn), iv 0, iv 0], ownF (sl z.2.2) (([] : List Int) ++ a_g.Stock), ownF (sl z.2.1) (([] : List GMember) ++ a_g.Members), box b2 [(sl hn), (sl hn), (sl hn), (sl hn), iv 0, iv 0], box b1 [(sl v0a), (sl v1a), (sl v2a), (sl v3a), iv a_g.Round, iv a_g.Year]]⟩, ⟨4, #[true, true, true, true, true, true, true, false, true, true, true, false, true, true, true, true, false, true, false], Nat × Hd × Nat × Nat, fun z => [(1, ptr b1 0), (2, ptr b2 0), (3, ptr z.1 0), (9, (sl z.2.1)), (10, (sl (⟨some ⟨z.2.2.1, 0, none⟩, 0, 0⟩ : Hd))), (12, (sl v1a)), (14, (sl (⟨some ⟨z.2.2.2, 0, none⟩, 0, 0⟩ : Hd))), (16, (sl v3a)), (19, iv a_g.Round), (21, iv a_g.Year)], fun z => [box z.1 [(sl hn), (sl hn), (sl hn), (sl hn), iv 0, iv 0], box z.2.2.2 [], box z.2.2.1 [], ownF (sl z.2.1) (([] : List GMember) ++ a_g.Members), box b2 [(sl hn), (sl hn), (sl hn), (sl hn), iv 0, iv 0], box b1 [(sl v0a), (sl v1a), (sl v2a), (sl v3a), iv a_g.Round, iv a_g.Year]]⟩, ⟨2, #[true, true, true, true, true, true, true, true, true, true, true, true, true, true, true, true, true, false, false], Hd × Hd × Hd, fun z => [(1, ptr b1 0), (2, ptr b2 0), (22, .agg #[(sl z.1), (sl z.2.1), (sl hn), (sl z.2.2), iv a_g.Round, iv a_g.Year])], fun z => [ownF (sl z.2.2) (([] : List GBooking) ++ a_g.Books), ownF (sl z.2.1) (([] : List Int) ++ a_g.Stock), ownF (sl z.1) (([] : List GMember) ++ a_g.Members), box b2 [(sl hn), (sl hn), (sl hn), (sl hn), iv 0, iv 0], box b1 [(sl v0a), (sl v1a), (sl v2a), (sl v3a), iv a_g.Round, iv a_g.Year]]⟩, ⟨3, #[true, true, true, true, true, true, true, true, true, true, true, false, true, true, true, true, false, true, false], Nat × Hd × Hd × Nat, fun z => [(1, ptr b1 0), (2, ptr b2 0), (3, ptr z.1 0), (9, (sl z.2.1)), (13, (sl z.2.2.1)), (14, (sl (⟨some ⟨z.2.2.2, 0, none⟩, 0, 0⟩ : Hd))), (16, (sl v3a)), (19, iv a_g.Round), (21, iv a_g.Year)], fun z => [box z.1 [(sl hn), (sl hn), (sl hn), (sl hn), iv 0, iv 0], box z.2.2.2 [], ownF (sl z.2.2.1) (([] : List Int) ++ a_g.Stock), ownF (sl z.2.1) (([] : List GMember) ++ a_g.Members), box b2 [(sl hn), (sl hn), (sl hn), (sl hn), iv 0, iv 0], box b1 [(sl v0a), (sl v1a), (sl v2a), (sl v3a), iv a_g.Round, iv a_g.Year]]⟩, ⟨1, #[true, true, true, true, true, true, true, true, true, true, true, true, true, true, true, true, true, true, false], Nat × Hd × Hd × Hd, fun z => [(1, ptr b1 0), (2, ptr b2 0), (3, ptr z.1 0), (22, .agg #[(sl z.2.1), (sl z.2.2.1), (sl hn), (sl z.2.2.2), iv a_g.Round, iv a_g.Year])], fun z => [box z.1 [(sl hn), (sl hn), (sl hn), (sl hn), iv 0, iv 0], ownF (sl z.2.2.2) (([] : List GBooking) ++ a_g.Books), ownF (sl z.2.2.1) (([] : List Int) ++ a_g.Stock), ownF (sl z.2.1) (([] : List GMember) ++ a_g.Members), box b2 [(sl hn), (sl hn), (sl hn), (sl hn), iv 0, iv 0], box b1 [(sl v0a), (sl v1a), (sl v2a), (sl v3a), iv a_g.Round, iv a_g.Year]]⟩] ?_ fun H => ?_)
 refine List.forall_mem_cons.2 ⟨fun H => ?_, ?_⟩
 intro _
 dsimp only
 refine wa_4 (i := 0) (j := 4) (k := 8) (m := 17) (by kernel_rfl) ?_ ?_ ?_ ?_
 exact wse R (ebs R sb_33_0) (fun _ => (zt (zc pk1 (zc pk1 zn)))) R fun b0o => waj H 1 R (nl R) b0o R R (su8 R R R R R R R R) so3
 exact wse R (ebs R sb_23_0) (fun _ => (zt (zc pk1 (zc pk1 zn)))) R fun b4o => waj H 2 R (nl R) b4o R R (su8 R R R R R R R R) so3
 exact wse R (ebs R sb_35_0) (fun _ => (zt (zc pk1 (zc pk1 zn)))) R fun b8o => waj H 3 R (nl R) b8o R R (su8 R R R R R R R R) so3
 exact wse R (eal (cs := [(sl hn), (sl hn), (sl hn), (sl hn), iv 0, iv 0]) za_37) (fun _ => (zt (zc pk1 (zc pk1 zn)))) R fun b17o => waj H 4 R (nl R) b17o R R (su8 R R R R R R R R) so3
 refine List.forall_mem_cons.2 ⟨fun H => ?_, ?_⟩
 intro z
 dsimp only
 refine wa_4 (i := 3) (j := 4) (k := 8) (m := 17) (by kernel_rfl) ?_ ?_ ?_ ?_
 refine wse R (eo_append (xs := ([] : List GMember)) (ys := a_g.Members) ak_33 (pbo pz (n := 0) (xs := ([] : List GMember)) R R (by unfold maxLen; omega)) R R (slin_rd fun _ g => Rg.on (rga r0) g) g1) (fun _ => (zt (zc pk1 (zc pk1 zn)))) R fun x3o => ?_
 exact waj H 5 R (nl R) x3o R R (su7 R R R R R R R) so3
 exact wse R (ebs R sb_23_0) (fun _ => (zt (zc pk2 (zc pk2 zn)))) R fun b4o => waj H 6 R (nl R) (z, b4o) R R (su9 R R R R R R R R R) so4
 exact wse R (ebs R sb_35_0) (fun _ => (zt (zc pk2 (zc pk2 zn)))) R fun b8o => waj H 7 R (nl R) (z, b8o) R R (su9 R R R R R R R R R) so4
 exact wse R (eal (cs := [(sl hn), (sl hn), (sl hn), (sl hn), iv 0, iv 0]) za_37) (fun _ => (zt (zc pk2 (zc pk2 zn)))) R fun b17o => waj H 8 R (nl R) (b17o, z) R R (su9 R R R R R R R R R) so4
 refine List.forall_mem_cons.2 ⟨fun H => ?_, ?_⟩
 intro z
 dsimp only
 refine wa_3 (i := 0) (j := 8) (k := 17) (by kernel_rfl) ?_ ?_ ?_
 exact wse R (ebs R sb_33_0) (fun _ => (zt (zc pk2 (zc pk2 zn)))) R fun b0o => waj H 6 R (nl R) (b0o, z) R R (su9 R R R R R R R R R) (zc pk1 so3)
 exact wse R (ebs R sb_35_0) (fun _ => (zt (zc pk2 (zc pk2 zn)))) R fun b8o => waj H 9 R (nl R) (z, b8o) R R (su9 R R R R R R R R R) so4
 exact wse R (eal (cs := [(sl hn), (sl hn), (sl hn), (sl hn), iv 0, iv 0]) za_37) (fun _ => (zt (zc pk2 (zc pk2 zn)))) R fun b17o => waj H 10 R (nl R) (b17o, z) R R (su9 R R R R R R R R R) so4
 refine List.forall_mem_cons.2 ⟨fun H => ?_, ?_⟩
 intro z
 dsimp only
 refine wa_3 (i := 0) (j := 4) (k := 17) (by kernel_rfl) ?_ ?_ ?_
 exact wse R (ebs R sb_33_0) (fun _ => (zt (zc pk2 (zc pk2 zn)))) R fun b0o => waj H 7 R (nl R) (b0o, z) R R (su9 R R R R R R R R R) (zc pk1 so3)
 exact wse R (ebs R sb_23_0) (fun _ => (zt (zc pk2 (zc pk2 zn)))) R fun b4o => waj H 9 R (nl R) (b4o, z) R R (su9 R R R R R R R R R) (zc pk1 so3)
 exact wse R (eal (cs := [(sl hn), (sl hn), (sl hn), (sl hn), iv 0, iv 0]) za_37) (fun _ => (zt (zc pk2 (zc pk2 zn)))) R fun b17o => waj H 11 R (nl R) (b17o, z) R R (su9 R R R R R R R R R) so4
 refine List.forall_mem_cons.2 ⟨fun H => ?_, ?_⟩
 intro z
 dsimp only
 refine wa_3 (i := 0) (j := 4) (k := 8) (by kernel_rfl) ?_ ?_ ?_
 exact wse R (ebs R sb_33_0) (fun _ => (zt (zc pk2 (zc pk2 zn)))) R fun b0o => waj H 8 R (nl R) (z, b0o) R R (su9 R R R R R R R R R) (zc pk1 so3)
 exact wse R (ebs R sb_23_0) (fun _ => (zt (zc pk2 (zc pk2 zn)))) R fun b4o => waj H 10 R (nl R) (z, b4o) R R (su9 R R R R R R R R R) (zc pk1 so3)
 exact wse R (ebs R sb_35_0) (fun _ => (zt (zc pk2 (zc pk2 zn)))) R fun b8o => waj H 11 R (nl R) (z, b8o) R R (su9 R R R R R R R R R) (zc pk1 so3)
 refine List.forall_mem_cons.2 ⟨fun H => ?_, ?_⟩
 intro z
 dsimp only
 refine wa_3 (i := 4) (j := 8) (k := 17) (by kernel_rfl) ?_ ?_ ?_
 exact wse R (ebs R sb_23_0) (fun _ => (zt (zc pk2 (zc pk2 zn)))) R fun b4o => waj H 12 R (nl R) (z, b4o) R R (su8 R R R R R R R R) so4
 exact wse R (ebs R sb_35_0) (fun _ => (zt (zc pk2 (zc pk2 zn)))) R fun b8o => waj H 13 R (nl R) (z, b8o) R R (su8 R R R R R R R R) so4
 exact wse R (eal (cs := [(sl hn), (sl hn), (sl hn), (sl hn), iv 0, iv 0]) za_37) (fun _ => (zt (zc pk2 (zc pk2 zn)))) R fun b17o => waj H 14 R (nl R) (b17o, z) R R (su8 R R R R R R R R) so4
 refine List.forall_mem_cons.2 ⟨fun H => ?_, ?_⟩
 intro z
 dsimp only
 refine wa_3 (i := 3) (j := 8) (k := 17) (by kernel_rfl) ?_ ?_ ?_
 refine wse R (eo_append (xs := ([] : List GMember)) (ys := a_g.Members) ak_33 (pbo pk1 (n := 0) (xs := ([] : List GMember)) R R (by unfold maxLen; omega)) R R (slin_rd fun _ g => Rg.on (rga r0) g) g1) (fun _ => (zt (zc pk2 (zc pk2 zn)))) R fun x3o => ?_
 exact waj H 12 R (nl R) (x3o, z.2) R R (su8 R R R R R R R R) (zc pk1 so3)
 exact wse R (ebs R sb_35_0) (fun _ => (zt (zc pk3 (zc pk3 zn)))) R fun b8o => waj H 15 R (nl R) (z.1, z.2, b8o) R R (su10 R R R R R R R R R R) so5
 exact wse R (eal (cs := [(sl hn), (sl hn), (sl hn), (sl hn), iv 0, iv 0]) za_37) (fun _ => (zt (zc pk3 (zc pk3 zn)))) R fun b17o => waj H 16 R (nl R) (b17o, z.1, z.2) R R (su10 R R R R R R R R R R) so5
 refine List.forall_mem_cons.2 ⟨fun H => ?_, ?_⟩
 intro z
 dsimp only
 refine wa_3 (i := 3) (j := 4) (k := 17) (by kernel_rfl) ?_ ?_ ?_
 refine wse R (eo_append (xs := ([] : List GMember)) (ys := a_g.Members) ak_33 (pbo pk1 (n := 0) (xs := ([] : List GMember)) R R (by unfold maxLen; omega)) R R (slin_rd fun _ g => Rg.on (rga r0) g) g1) (fun _ => (zt (zc pk2 (zc pk2 zn)))) R fun x3o => ?_
 exact waj H 13 R (nl R) (x3o, z.2) R R (su8 R R R R R R R R) (zc pk1 so3)
 exact wse R (ebs R sb_23_0) (fun _ => (zt (zc pk3 (zc pk3 zn)))) R fun b4o => waj H 15 R (nl R) (z.1, b4o, z.2) R R (su10 R R R R R R R R R R) (zc pk1 so4)
 exact wse R (eal (cs := [(sl hn), (sl hn), (sl hn), (sl hn), iv 0, iv 0]) za_37) (fun _ => (zt (zc pk3 (zc pk3 zn)))) R fun b17o => waj H 17 R (nl R) (b17o, z.1, z.2) R R (su10 R R R R R R R R R R) so5
 refine List.forall_mem_cons.2 ⟨fun H => ?_, ?_⟩
 intro z
 dsimp only
 refine wa_3 (i := 3) (j := 4) (k := 8) (by kernel_rfl) ?_ ?_ ?_
 refine wse R (eo_append (xs := ([] : List GMember)) (ys := a_g.Members) ak_33 (pbo pk1 (n := 0) (xs := ([] : List GMember)) R R (by unfold maxLen; omega)) R R (slin_rd fun _ g => Rg.on (rga r0) g) g1) (fun _ => (zt (zc pk2 (zc pk2 zn)))) R fun x3o => ?_
 exact waj H 14 R (nl R) (z.1, x3o) R R (su8 R R R R R R R R) (zc pk1 so3)
 exact wse R (ebs R sb_23_0) (fun _ => (zt (zc pk3 (zc pk3 zn)))) R fun b4o => waj H 16 R (nl R) (z.1, z.2, b4o) R R (su10 R R R R R R R R R R) (zc pk1 so4)
 exact wse R (ebs R sb_35_0) (fun _ => (zt (zc pk3 (zc pk3 zn)))) R fun b8o => waj H 17 R (nl R) (z.1, z.2, b8o) R R (su10 R R R R R R R R R R) (zc pk1 so4)
 refine List.forall_mem_cons.2 ⟨fun H => ?_, ?_⟩
 intro z
 dsimp only
 refine wa_2 (i := 0) (j := 17) (by kernel_rfl) ?_ ?_
 exact wse R (ebs R sb_33_0) (fun _ => (zt (zc pk3 (zc pk3 zn)))) R fun b0o => waj H 15 R (nl R) (b0o, z.1, z.2) R R (su10 R R R R R R R R R R) (zc pk1 (zc pk1 so3))
 exact wse R (eal (cs := [(sl hn), (sl hn), (sl hn), (sl hn), iv 0, iv 0]) za_37) (fun _ => (zt (zc pk3 (zc pk3 zn)))) R fun b17o => waj H 18 R (nl R) (b17o, z.1, z.2) R R (su10 R R R R R R R R R R) so5
 refine List.forall_mem_cons.2 ⟨fun H => ?_, ?_⟩
 intro z
 dsimp only
 refine wa_2 (i := 0) (j := 8) (by kernel_rfl) ?_ ?_
 exact wse R (ebs R sb_33_0) (fun _ => (zt (zc pk3 (zc pk3 zn)))) R fun b0o => waj H 16 R (nl R) (z.1, b0o, z.2) R R (su10 R R R R R R R R R R) (zc pk1 (zc pk1 so3))
 exact wse R (ebs R sb_35_0) (fun _ => (zt (zc pk3 (zc pk3 zn)))) R fun b8o => waj H 18 R (nl R) (z.1, z.2, b8o) R R (su10 R R R R R R R R R R) (zc pk1 so4)
 refine List.forall_mem_cons.2 ⟨fun H => ?_, ?_⟩
 intro z
 dsimp only
 refine wa_2 (i := 0) (j := 4) (by kernel_rfl) ?_ ?_
 exact wse R (ebs R sb_33_0) (fun _ => (zt (zc pk3 (zc pk3 zn)))) R fun b0o => waj H 17 R (nl R) (z.1, b0o, z.2) R R (su10 R R R R R R R R R R) (zc pk1 (zc pk1 so3))
 exact wse R (ebs R sb_23_0) (fun _ => (zt (zc pk3 (zc pk3 zn)))) R fun b4o => waj H 18 R (nl R) (z.1, b4o, z.2) R R (su10 R R R R R R R R R R) (zc pk1 (zc pk1 so3))
 refine List.forall_mem_cons.2 ⟨fun H => ?_, ?_⟩
 intro z
 dsimp only
 refine wa_3 (i := 7) (j := 8) (k := 17) (by kernel_rfl) ?_ ?_ ?_
 refine wse R (eo_append (xs := ([] : List Int)) (ys := a_g.Stock) ak_23 (pbo pz (n := 0) (xs := ([] : List Int)) R R (by unfold maxLen; omega)) R R (slin_rd fun _ g => Rg.on (rga r1) g) g2) (fun _ => (zt (zc pk2 (zc pk2 zn)))) R fun x7o => ?_
 exact waj H 19 R (nl R) (z.1, x7o) R R (su7 R R R R R R R) so4
 exact wse R (ebs R sb_35_0) (fun _ => (zt (zc pk3 (zc pk3 zn)))) R fun b8o => waj H 20 R (nl R) (z.1, z.2, b8o) R R (su9 R R R R R R R R R) so5
 exact wse R (eal (cs := [(sl hn), (sl hn), (sl hn), (sl hn), iv 0, iv 0]) za_37) (fun _ => (zt (zc pk3 (zc pk3 zn)))) R fun b17o => waj H 21 R (nl R) (b17o, z.1, z.2) R R (su9 R R R R R R R R R) so5
 refine List.forall_mem_cons.2 ⟨fun H => ?_, ?_⟩
 intro z
 dsimp only
 refine wa_2 (i := 4) (j := 17) (by kernel_rfl) ?_ ?_
 exact wse R (ebs R sb_23_0) (fun _ => (zt (zc pk3 (zc pk3 zn)))) R fun b4o => waj H 20 R (nl R) (z.1, b4o, z.2) R R (su9 R R R R R R R R R) (zc pk1 so4)
 exact wse R (eal (cs := [(sl hn), (sl hn), (sl hn), (sl hn), iv 0, iv 0]) za_37) (fun _ => (zt (zc pk3 (zc pk3 zn)))) R fun b17o => waj H 22 R (nl R) (b17o, z.1, z.2) R R (su9 R R R R R R R R R) so5
 refine List.forall_mem_cons.2 ⟨fun H => ?_, ?_⟩
 intro z
 dsimp only
 refine wa_2 (i := 4) (j := 8) (by kernel_rfl) ?_ ?_
 exact wse R (ebs R sb_23_0) (fun _ => (zt (zc pk3 (zc pk3 zn)))) R fun b4o => waj H 21 R (nl R) (z.1, z.2, b4o) R R (su9 R R R R R R R R R) (zc pk1 so4)
 exact wse R (ebs R sb_35_0) (fun _ => (zt (zc pk3 (zc pk3 zn)))) R fun b8o => waj H 22 R (nl R) (z.1, z.2, b8o) R R (su9 R R R R R R R R R) (zc pk1 so4)
 refine List.forall_mem_cons.2 ⟨fun H => ?_, ?_⟩
 intro z
 dsimp only
 refine wa_2 (i := 3) (j := 17) (by kernel_rfl) ?_ ?_
 refine wse R (eo_append (xs := ([] : List GMember)) (ys := a_g.Members) ak_33 (pbo pk2 (n := 0) (xs := ([] : List GMember)) R R (by unfold maxLen; omega)) R R (slin_rd fun _ g => Rg.on (rga r0) g) g1) (fun _ => (zt (zc pk3 (zc pk3 zn)))) R fun x3o => ?_
 exact waj H 20 R (nl R) (x3o, z.2.1, z.2.2) R R (su9 R R R R R R R R R) (zc pk1 (zc pk1 so3))
 exact wse R (eal (cs := [(sl hn), (sl hn), (sl hn), (sl hn), iv 0, iv 0]) za_37) (fun _ => (zt (zc pk4 (zc pk4 zn)))) R fun b17o => waj H 23 R (nl R) (b17o, z.1, z.2.1, z.2.2) R R (yc R (su10 R R R R R R R R R R)) so6
 refine List.forall_mem_cons.2 ⟨fun H => ?_, ?_⟩
 intro z
 dsimp only
 refine wa_2 (i := 3) (j := 8) (by kernel_rfl) ?_ ?_
 refine wse R (eo_append (xs := ([] : List GMember)) (ys := a_g.Members) ak_33 (pbo pk2 (n := 0) (xs := ([] : List GMember)) R R (by unfold maxLen; omega)) R R (slin_rd fun _ g => Rg.on (rga r0) g) g1) (fun _ => (zt (zc pk3 (zc pk3 zn)))) R fun x3o => ?_
 exact waj H 21 R (nl R) (z.1, x3o, z.2.2) R R (su9 R R R R R R R R R) (zc pk1 (zc pk1 so3))
 exact wse R (ebs R sb_35_0) (fun _ => (zt (zc pk4 (zc pk4 zn)))) R fun b8o => waj H 23 R (nl R) (z.1, z.2.1, z.2.2, b8o) R R (yc R (su10 R R R R R R R R R R)) (zc pk1 so5)
 refine List.forall_mem_cons.2 ⟨fun H => ?_, ?_⟩
 intro z
 dsimp only
 refine wa_2 (i := 3) (j := 4) (by kernel_rfl) ?_ ?_
 refine wse R (eo_append (xs := ([] : List GMember)) (ys := a_g.Members) ak_33 (pbo pk2 (n := 0) (xs := ([] : List GMember)) R R (by unfold maxLen; omega)) R R (slin_rd fun _ g => Rg.on (rga r0) g) g1) (fun _ => (zt (zc pk3 (zc pk3 zn)))) R fun x3o => ?_
 exact waj H 22 R (nl R) (z.1, x3o, z.2.2) R R (su9 R R R R R R R R R) (zc pk1 (zc pk1 so3))
 exact wse R (ebs R sb_23_0) (fun _ => (zt (zc pk4 (zc pk4 zn)))) R fun b4o => waj H 23 R (nl R) (z.1, z.2.1, b4o, z.2.2) R R (yc R (su10 R R R R R R R R R R)) (zc pk1 (zc pk1 so4))
 refine List.forall_mem_cons.2 ⟨fun H => ?_, ?_⟩
 intro z
 dsimp only
 exact a1 0 (wse R (ebs R sb_33_0) (fun _ => (zt (zc pk4 (zc pk4 zn)))) R fun b0o => (waj H 23 R (nl R) (z.1, b0o, z.2.1, z.2.2) R R (yc R (su10 R R R R R R R R R R)) (zc pk1 (zc pk1 (zc pk1 so3)))))
 refine List.forall_mem_cons.2 ⟨fun H => ?_, ?_⟩
 intro z
 dsimp only
 refine wa_2 (i := 8) (j := 17) (by kernel_rfl) ?_ ?_
 exact wse R (ebs R sb_35_0) (fun _ => (zt (zc pk3 (zc pk3 zn)))) R fun b8o => waj H 24 R (nl R) (z.1, z.2, b8o) R R (su8 R R R R R R R R) so5
 exact wse R (eal (cs := [(sl hn), (sl hn), (sl hn), (sl hn), iv 0, iv 0]) za_37) (fun _ => (zt (zc pk3 (zc pk3 zn)))) R fun b17o => waj H 25 R (nl R) (b17o, z.1, z.2) R R (su8 R R R R R R R R) so5
 refine List.forall_mem_cons.2 ⟨fun H => ?_, ?_⟩
 intro z
 dsimp only
 refine wa_2 (i := 7) (j := 17) (by kernel_rfl) ?_ ?_
 refine wse R (eo_append (xs := ([] : List Int)) (ys := a_g.Stock) ak_23 (pbo pk1 (n := 0) (xs := ([] : List Int)) R R (by unfold maxLen; omega)) R R (slin_rd fun _ g => Rg.on (rga r1) g) g2) (fun _ => (zt (zc pk3 (zc pk3 zn)))) R fun x7o => ?_
 exact waj H 24 R (nl R) (z.1, x7o, z.2.2) R R (su8 R R R R R R R R) (zc pk1 so4)
 exact wse R (eal (cs := [(sl hn), (sl hn), (sl hn), (sl hn), iv 0, iv 0]) za_37) (fun _ => (zt (zc pk4 (zc pk4 zn)))) R fun b17o => waj H 26 R (nl R) (b17o, z.1, z.2.1, z.2.2) R R (su10 R R R R R R R R R R) so6
 refine List.forall_mem_cons.2 ⟨fun H => ?_, ?_⟩
 intro z
 dsimp only
 refine wa_2 (i := 7) (j := 8) (by kernel_rfl) ?_ ?_
 refine wse R (eo_append (xs := ([] : List Int)) (ys := a_g.Stock) ak_23 (pbo pk1 (n := 0) (xs := ([] : List Int)) R R (by unfold maxLen; omega)) R R (slin_rd fun _ g => Rg.on (rga r1) g) g2) (fun _ => (zt (zc pk3 (zc pk3 zn)))) R fun x7o => ?_
 exact waj H 25 R (nl R) (z.1, z.2.1, x7o) R R (su8 R R R R R R R R) (zc pk1 so4)
 exact wse R (ebs R sb_35_0) (fun _ => (zt (zc pk4 (zc pk4 zn)))) R fun b8o => waj H 26 R (nl R) (z.1, z.2.1, z.2.2, b8o) R R (su10 R R R R R R R R R R) (zc pk1 so5)
 refine List.forall_mem_cons.2 ⟨fun H => ?_, ?_⟩
 intro z
 dsimp only
 exact a1 4 (wse R (ebs R sb_23_0) (fun _ => (zt (zc pk4 (zc pk4 zn)))) R fun b4o => (waj H 26 R (nl R) (z.1, z.2.1, b4o, z.2.2) R R (su10 R R R R R R R R R R) (zc pk1 (zc pk1 so4))))
 refine List.forall_mem_cons.2 ⟨fun H => ?_, ?_⟩
 intro z
 dsimp only
 refine a1 3 (wse R (eo_append (xs := ([] : List GMember)) (ys := a_g.Members) ak_33 (pbo pk3 (n := 0) (xs := ([] : List GMember)) R R (by unfold maxLen; omega)) R R (slin_rd fun _ g => Rg.on (rga r0) g) g1) (fun _ => (zt (zc pk4 (zc pk4 zn)))) R fun x3o => ?_)
 exact waj H 26 R (nl R) (z.1, x3o, z.2.2.1, z.2.2.2) R R (su10 R R R R R R R R R R) (zc pk1 (zc pk1 (zc pk1 so3)))
 refine List.forall_mem_cons.2 ⟨fun H => ?_, ?_⟩
 intro z
 dsimp only
 refine wa_2 (i := 11) (j := 17) (by kernel_rfl) ?_ ?_
 refine wse R (eo_append (xs := ([] : List GBooking)) (ys := a_g.Books) ak_35 (pbo pz (n := 0) (xs := ([] : List GBooking)) R R (by unfold maxLen; omega)) R R (slin_rd fun _ g => Rg.on (rga r3) g) g3) (fun _ => (zt (zc pk3 (zc pk3 zn)))) R fun x11o => ?_
 exact aq 16 R (po_build R (bd_37_0_1_3_4_5 z.1 z.2.1 x11o a_g.Round a_g.Year)) (zc pk3 (zc pk3 zn)) R (waj H 27 R (nl R) (z.1, z.2.1, x11o) R R (su3 R R R) so5)
 exact wse R (eal (cs := [(sl hn), (sl hn), (sl hn), (sl hn), iv 0, iv 0]) za_37) (fun _ => (zt (zc pk4 (zc pk4 zn)))) R fun b17o => waj H 28 R (nl R) (b17o, z.1, z.2.1, z.2.2) R R (su9 R R R R R R R R R) so6
 refine List.forall_mem_cons.2 ⟨fun H => ?_, ?_⟩
 intro z
 dsimp only
 exact a1 8 (wse R (ebs R sb_35_0) (fun _ => (zt (zc pk4 (zc pk4 zn)))) R fun b8o => (waj H 28 R (nl R) (z.1, z.2.1, z.2.2, b8o) R R (su9 R R R R R R R R R) (zc pk1 so5)))
 refine List.forall_mem_cons.2 ⟨fun H => ?_, ?_⟩
 intro z
 dsimp only
 refine a1 7 (wse R (eo_append (xs := ([] : List Int)) (ys := a_g.Stock) ak_23 (pbo pk2 (n := 0) (xs := ([] : List Int)) R R (by unfold maxLen; omega)) R R (slin_rd fun _ g => Rg.on (rga r1) g) g2) (fun _ => (zt (zc pk4 (zc pk4 zn)))) R fun x7o => ?_)
 exact waj H 28 R (nl R) (z.1, z.2.1, x7o, z.2.2.2) R R (su9 R R R R R R R R R) (zc pk1 (zc pk1 so4))
 refine List.forall_mem_cons.2 ⟨fun H => ?_, ?_⟩
 intro z
 dsimp only
 exact a1 17 (wse R (eal (cs := [(sl hn), (sl hn), (sl hn), (sl hn), iv 0, iv 0]) za_37) (fun _ => (zt (zc pk4 (zc pk4 zn)))) R fun b17o => (waj H 29 R (nl R) (b17o, z.1, z.2.1, z.2.2) R R (su4 R R R R) so6))
 refine List.forall_mem_cons.2 ⟨fun H => ?_, ?_⟩
 intro z
 dsimp only
 refine a1 11 (wse R (eo_append (xs := ([] : List GBooking)) (ys := a_g.Books) ak_35 (pbo pk1 (n := 0) (xs := ([] : List GBooking)) R R (by unfold maxLen; omega)) R R (slin_rd fun _ g => Rg.on (rga r3) g) g3) (fun _ => (zt (zc pk4 (zc pk4 zn)))) R fun x11o => ?_)
 exact aq 16 R (po_build R (bd_37_0_1_3_4_5 z.2.1 z.2.2.1 x11o a_g.Round a_g.Year)) (zc pk4 (zc pk4 zn)) R (waj H 29 R (nl R) (z.1, z.2.1, z.2.2.1, x11o) R R (su4 R R R R) (zc pk1 so5))
 refine List.forall_mem_cons.2 ⟨fun H => ?_, ?_⟩
 intro z
 dsimp only
 refine a1 18 (ws_skipop R (sbx (cs' := [(sl z.2.1), (sl z.2.2.1), (sl hn), (sl z.2.2.2), iv a_g.Round, iv a_g.Year]) tk_37 pz R R R R R R R) (sts_past (by kernel_rfl)) ?_)
 exact ae (wqm (z.1, z.2.1, z.2.2.1, z.2.2.2) trivial (su3 R R R) so6)
 exact fun _ h => nomatch h
 exact aq 1 R (pof fo_37_0 R) so2 R (aq (v := (sl v0a)) 2 R (plx tk_33 pk1 R R) so2 R (aq 5 R (pof fo_37_1 R) so2 R (aq (v := (sl v1a)) 6 R (plx tk_23 pk1 R R) so2 R (aq 9 R (pof fo_37_3 R) so2 R (aq (v := (sl v3a)) 10 R (plx tk_35 pk1 R R) so2 R (aq 12 R (pof fo_37_4 R) so2 R (aq (v := iv a_g.Round) 13 R (plx tk_3 pk1 R R) so2 R (aq 14 R (pof fo_37_5 R) so2 R (aq (v := iv a_g.Year) 15 R (plx tk_3 pk1 R R) so2 R (waj H 0 R (nl R) () R R (su7 R R R R R R R) so2))))))))))
 intro x1 _
 refine wqt (wcs (wcr (asg R R (wnt (gdO t0 fun g4 t0 => (lpO_inv t0 fun y1 l1 t0 => (wj (J := List GEntry) (X := Hd × (List Value)) (fun z => y1 = z) (fun _ _ => [(2, ptr b2 0), (3, ptr x1.1 0)]) (fun z x => [box x1.1 [(sl x1.2.1), (sl x1.2.2.1), (sl x.1), (sl x1.2.2.2), iv a_g.Round, iv a_g.Year], ownF (sl x1.2.2.2) (([] : List GBooking) ++ a_g.Books), ownF (sl x1.2.2.1) (([] : List Int) ++ a_g.Stock), ownF (sl x1.2.1) (([] : List GMember) ++ a_g.Members), box b2 [(sl hn), (sl hn), (sl hn), (sl hn), iv 0, iv 0], own (sl x.1) x.2 z]) ?_ ?_)))))))
 refine wcb (wcf (X := Hd × (List Value)) l1 (fun k1 s1 x1l => [(1, ptr b1 0), (2, ptr b2 0), (3, ptr x1.1 0), (4, iv ((k1 : Nat) : Int))]) (fun k1 s1 x1l => [box x1.1 [(sl x1.2.1), (sl x1.2.2.1), (sl x1l.1), (sl x1.2.2.2), iv a_g.Round, iv a_g.Year], ownF (sl x1.2.2.2) (([] : List GBooking) ++ a_g.Books), ownF (sl x1.2.2.1) (([] : List Int) ++ a_g.Stock), ownF (sl x1.2.1) (([] : List GMember) ++ a_g.Members), box b2 [(sl hn), (sl hn), (sl hn), (sl hn), iv 0, iv 0], box b1 [(sl v0a), (sl v1a), (sl v2a), (sl v3a), iv a_g.Round, iv a_g.Year], own (sl x1l.1) x1l.2 s1]) (hn, []) (su4 R R R R) (zc pz (zc pz (zc pz (zc pz (zc pz (zc pz (zc pick_nil zn))))))) fun k1 s1 x1l hN1 l1 => ?_)
 by_cases hk1 : k1 < a_g.Entries.length
 refine fos l1 hk1 fun _ t1 l1 => ?_
 unfold spec_l38Copy_L1 at t1
 have c1 : (decide (((k1 : Nat) : Int) < ((a_g.Entries.length : Nat) : Int))) = true := ddt (by omega)
 refine wcs (wcr (mv R R (wlq (pof fo_37_2 R) R (wlq (v := (sl v2a)) (plx tk_34 pk5 R R) R (wlq (pln (rga r2) el_34 R) R (wlq (pls R R) R (wnt (wft R c1 (wck (wqt (wcs (wcb (wcr (wlq (pof fo_37_2 R) R (wlq (v := (sl v2a)) (plx tk_34 pk5 R R) R (mv R R (wlq (po_ixn (k := k1) (rga r2) el_34 R R hk1) R (wl_elem (rga r2) hk1 ?_))))))))))))))))))
 rintro ⟨_, _, he1⟩
 obtain ⟨w1, hc1, _⟩ := rd_GEntry.1 he1
 refine wlq (v := .agg #[iv ((gx a_g.Entries k1).Owner), iv ((gx a_g.Entries k1).Day), iv (((gx a_g.Entries k1).Block).Size), (sl w1)]) (po_ldns (rga r2) tk_78 R hc1 R R R) R (wle (eal (cs := [iv 0, iv 0, iv 0, (sl hn)]) za_78) R fun b3 => (wls (sbx (cs' := [iv ((gx a_g.Entries k1).Owner), iv ((gx a_g.Entries k1).Day), iv (((gx a_g.Entries k1).Block).Size), (sl w1)]) tk_78 pz R R R R R R R) (wnt (wcr (wlq (pof fo_78_2 R) R (wlq (v := .agg #[iv (((gx a_g.Entries k1).Block).Size), (sl w1)]) (plb tk_43 pz R R R) R (bdO t1 fun v1 hv1 t1 => (wlc (cz1 fa_39 R fun w hw => c_spec_l03Copy w ((gx a_g.Entries k1).Block) w1 (Rg.on (er_GEntry_0 hc1 (rga r2) hk1) hw) hv1) R fun x3 => (wlq (pof fo_78_2 R) R (wls (sbx (cs' := [iv ((gx a_g.Entries k1).Owner), iv ((gx a_g.Entries k1).Day), iv v1.Size, (sl x3)]) tk_43 pk1 R R R R R R R) (wnt (wcg (wlq (pof fo_37_2 R) R (wlq (v := (sl x1l.1)) (plx tk_34 pk2 R R) R (wlq (v := .agg #[iv ((gx a_g.Entries k1).Owner), iv ((gx a_g.Entries k1).Day), iv v1.Size, (sl x3)]) (plb tk_78 pz R R R) R (wle (ebs R (sb_34_1 ((gx a_g.Entries k1).Owner) ((gx a_g.Entries k1).Day) v1.Size x3)) R fun b4 => (gdO t1 fun g5 t1 => (wle (eo_append_one (us := x1l.2) (xs := s1) ak_34 pk9 (pow_GEntry (x := (GEntry.mk ((gx a_g.Entries k1).Owner) ((gx a_g.Entries k1).Day) v1)) pk2) pz R R R g5) R fun x4 => (wlq (pof fo_37_2 R) R (wls (sbx (cs' := [(sl x1.2.1), (sl x1.2.2.1), (sl x4), (sl x1.2.2.2), iv a_g.Round, iv a_g.Year]) tk_34 pk3 R R R R R R R) (wln (wqb (wqt (wcg (mv R R (wlq (po_inc R R (by omega)) R ?_))))))))))))))))))))))))))
 exact asg R R (wln (wq_rnd hk1 (stpN l1 t1) (x4, (x1l.2 ++ [iv ((gx a_g.Entries k1).Owner), iv ((gx a_g.Entries k1).Day), iv v1.Size, (sl x3)])) (su4 R R R R) (zc pz (zc pk3 (zc pk3 (zc pk3 (zc pk3 (zc pk3 so1))))))))
 have c1 : (decide (((k1 : Nat) : Int) < ((a_g.Entries.length : Nat) : Int))) = false := ddf (by omega)
 have en1 := foe l1 hk1
 exact wcs (wcr (mv R R (wlq (pof fo_37_2 R) R (wlq (v := (sl v2a)) (plx tk_34 pk5 R R) R (wlq (pln (rga r2) el_34 R) R (wlq (pls R R) R (wnt (wff R c1 (wcx (wqe (wqe (wbx (wjm _ (x1l.1, x1l.2) (Sum.inl.inj en1) (su2 R R) (zc pz (zc pz (zc pz (zc pz (zc pz (zc pk1 zn)))))))))))))))))))
 intro e1 x2 hp
 obtain rfl : e1 = y1 := hp.symm
 refine wqt (wcr (wlq (v := .agg #[(sl x1.2.1), (sl x1.2.2.1), (sl x2.1), (sl x1.2.2.2), iv a_g.Round, iv a_g.Year]) (plb tk_37 pz R R R) R (wls (sbx (cs' := [(sl x1.2.1), (sl x1.2.2.1), (sl x2.1), (sl x1.2.2.2), iv a_g.Round, iv a_g.Year]) tk_37 pk4 R R R R R R R) (wnt (wct ?_)))))
 obtain rfl := oi t0
 exact wqc R tk_37 R pz R fun w hw => ⟨(x1.2.1, x1.2.2.1, x2.1, x2.2, x1.2.2.2), R, hw.weak (zc pk4 (zc pk3 (zc pk3 (zc pk2 zn))))⟩

theorem c_spec_l01In (w : World) (a_x : Int) (a_least : Int) (a_most : Int) {r : Bool} (t0 : spec_l01In a_x a_least a_most = some r) : Calls Tryz.prog 85 #[.int .i64 a_x, .int .i64 a_least, .int .i64 a_most] w fun e w' => e = .returned (.bool r) ∧ SH w [] [] w' := by
 refine cwc (args := [_, _, _]) Tryz.func85 R Tryz.ntmps85 R ?_
 unfold spec_l01In at t0
 refine wcr (asg R R (wnt (wcs (wcj (X := Unit) (fun _ => True) (fun _ => [(6, .bool ((decide (a_x ≥ a_least)) && (decide (a_x ≤ a_most))))]) (fun _ => []) ?_ ?_))))
 refine wcg (mv R R (mv R R (wlq (po_geq R R) R (mv R R (wl_fork (t := 10) R (fun h1 => ?_) fun h1 => ?_)))))
 exact wgn (j := 3) R R R (mv R R (wgn (j := 3) R R R (mv R R (wgn (j := 3) R R R (wlq (po_leq R R) R (wlq (pit R R) R (asg R R (wln (wqm () trivial (sub_b R (by rw [h1]; rfl) yn) zn)))))))))
 exact wgf (j := 3) R R R R R (wgf (j := 3) R R R R R (wgf (j := 3) R R R R R (wlq (pif R R) R (asg R R (wln (wqm () trivial (sub_b R (by rw [h1]; rfl) yn) zn))))))
 intro _ _
 refine wqt (wct ?_)
 obtain rfl := oi t0
 exact wq1 R R fun w hw => ⟨R, hw.weak zn⟩

theorem c_spec_MembersOk (w : World) (a_list : List GMember) (v0a : Hd) (r0 : rdF w (dm w []) (sl v0a) a_list) {r : Bool} (t0 : spec_MembersOk a_list = some r) : Calls Tryz.prog 82 #[(sl v0a)] w fun e w' => e = .returned (.bool r) ∧ SH w [] [] w' := by
 refine cwc (args := [_]) Tryz.func82 R Tryz.ntmps82 R ?_
 unfold spec_MembersOk at t0
 refine wcr (asg R R (wnt (wcs (wcr (asg R R (wnt (gdO t0 fun g1 t0 => (sqO t0 fun y1 l1 t0 => (wj (J := Unit) (X := Unit) (fun z => y1 = .inl z) (fun _ _ => [(0, (sl v0a))]) (fun _ _ => []) ?_ ?_)))))))))
 refine wcb (wcf (X := Unit) l1 (fun k1 s1 x1l => [(0, (sl v0a)), (3, iv ((k1 : Nat) : Int))]) (fun k1 s1 x1l => []) () (su2 R R) zn fun k1 s1 x1l hN1 l1 => ?_)
 by_cases hk1 : k1 < a_list.length
 refine fos l1 hk1 fun _ t1 l1 => ?_
 unfold spec_MembersOk_L1 at t1
 have c1 : (decide (((k1 : Nat) : Int) < ((a_list.length : Nat) : Int))) = true := ddt (by omega)
 refine wcs (wcr (mv R R (mv R R (wlq (pln (rga r0) el_33 R) R (wlq (pls R R) R (wnt (wft R c1 (wck (wqt (wcs (wcb (wcr (mv R R (mv R R (wlq (po_ixn (k := k1) (rga r0) el_33 R R hk1) R (wlq (v := .agg #[iv ((gx a_list k1).Number), iv ((gx a_list k1).Since), iv ((gx a_list k1).Paid)]) (po_ldfs (rga r0) tk_116 R hk1 R R R) R (wle (eal (cs := [iv 0, iv 0, iv 0]) za_116) R fun b1 => (wls (sbx (cs' := [iv ((gx a_list k1).Number), iv ((gx a_list k1).Since), iv ((gx a_list k1).Paid)]) tk_116 pz R R R R R R R) (wnt (wcs (bdO t1 fun y2 t2 t1 => (wj (J := Bool) (X := Unit) (fun z => y2 = z) (fun z _ => [(0, (sl v0a)), (3, iv ((k1 : Nat) : Int)), (48, .bool z)]) (fun _ _ => []) ?_ ?_))))))))))))))))))))))
 refine wcd [box b1 [iv ((gx a_list k1).Number), iv ((gx a_list k1).Since), iv ((gx a_list k1).Paid)]] 34 mixed (aq 0 R (pof fo_116_0 R) so1 R (aq (v := iv ((gx a_list k1).Number)) 1 R (plx tk_3 pz R R) so1 R (a1 2 (bdO t2 fun v1 hv1 t2 => (wsc R (cz0 fa_85 R fun w hw => c_spec_l01In w ((gx a_list k1).Number) 1 999 hv1) (fun _ => (zt so1)) R fun _ => (aq 3 R (po_not R) so1 R (aq 4 R (pom R) so1 R (waO_ (t := 19) t2 R (fun h1 t2 => ?_) fun h1 t2 => ?_))))))))
 exact af 5 4 R R R R R so1 R (af 6 4 R R R R R so1 R (af 7 4 R R R R R so1 R (af 8 4 R R R R R so1 R (aq 9 R (pit R R) so1 R (aq 10 R (pom R) so1 R (af 11 10 R R R R R so1 R (af 12 10 R R R R R so1 R (af 13 10 R R R R R so1 R (af 14 10 R R R R R so1 R (af 15 10 R R R R R so1 R (af 16 10 R R R R R so1 R (af 17 10 R R R R R so1 R (aq 18 R (pit R R) so1 R (aq 19 R (pom R) so1 R (af 20 19 R R R R R so1 R (af 21 19 R R R R R so1 R (af 22 19 R R R R R so1 R (au 23 22 R R R R so1 R (au 24 22 R R R R so1 R (au 25 22 R R R R so1 R (au 26 22 R R R R so1 R (au 27 22 R R R R so1 R (au 28 22 R R R R so1 R (au 29 22 R R R R so1 R (au 30 22 R R R R so1 R (au 31 22 R R R R so1 R (af 32 19 R R R R R so1 R (aq 33 R (pit R R) so1 R (ae (wjm _ () (mtE t2) (su3 R R R) zn))))))))))))))))))))))))))))))
 refine an 5 4 R R R R (pof fo_116_1 R) so1 R (an (v := iv ((gx a_list k1).Since)) 6 4 R R R R (plx tk_3 pz R R) so1 R (a1 7 (bdO t2 fun v2 hv2 t2 => (ws_call_on (j := 4) R R R R (cz0 fa_85 R fun w hw => c_spec_l01In w ((gx a_list k1).Since) 1900 2999 hv2) (fun _ => (zt so1)) R fun _ => (an 8 4 R R R R (po_not R) so1 R (aq 9 R (pif R R) so1 R (aq 10 R (pom R) so1 R (waO_ (t := 25) t2 R (fun h2 t2 => ?_) fun h2 t2 => ?_))))))))
 exact af 11 10 R R R R R so1 R (af 12 10 R R R R R so1 R (af 13 10 R R R R R so1 R (af 14 10 R R R R R so1 R (af 15 10 R R R R R so1 R (af 16 10 R R R R R so1 R (af 17 10 R R R R R so1 R (aq 18 R (pit R R) so1 R (aq 19 R (pom R) so1 R (af 20 19 R R R R R so1 R (af 21 19 R R R R R so1 R (af 22 19 R R R R R so1 R (au 23 22 R R R R so1 R (au 24 22 R R R R so1 R (au 25 22 R R R R so1 R (au 26 22 R R R R so1 R (au 27 22 R R R R so1 R (au 28 22 R R R R so1 R (au 29 22 R R R R so1 R (au 30 22 R R R R so1 R (au 31 22 R R R R so1 R (af 32 19 R R R R R so1 R (aq 33 R (pit R R) so1 R (ae (wjm _ () (mtE t2) (su3 R R R) zn))))))))))))))))))))))))
 refine an 11 10 R R R R (pof fo_116_2 R) so1 R (an (v := iv ((gx a_list k1).Paid)) 12 10 R R R R (plx tk_3 pz R R) so1 R (an 13 10 R R R R (pof fo_116_1 R) so1 R (an (v := iv ((gx a_list k1).Since)) 14 10 R R R R (plx tk_3 pz R R) so1 R (an 15 10 R R R R (po_sub R R) so1 R (a1 16 (bdO t2 fun v3 hv3 t2 => (ws_call_on (j := 10) R R R R (cz0 fa_85 R fun w hw => c_spec_l01In w ((gx a_list k1).Paid) (wr ((gx a_list k1).Since - 1)) 2999 hv3) (fun _ => (zt so1)) R fun _ => (an 17 10 R R R R (po_not R) so1 R (aq 18 R (pif R R) so1 R (aq 19 R (pom R) so1 R (waO_ (t := 34) t2 R (fun h3 t2 => ?_) fun h3 t2 => ?_)))))))))))
 exact af 20 19 R R R R R so1 R (af 21 19 R R R R R so1 R (af 22 19 R R R R R so1 R (au 23 22 R R R R so1 R (au 24 22 R R R R so1 R (au 25 22 R R R R so1 R (au 26 22 R R R R so1 R (au 27 22 R R R R so1 R (au 28 22 R R R R so1 R (au 29 22 R R R R so1 R (au 30 22 R R R R so1 R (au 31 22 R R R R so1 R (af 32 19 R R R R R so1 R (aq 33 R (pit R R) so1 R (ae (wjm _ () (mtE t2) (su3 R R R) zn)))))))))))))))
 refine an 20 19 R R R R (pom R) so1 R (an 21 19 R R R R (po_gtr R R) so1 R (an 22 19 R R R R (pom R) so1 R (waO_ (t := 37) t2 R (fun h4 t2 => ?_) fun h4 t2 => ?_)))
 exact an 23 22 R R R R (pof fo_116_0 R) so1 R (an (v := iv ((gx a_list k1).Number)) 24 22 R R R R (plx tk_3 pz R R) so1 R (an 25 22 R R R R (pom R) so1 R (an 26 22 R R R R (pom R) so1 R (an 27 22 R R R R (po_sub R R) so1 R (gdO t2 fun g2 t2 => (an 28 22 R R R R (po_ixr (rga r0) el_33 R R g2.1 g2.2) so1 R (an 29 22 R R R R (po_sfldr (rga r0) (ix_lt g2) fo_116_0 R) so1 R (an (v := iv ((gx a_list (((wr (((k1 : Nat) : Int) - 1))).toNat)).Number)) 30 22 R R R R (po_ldf (rga r0) tk_3 R (ix_lt g2) R) so1 R (an 31 22 R R R R (po_leq R R) so1 R (an 32 19 R R R R (pit R R) so1 R (aq 33 R (pif R R) so1 R (ae (wjm _ () (mtE t2) (su3 R R R) zn)))))))))))))
 exact af 23 22 R R R R R so1 R (af 24 22 R R R R R so1 R (af 25 22 R R R R R so1 R (af 26 22 R R R R R so1 R (af 27 22 R R R R R so1 R (af 28 22 R R R R R so1 R (af 29 22 R R R R R so1 R (af 30 22 R R R R R so1 R (af 31 22 R R R R R so1 R (an 32 19 R R R R (pif R R) so1 R (aq 33 R (pif R R) so1 R (ae (wjm _ () (mtE t2) (su3 R R R) zn))))))))))))
 intro j1 _ hp
 obtain rfl : j1 = y2 := hp.symm
 refine wqt (wcO t1 R (fun h5 t1 => ?_) fun h5 t1 => ?_)
 refine wcr (asg R R (wnt (wct (wbr (wqr (wqr (wbr (wqr (wqr ?_)))))))))
 replace t0 := lpR t0 l1 t1
 obtain rfl := oi t0
 exact wq1 R R fun w hw => ⟨R, hw.weak zn⟩
 refine wck (wqb (wqt (wcg (mv R R (wlq (po_inc R R (by omega)) R ?_)))))
 exact asg R R (wln (wq_rnd hk1 (stpN l1 t1) () (su2 R R) zn))
 have c1 : (decide (((k1 : Nat) : Int) < ((a_list.length : Nat) : Int))) = false := ddf (by omega)
 have en1 := foe l1 hk1
 exact wcs (wcr (mv R R (mv R R (wlq (pln (rga r0) el_33 R) R (wlq (pls R R) R (wnt (wff R c1 (wcx (wqe (wqe (wbx (wjm _ () en1 (su1 R) zn))))))))))))
 intro e1 _ hp
 replace t0 := sqE (j := e1) t0 hp
 refine wqt (wcr (mv R R (wlq (pln (rga r0) el_33 R) R (wlq (po_leq R R) R (asg R R (wnt (wct ?_)))))))
 obtain rfl := oi t0
 exact wq1 R R fun w hw => ⟨R, hw.weak zn⟩

theorem c_spec_StockOk (w : World) (a_stock : List Int) (v0a : Hd) (r0 : rdF w (dm w []) (sl v0a) a_stock) {r : Bool} (t0 : spec_StockOk a_stock = some r) : Calls Tryz.prog 83 #[(sl v0a)] w fun e w' => e = .returned (.bool r) ∧ SH w [] [] w' := by
 refine cwc (args := [_]) Tryz.func83 R Tryz.ntmps83 R ?_
 unfold spec_StockOk at t0
 refine wcr (asg R R (wnt (wcs (wcr (asg R R (wnt (gdO t0 fun g1 t0 => (sqO t0 fun y1 l1 t0 => (wj (J := Unit) (X := Unit) (fun z => y1 = .inl z) (fun _ _ => [(0, (sl v0a))]) (fun _ _ => []) ?_ ?_)))))))))
 refine wcb (wcf (X := Unit) l1 (fun k1 s1 x1l => [(0, (sl v0a)), (3, iv ((k1 : Nat) : Int))]) (fun k1 s1 x1l => []) () (su2 R R) zn fun k1 s1 x1l hN1 l1 => ?_)
 by_cases hk1 : k1 < a_stock.length
 refine fos l1 hk1 fun _ t1 l1 => ?_
 unfold spec_StockOk_L1 at t1
 have c1 : (decide (((k1 : Nat) : Int) < ((a_stock.length : Nat) : Int))) = true := ddt (by omega)
 refine wcs (wcr (mv R R (mv R R (wlq (pln (rga r0) el_23 R) R (wlq (pls R R) R (wnt (wft R c1 (wck (wqt (wcs (wcb (wcr (mv R R (mv R R (wlq (po_ixn (k := k1) (rga r0) el_23 R R hk1) R (wlq (v := iv (gx a_stock k1)) (po_ldf (rga r0) tk_3 R hk1 R) R (bdO t1 fun v1 hv1 t1 => (wlc (cz0 fa_85 R fun w hw => c_spec_l01In w (gx a_stock k1) 0 1000000 hv1) R fun _ => (wlq (po_not R) R (wnt (wcO t1 R (fun h1 t1 => ?_) fun h1 t1 => ?_)))))))))))))))))))))
 refine wcr (asg R R (wnt (wct (wbr (wqr (wqr (wbr (wqr (wqr ?_)))))))))
 replace t0 := lpR t0 l1 t1
 obtain rfl := oi t0
 exact wq1 R R fun w hw => ⟨R, hw.weak zn⟩
 refine wck (wqb (wqt (wcg (mv R R (wlq (po_inc R R (by omega)) R ?_)))))
 exact asg R R (wln (wq_rnd hk1 (stpN l1 t1) () (su2 R R) zn))
 have c1 : (decide (((k1 : Nat) : Int) < ((a_stock.length : Nat) : Int))) = false := ddf (by omega)
 have en1 := foe l1 hk1
 exact wcs (wcr (mv R R (mv R R (wlq (pln (rga r0) el_23 R) R (wlq (pls R R) R (wnt (wff R c1 (wcx (wqe (wqe (wbx (wjm _ () en1 (su1 R) zn))))))))))))
 intro e1 _ hp
 replace t0 := sqE (j := e1) t0 hp
 refine wqt (wcr (mv R R (wlq (pln (rga r0) el_23 R) R (wlq (pol R R) R (asg R R (wnt (wct ?_)))))))
 obtain rfl := oi t0
 exact wq1 R R fun w hw => ⟨R, hw.weak zn⟩

theorem c_spec_LedgerOk (w : World) (a_list : List GBooking) (v0a : Hd) (r0 : rdF w (dm w []) (sl v0a) a_list) {r : Bool} (t0 : spec_LedgerOk a_list = some r) : Calls Tryz.prog 84 #[(sl v0a)] w fun e w' => e = .returned (.bool r) ∧ SH w [] [] w' := by
 refine cwc (args := [_]) Tryz.func84 R Tryz.ntmps84 R ?_
 unfold spec_LedgerOk at t0
 refine wcr (asg R R (wnt (wcs (wcr (asg R R (wnt (gdO t0 fun g1 t0 => (sqO t0 fun y1 l1 t0 => (wj (J := Unit) (X := Unit) (fun z => y1 = .inl z) (fun _ _ => [(0, (sl v0a))]) (fun _ _ => []) ?_ ?_)))))))))
 refine wcb (wcf (X := Unit) l1 (fun k1 s1 x1l => [(0, (sl v0a)), (3, iv ((k1 : Nat) : Int))]) (fun k1 s1 x1l => []) () (su2 R R) zn fun k1 s1 x1l hN1 l1 => ?_)
 by_cases hk1 : k1 < a_list.length
 refine fos l1 hk1 fun _ t1 l1 => ?_
 unfold spec_LedgerOk_L1 at t1
 have c1 : (decide (((k1 : Nat) : Int) < ((a_list.length : Nat) : Int))) = true := ddt (by omega)
 refine wcs (wcr (mv R R (mv R R (wlq (pln (rga r0) el_35 R) R (wlq (pls R R) R (wnt (wft R c1 (wck (wqt (wcs (wcb (wcr (mv R R (mv R R (wlq (po_ixn (k := k1) (rga r0) el_35 R R hk1) R (wlq (v := .agg #[iv ((gx a_list k1).Day), iv ((gx a_list k1).From), iv ((gx a_list k1).To), iv ((gx a_list k1).Sum)]) (po_ldfs (rga r0) tk_121 R hk1 R R R) R (wle (eal (cs := [iv 0, iv 0, iv 0, iv 0]) za_121) R fun b1 => (wls (sbx (cs' := [iv ((gx a_list k1).Day), iv ((gx a_list k1).From), iv ((gx a_list k1).To), iv ((gx a_list k1).Sum)]) tk_121 pz R R R R R R R) (wnt (wcs (bdO t1 fun y2 t2 t1 => (wj (J := Bool) (X := Unit) (fun z => y2 = z) (fun z _ => [(0, (sl v0a)), (3, iv ((k1 : Nat) : Int)), (58, .bool z)]) (fun _ _ => []) ?_ ?_))))))))))))))))))))))
 refine wcd [box b1 [iv ((gx a_list k1).Day), iv ((gx a_list k1).From), iv ((gx a_list k1).To), iv ((gx a_list k1).Sum)]] 44 mixed (aq 0 R (pof fo_121_0 R) so1 R (aq (v := iv ((gx a_list k1).Day)) 1 R (plx tk_3 pz R R) so1 R (a1 2 (bdO t2 fun v1 hv1 t2 => (wsc R (cz0 fa_85 R fun w hw => c_spec_l01In w ((gx a_list k1).Day) 0 9999 hv1) (fun _ => (zt so1)) R fun _ => (aq 3 R (po_not R) so1 R (aq 4 R (pom R) so1 R (waO_ (t := 19) t2 R (fun h1 t2 => ?_) fun h1 t2 => ?_))))))))
 refine af 5 4 R R R R R so1 R (af 6 4 R R R R R so1 R (af 7 4 R R R R R so1 R (af 8 4 R R R R R so1 R (aq 9 R (pit R R) so1 R (aq 10 R (pom R) so1 R (af 11 10 R R R R R so1 R (af 12 10 R R R R R so1 R (af 13 10 R R R R R so1 R (af 14 10 R R R R R so1 R (aq 15 R (pit R R) so1 R (aq 16 R (pom R) so1 R (af 17 16 R R R R R so1 R (af 18 16 R R R R R so1 R (af 19 16 R R R R R so1 R (af 20 16 R R R R R so1 R (af 21 16 R R R R R so1 R (aq 22 R (pit R R) so1 R (aq 23 R (pom R) so1 R (af 24 23 R R R R R so1 R (af 25 23 R R R R R so1 R (af 26 23 R R R R R so1 R (af 27 23 R R R R R so1 R (aq 28 R (pit R R) so1 R (aq 29 R (pom R) so1 R (af 30 29 R R R R R so1 R (af 31 29 R R R R R so1 R (af 32 29 R R R R R so1 R (au 33 32 R R R R so1 R (au 34 32 R R R R so1 R (au 35 32 R R R R so1 R (au 36 32 R R R R so1 R (au 37 32 R R R R so1 R (au 38 32 R R R R so1 R (au 39 32 R R R R so1 R (au 40 32 R R R R so1 R (au 41 32 R R R R so1 R (af 42 29 R R R R R so1 R (aq 43 R (pit R R) so1 R (ae ?_)))))))))))))))))))))))))))))))))))))))
 exact wjm _ () (mtE t2) (su3 R R R) zn
 refine an 5 4 R R R R (pof fo_121_1 R) so1 R (an (v := iv ((gx a_list k1).From)) 6 4 R R R R (plx tk_3 pz R R) so1 R (a1 7 (bdO t2 fun v2 hv2 t2 => (ws_call_on (j := 4) R R R R (cz0 fa_85 R fun w hw => c_spec_l01In w ((gx a_list k1).From) 0 4 hv2) (fun _ => (zt so1)) R fun _ => (an 8 4 R R R R (po_not R) so1 R (aq 9 R (pif R R) so1 R (aq 10 R (pom R) so1 R (waO_ (t := 25) t2 R (fun h2 t2 => ?_) fun h2 t2 => ?_))))))))
 exact af 11 10 R R R R R so1 R (af 12 10 R R R R R so1 R (af 13 10 R R R R R so1 R (af 14 10 R R R R R so1 R (aq 15 R (pit R R) so1 R (aq 16 R (pom R) so1 R (af 17 16 R R R R R so1 R (af 18 16 R R R R R so1 R (af 19 16 R R R R R so1 R (af 20 16 R R R R R so1 R (af 21 16 R R R R R so1 R (aq 22 R (pit R R) so1 R (aq 23 R (pom R) so1 R (af 24 23 R R R R R so1 R (af 25 23 R R R R R so1 R (af 26 23 R R R R R so1 R (af 27 23 R R R R R so1 R (aq 28 R (pit R R) so1 R (aq 29 R (pom R) so1 R (af 30 29 R R R R R so1 R (af 31 29 R R R R R so1 R (af 32 29 R R R R R so1 R (au 33 32 R R R R so1 R (au 34 32 R R R R so1 R (au 35 32 R R R R so1 R (au 36 32 R R R R so1 R (au 37 32 R R R R so1 R (au 38 32 R R R R so1 R (au 39 32 R R R R so1 R (au 40 32 R R R R so1 R (au 41 32 R R R R so1 R (af 42 29 R R R R R so1 R (aq 43 R (pit R R) so1 R (ae (wjm _ () (mtE t2) (su3 R R R) zn))))))))))))))))))))))))))))))))))
 refine an 11 10 R R R R (pof fo_121_2 R) so1 R (an (v := iv ((gx a_list k1).To)) 12 10 R R R R (plx tk_3 pz R R) so1 R (a1 13 (bdO t2 fun v3 hv3 t2 => (ws_call_on (j := 10) R R R R (cz0 fa_85 R fun w hw => c_spec_l01In w ((gx a_list k1).To) 0 4 hv3) (fun _ => (zt so1)) R fun _ => (an 14 10 R R R R (po_not R) so1 R (aq 15 R (pif R R) so1 R (aq 16 R (pom R) so1 R (waO_ (t := 31) t2 R (fun h3 t2 => ?_) fun h3 t2 => ?_))))))))
 exact af 17 16 R R R R R so1 R (af 18 16 R R R R R so1 R (af 19 16 R R R R R so1 R (af 20 16 R R R R R so1 R (af 21 16 R R R R R so1 R (aq 22 R (pit R R) so1 R (aq 23 R (pom R) so1 R (af 24 23 R R R R R so1 R (af 25 23 R R R R R so1 R (af 26 23 R R R R R so1 R (af 27 23 R R R R R so1 R (aq 28 R (pit R R) so1 R (aq 29 R (pom R) so1 R (af 30 29 R R R R R so1 R (af 31 29 R R R R R so1 R (af 32 29 R R R R R so1 R (au 33 32 R R R R so1 R (au 34 32 R R R R so1 R (au 35 32 R R R R so1 R (au 36 32 R R R R so1 R (au 37 32 R R R R so1 R (au 38 32 R R R R so1 R (au 39 32 R R R R so1 R (au 40 32 R R R R so1 R (au 41 32 R R R R so1 R (af 42 29 R R R R R so1 R (aq 43 R (pit R R) so1 R (ae (wjm _ () (mtE t2) (su3 R R R) zn))))))))))))))))))))))))))))
 refine an 17 16 R R R R (pof fo_121_1 R) so1 R (an (v := iv ((gx a_list k1).From)) 18 16 R R R R (plx tk_3 pz R R) so1 R (an 19 16 R R R R (pof fo_121_2 R) so1 R (an (v := iv ((gx a_list k1).To)) 20 16 R R R R (plx tk_3 pz R R) so1 R (an 21 16 R R R R (pol R R) so1 R (aq 22 R (pif R R) so1 R (aq 23 R (pom R) so1 R (waO_ (t := 38) t2 R (fun h4 t2 => ?_) fun h4 t2 => ?_)))))))
 exact af 24 23 R R R R R so1 R (af 25 23 R R R R R so1 R (af 26 23 R R R R R so1 R (af 27 23 R R R R R so1 R (aq 28 R (pit R R) so1 R (aq 29 R (pom R) so1 R (af 30 29 R R R R R so1 R (af 31 29 R R R R R so1 R (af 32 29 R R R R R so1 R (au 33 32 R R R R so1 R (au 34 32 R R R R so1 R (au 35 32 R R R R so1 R (au 36 32 R R R R so1 R (au 37 32 R R R R so1 R (au 38 32 R R R R so1 R (au 39 32 R R R R so1 R (au 40 32 R R R R so1 R (au 41 32 R R R R so1 R (af 42 29 R R R R R so1 R (aq 43 R (pit R R) so1 R (ae (wjm _ () (mtE t2) (su3 R R R) zn)))))))))))))))))))))
 refine an 24 23 R R R R (pof fo_121_3 R) so1 R (an (v := iv ((gx a_list k1).Sum)) 25 23 R R R R (plx tk_3 pz R R) so1 R (a1 26 (bdO t2 fun v4 hv4 t2 => (ws_call_on (j := 23) R R R R (cz0 fa_85 R fun w hw => c_spec_l01In w ((gx a_list k1).Sum) 1 100000 hv4) (fun _ => (zt so1)) R fun _ => (an 27 23 R R R R (po_not R) so1 R (aq 28 R (pif R R) so1 R (aq 29 R (pom R) so1 R (waO_ (t := 44) t2 R (fun h5 t2 => ?_) fun h5 t2 => ?_))))))))
 exact af 30 29 R R R R R so1 R (af 31 29 R R R R R so1 R (af 32 29 R R R R R so1 R (au 33 32 R R R R so1 R (au 34 32 R R R R so1 R (au 35 32 R R R R so1 R (au 36 32 R R R R so1 R (au 37 32 R R R R so1 R (au 38 32 R R R R so1 R (au 39 32 R R R R so1 R (au 40 32 R R R R so1 R (au 41 32 R R R R so1 R (af 42 29 R R R R R so1 R (aq 43 R (pit R R) so1 R (ae (wjm _ () (mtE t2) (su3 R R R) zn)))))))))))))))
 refine an 30 29 R R R R (pom R) so1 R (an 31 29 R R R R (po_gtr R R) so1 R (an 32 29 R R R R (pom R) so1 R (waO_ (t := 47) t2 R (fun h6 t2 => ?_) fun h6 t2 => ?_)))
 exact an 33 32 R R R R (pof fo_121_0 R) so1 R (an (v := iv ((gx a_list k1).Day)) 34 32 R R R R (plx tk_3 pz R R) so1 R (an 35 32 R R R R (pom R) so1 R (an 36 32 R R R R (pom R) so1 R (an 37 32 R R R R (po_sub R R) so1 R (gdO t2 fun g2 t2 => (an 38 32 R R R R (po_ixr (rga r0) el_35 R R g2.1 g2.2) so1 R (an 39 32 R R R R (po_sfldr (rga r0) (ix_lt g2) fo_121_0 R) so1 R (an (v := iv ((gx a_list (((wr (((k1 : Nat) : Int) - 1))).toNat)).Day)) 40 32 R R R R (po_ldf (rga r0) tk_3 R (ix_lt g2) R) so1 R (an 41 32 R R R R (pls R R) so1 R (an 42 29 R R R R (pit R R) so1 R (aq 43 R (pif R R) so1 R (ae (wjm _ () (mtE t2) (su3 R R R) zn)))))))))))))
 exact af 33 32 R R R R R so1 R (af 34 32 R R R R R so1 R (af 35 32 R R R R R so1 R (af 36 32 R R R R R so1 R (af 37 32 R R R R R so1 R (af 38 32 R R R R R so1 R (af 39 32 R R R R R so1 R (af 40 32 R R R R R so1 R (af 41 32 R R R R R so1 R (an 42 29 R R R R (pif R R) so1 R (aq 43 R (pif R R) so1 R (ae (wjm _ () (mtE t2) (su3 R R R) zn))))))))))))
 intro j1 _ hp
 obtain rfl : j1 = y2 := hp.symm
 refine wqt (wcO t1 R (fun h7 t1 => ?_) fun h7 t1 => ?_)
 refine wcr (asg R R (wnt (wct (wbr (wqr (wqr (wbr (wqr (wqr ?_)))))))))
 replace t0 := lpR t0 l1 t1
 obtain rfl := oi t0
 exact wq1 R R fun w hw => ⟨R, hw.weak zn⟩
 refine wck (wqb (wqt (wcg (mv R R (wlq (po_inc R R (by omega)) R ?_)))))
 exact asg R R (wln (wq_rnd hk1 (stpN l1 t1) () (su2 R R) zn))
 have c1 : (decide (((k1 : Nat) : Int) < ((a_list.length : Nat) : Int))) = false := ddf (by omega)
 have en1 := foe l1 hk1
 exact wcs (wcr (mv R R (mv R R (wlq (pln (rga r0) el_35 R) R (wlq (pls R R) R (wnt (wff R c1 (wcx (wqe (wqe (wbx (wjm _ () en1 (su1 R) zn))))))))))))
 intro e1 _ hp
 replace t0 := sqE (j := e1) t0 hp
 refine wqt (wcr (mv R R (wlq (pln (rga r0) el_35 R) R (wlq (po_leq R R) R (asg R R (wnt (wct ?_)))))))
 obtain rfl := oi t0
 exact wq1 R R fun w hw => ⟨R, hw.weak zn⟩

theorem c_spec_CellOk (w : World) (a_c : GCell) {r : Bool} (t0 : spec_CellOk a_c = some r) : Calls Tryz.prog 137 #[.agg #[.int .i64 a_c.Split, .int .i64 a_c.A, .int .i64 a_c.B]] w fun e w' => e = .returned (.bool r) ∧ SH w [] [] w' := by
 refine cwc (args := [_]) Tryz.func137 R Tryz.ntmps137 R ?_
 unfold spec_CellOk at t0
 refine wcr (wle (eo_box R R) R fun b1 => (asg R R (wnt (wcs (wcs (bdO t0 fun y1 t1 t0 => (wj (J := Bool) (X := Unit) (fun z => y1 = z) (fun z _ => [(1, ptr b1 0), (18, .bool z)]) (fun _ _ => [box b1 [iv a_c.Split, iv a_c.A, iv a_c.B]]) ?_ ?_)))))))
 refine wcg (wlq (pof fo_125_0 R) R (wlq (v := iv a_c.Split) (plx tk_3 pz R R) R (bdO t1 fun v1 hv1 t1 => (wlc (cz0 fa_85 R fun w hw => c_spec_l01In w a_c.Split 0 2 hv1) R fun _ => (wlq (po_not R) R (mv R R (wlo (t := 7) t1 R (fun h1 t1 => ?_) fun h1 t1 => ?_)))))))
 exact wgf (j := 4) R R R R R (wgf (j := 4) R R R R R (wgf (j := 4) R R R R R (wgf (j := 4) R R R R R (wlq (pit R R) R (mv R R (wgf (j := 10) R R R R R (wgf (j := 10) R R R R R (wgf (j := 10) R R R R R (wgf (j := 10) R R R R R (wlq (pit R R) R (wln (wjm _ () (mtE t1) (su2 R R) so1))))))))))))
 refine wgn (j := 4) R R R (wlq (pof fo_125_1 R) R (wgn (j := 4) R R R (wlq (v := iv a_c.A) (plx tk_3 pz R R) R (bdO t1 fun v2 hv2 t1 => (wgn (j := 4) R R R (wlc (cz0 fa_85 R fun w hw => c_spec_l01In w a_c.A 0 5 hv2) R (fun _ => (wgn (j := 4) R R R (wlq (po_not R) R (wlq (pif R R) R (mv R R (wlo (t := 13) t1 R (fun h2 t1 => ?_) fun h2 t1 => ?_))))))))))))
 exact wgf (j := 10) R R R R R (wgf (j := 10) R R R R R (wgf (j := 10) R R R R R (wgf (j := 10) R R R R R (wlq (pit R R) R (wln (wjm _ () (mtE t1) (su2 R R) so1))))))
 exact wgn (j := 10) R R R (wlq (pof fo_125_2 R) R (wgn (j := 10) R R R (wlq (v := iv a_c.B) (plx tk_3 pz R R) R (bdO t1 fun v3 hv3 t1 => (wgn (j := 10) R R R (wlc (cz0 fa_85 R fun w hw => c_spec_l01In w a_c.B 0 5 hv3) R (fun _ => (wgn (j := 10) R R R (wlq (po_not R) R (wlq (pif R R) R (wln (wjm _ () (mtE t1) (su2 R R) so1))))))))))))
 intro j1 _ hp
 obtain rfl : j1 = y1 := hp.symm
 refine wqt (wcO t0 R (fun h3 t0 => ?_) fun h3 t0 => ?_)
 refine wcr (asg R R (wnt (wct (wqr ?_))))
 obtain rfl := oi t0
 exact wq1 R R fun w hw => ⟨R, hw.weak zn⟩
 refine wck (wqt (wcr (wlq (pof fo_125_0 R) R (wlq (v := iv a_c.Split) (plx tk_3 pz R R) R (wlq (pol R R) R (wlq (pof fo_125_1 R) R (wlq (v := iv a_c.A) (plx tk_3 pz R R) R (wlq (pof fo_125_2 R) R (wlq (v := iv a_c.B) (plx tk_3 pz R R) R (wlq (pol R R) R (wlq (po_eql_bool ub_4 R R) R (asg R R (wnt (wct ?_))))))))))))))
 obtain rfl := oi t0
 exact wq1 R R fun w hw => ⟨R, hw.weak zn⟩

theorem c_spec_BlockOk (w : World) (a_b : GBlock) (v0a : Hd) (r0 : rdF w (dm w []) (sl v0a) a_b.Cells) {r : Bool} (t0 : spec_BlockOk a_b = some r) : Calls Tryz.prog 116 #[.agg #[.int .i64 a_b.Size, (sl v0a)]] w fun e w' => e = .returned (.bool r) ∧ SH w [] [] w' := by
 refine cwc (args := [_]) Tryz.func116 R Tryz.ntmps116 R ?_
 unfold spec_BlockOk at t0
 refine wcr (wle (eo_box R R) R fun b1 => (asg R R (wnt (wcs (wcs (bdO t0 fun y1 t1 t0 => (wj (J := Bool) (X := Unit) (fun z => y1 = z) (fun z _ => [(1, ptr b1 0), (18, .bool z)]) (fun _ _ => [box b1 [iv a_b.Size, (sl v0a)]]) ?_ ?_)))))))
 refine wcg (wlq (pof fo_43_0 R) R (wlq (v := iv a_b.Size) (plx tk_3 pz R R) R (bdO t1 fun v1 hv1 t1 => (wlc (cz0 fa_85 R fun w hw => c_spec_l01In w a_b.Size 1 4 hv1) R fun _ => (wlq (po_not R) R (mv R R (wlo (t := 8) t1 R (fun h1 t1 => ?_) fun h1 t1 => ?_)))))))
 exact wgf (j := 4) R R R R R (wgf (j := 4) R R R R R (wgf (j := 4) R R R R R (wgf (j := 4) R R R R R (wgf (j := 4) R R R R R (wgf (j := 4) R R R R R (wgf (j := 4) R R R R R (wgf (j := 4) R R R R R (wgf (j := 4) R R R R R (wlq (pit R R) R (wln (wjm _ () (mtE t1) (su2 R R) so1)))))))))))
 exact wgn (j := 4) R R R (wlq (pof fo_43_1 R) R (wgn (j := 4) R R R (wlq (v := (sl v0a)) (plx tk_41 pz R R) R (wgn (j := 4) R R R (wlq (pln (rga r0) el_41 R) R (wgn (j := 4) R R R (wlq (pof fo_43_0 R) R (wgn (j := 4) R R R (wlq (v := iv a_b.Size) (plx tk_3 pz R R) R (wgn (j := 4) R R R (wlq (pof fo_43_0 R) R (wgn (j := 4) R R R (wlq (v := iv a_b.Size) (plx tk_3 pz R R) R (wgn (j := 4) R R R (wlq (po_mul R R) R (wgn (j := 4) R R R (wlq (po_neq R R) R (wlq (pif R R) R (wln (wjm _ () (mtE t1) (su2 R R) so1))))))))))))))))))))
 intro j1 _ hp
 obtain rfl : j1 = y1 := hp.symm
 refine wqt (wcO t0 R (fun h2 t0 => ?_) fun h2 t0 => ?_)
 refine wcr (asg R R (wnt (wct (wqr ?_))))
 obtain rfl := oi t0
 exact wq1 R R fun w hw => ⟨R, hw.weak zn⟩
 refine wck (wqt (wcs (wcr (asg R R (wnt (gdO t0 fun g1 t0 => (sqO t0 fun y1 l1 t0 => (wj (J := Unit) (X := Unit) (fun z => y1 = .inl z) (fun _ _ => []) (fun _ _ => []) ?_ ?_))))))))
 refine wcb (wcf (X := Unit) l1 (fun k1 s1 x1l => [(1, ptr b1 0), (3, iv ((k1 : Nat) : Int))]) (fun k1 s1 x1l => [box b1 [iv a_b.Size, (sl v0a)]]) () (su2 R R) so1 fun k1 s1 x1l hN1 l1 => ?_)
 by_cases hk1 : k1 < a_b.Cells.length
 refine fos l1 hk1 fun _ t1 l1 => ?_
 unfold spec_BlockOk_L1 at t1
 have c1 : (decide (((k1 : Nat) : Int) < ((a_b.Cells.length : Nat) : Int))) = true := ddt (by omega)
 refine wcs (wcr (mv R R (wlq (pof fo_43_1 R) R (wlq (v := (sl v0a)) (plx tk_41 pz R R) R (wlq (pln (rga r0) el_41 R) R (wlq (pls R R) R (wnt (wft R c1 (wck (wqt (wcs (wcb (wcr (wlq (pof fo_43_1 R) R (wlq (v := (sl v0a)) (plx tk_41 pz R R) R (mv R R (wlq (po_ixn (k := k1) (rga r0) el_41 R R hk1) R (wlq (v := .agg #[iv ((gx a_b.Cells k1).Split), iv ((gx a_b.Cells k1).A), iv ((gx a_b.Cells k1).B)]) (po_ldfs (rga r0) tk_125 R hk1 R R R) R (bdO t1 fun v2 hv2 t1 => (wlc (cz0 fa_137 R fun w hw => c_spec_CellOk w (gx a_b.Cells k1) hv2) R fun _ => (wlq (po_not R) R (wnt (wcO t1 R (fun h3 t1 => ?_) fun h3 t1 => ?_)))))))))))))))))))))))
 refine wcr (asg R R (wnt (wct (wbr (wqr (wqr (wbr (wqr (wqr ?_)))))))))
 replace t0 := lpR t0 l1 t1
 obtain rfl := oi t0
 exact wq1 R R fun w hw => ⟨R, hw.weak zn⟩
 refine wck (wqb (wqt (wcg (mv R R (wlq (po_inc R R (by omega)) R ?_)))))
 exact asg R R (wln (wq_rnd hk1 (stpN l1 t1) () (su2 R R) so1))
 have c1 : (decide (((k1 : Nat) : Int) < ((a_b.Cells.length : Nat) : Int))) = false := ddf (by omega)
 have en1 := foe l1 hk1
 exact wcs (wcr (mv R R (wlq (pof fo_43_1 R) R (wlq (v := (sl v0a)) (plx tk_41 pz R R) R (wlq (pln (rga r0) el_41 R) R (wlq (pls R R) R (wnt (wff R c1 (wcx (wqe (wqe (wbx (wjm _ () en1 yn zn)))))))))))))
 intro e1 _ hp
 replace t0 := sqE (j := e1) t0 hp
 refine wqt (wcr (asg R R (wnt (wct ?_))))
 obtain rfl := oi t0
 exact wq1 R R fun w hw => ⟨R, hw.weak zn⟩

theorem c_spec_EntryOk (w : World) (a_e : GEntry) (v0a : Hd) (r0 : rdF w (dm w []) (sl v0a) a_e.Block.Cells) {r : Bool} (t0 : spec_EntryOk a_e = some r) : Calls Tryz.prog 86 #[.agg #[.int .i64 a_e.Owner, .int .i64 a_e.Day, .int .i64 a_e.Block.Size, (sl v0a)]] w fun e w' => e = .returned (.bool r) ∧ SH w [] [] w' := by
 refine cwc (args := [_]) Tryz.func86 R Tryz.ntmps86 R ?_
 unfold spec_EntryOk at t0
 refine wcr (wle (eo_box R R) R fun b1 => (asg R R (wnt (wcs (bdO t0 fun y1 t1 t0 => (wj (J := Bool) (X := Unit) (fun z => y1 = z) (fun z _ => [(2, .bool z)]) (fun _ _ => []) ?_ ?_))))))
 refine wcg (wlq (pof fo_78_0 R) R (wlq (v := iv a_e.Owner) (plx tk_3 pz R R) R (bdO t1 fun v1 hv1 t1 => (wlc (cz0 fa_85 R fun w hw => c_spec_l01In w a_e.Owner 0 99 hv1) R fun _ => (mv R R (wlo (t := 6) t1 R (fun h1 t1 => ?_) fun h1 t1 => ?_))))))
 refine wgn (j := 3) R R R (wlq (pof fo_78_1 R) R (wgn (j := 3) R R R (wlq (v := iv a_e.Day) (plx tk_3 pz R R) R (bdO t1 fun v2 hv2 t1 => (wgn (j := 3) R R R (wlc (cz0 fa_85 R fun w hw => c_spec_l01In w a_e.Day 0 9999 hv2) R (fun _ => (wlq (pit R R) R (mv R R (wlo (t := 11) t1 R (fun h2 t1 => ?_) fun h2 t1 => ?_))))))))))
 exact wgn (j := 8) R R R (wlq (pof fo_78_2 R) R (wgn (j := 8) R R R (wlq (v := .agg #[iv a_e.Block.Size, (sl v0a)]) (plb tk_43 pz R R R) R (bdO t1 fun v3 hv3 t1 => (wgn (j := 8) R R R (wlc (cz0 fa_116 R fun w hw => c_spec_BlockOk w a_e.Block v0a (ra r0 hw) hv3) R (fun _ => (wlq (pit R R) R (asg R R (wln (wjm _ () (mtE t1) (su1 R) zn)))))))))))
 exact wgf (j := 8) R R R R R (wgf (j := 8) R R R R R (wgf (j := 8) R R R R R (wlq (pif R R) R (asg R R (wln (wjm _ () (mtE t1) (su1 R) zn))))))
 exact wgf (j := 3) R R R R R (wgf (j := 3) R R R R R (wgf (j := 3) R R R R R (wlq (pif R R) R (mv R R (wgf (j := 8) R R R R R (wgf (j := 8) R R R R R (wgf (j := 8) R R R R R (wlq (pif R R) R (asg R R (wln (wjm _ () (mtE t1) (su1 R) zn)))))))))))
 intro j1 _ hp
 obtain rfl : j1 = y1 := hp.symm
 refine wqt (wct ?_)
 obtain rfl := oi t0
 exact wq1 R R fun w hw => ⟨R, hw.weak zn⟩

theorem c_spec_l38Member (w : World) (a_list : List GMember) (v0a : Hd) (r0 : rdF w (dm w []) (sl v0a) a_list) (a_number : Int) {r : Bool} (t0 : spec_l38Member a_list a_number = some r) : Calls Tryz.prog 87 #[(sl v0a), .int .i64 a_number] w fun e w' => e = .returned (.bool r) ∧ SH w [] [] w' := by
 refine cwc (args := [_, _]) Tryz.func87 R Tryz.ntmps87 R ?_
 unfold spec_l38Member at t0
 refine wcr (asg R R (wnt (wcs (wcr (asg R R (wnt (gdO t0 fun g1 t0 => (sqO t0 fun y1 l1 t0 => (wj (J := Unit) (X := Unit) (fun z => y1 = .inl z) (fun _ _ => []) (fun _ _ => []) ?_ ?_)))))))))
 refine wcb (wcf (X := Unit) l1 (fun k1 s1 x1l => [(0, (sl v0a)), (1, iv a_number), (5, iv ((k1 : Nat) : Int))]) (fun k1 s1 x1l => []) () (su3 R R R) zn fun k1 s1 x1l hN1 l1 => ?_)
 by_cases hk1 : k1 < a_list.length
 refine fos l1 hk1 fun _ t1 l1 => ?_
 unfold spec_l38Member_L1 at t1
 have c1 : (decide (((k1 : Nat) : Int) < ((a_list.length : Nat) : Int))) = true := ddt (by omega)
 refine wcs (wcr (mv R R (mv R R (wlq (pln (rga r0) el_33 R) R (wlq (pls R R) R (wnt (wft R c1 (wck (wqt (wcs (wcb (wcr (mv R R (mv R R (wlq (po_ixn (k := k1) (rga r0) el_33 R R hk1) R (wlq (po_sfldr (rga r0) hk1 fo_116_0 R) R (wlq (v := iv ((gx a_list k1).Number)) (po_ldf (rga r0) tk_3 R hk1 R) R (mv R R (wlq (pol R R) R (wnt (wcO t1 R (fun h1 t1 => ?_) fun h1 t1 => ?_)))))))))))))))))))))
 refine wcr (asg R R (wnt (wct (wbr (wqr (wqr (wbr (wqr (wqr ?_)))))))))
 replace t0 := lpR t0 l1 t1
 obtain rfl := oi t0
 exact wq1 R R fun w hw => ⟨R, hw.weak zn⟩
 refine wck (wqb (wqt (wcg (mv R R (wlq (po_inc R R (by omega)) R ?_)))))
 exact asg R R (wln (wq_rnd hk1 (stpN l1 t1) () (su3 R R R) zn))
 have c1 : (decide (((k1 : Nat) : Int) < ((a_list.length : Nat) : Int))) = false := ddf (by omega)
 have en1 := foe l1 hk1
 exact wcs (wcr (mv R R (mv R R (wlq (pln (rga r0) el_33 R) R (wlq (pls R R) R (wnt (wff R c1 (wcx (wqe (wqe (wbx (wjm _ () en1 yn zn))))))))))))
 intro e1 _ hp
 replace t0 := sqE (j := e1) t0 hp
 refine wqt (wcr (asg R R (wnt (wct ?_))))
 obtain rfl := oi t0
 exact wq1 R R fun w hw => ⟨R, hw.weak zn⟩

theorem c_spec_GoodStanding (w : World) (a_list : List GMember) (v0a : Hd) (r0 : rdF w (dm w []) (sl v0a) a_list) (a_year : Int) {r : List Int} (t0 : spec_GoodStanding a_list a_year = some r) : Calls Tryz.prog 129 #[(sl v0a), .int .i64 a_year] w fun e w' => ∃ x : Hd, e = .returned ((sl x)) ∧ SH w [] [ownF (sl x) r] w' := by
 refine cwc (args := [_, _]) Tryz.func129 R Tryz.ntmps129 R ?_
 unfold spec_GoodStanding at t0
 refine wcr (asg R R (wnt (wcr (wle (ebs R sb_23_0) R fun b1 => (asg R R (wnt (wcs (wcr (asg R R (wnt (gdO t0 fun g1 t0 => (lpO_inv t0 fun y1 l1 t0 => (wj (J := List Int) (X := Hd) (fun z => y1 = z) (fun _ x => [(5, (sl x))]) (fun z x => [ownF (sl x) z]) ?_ ?_)))))))))))))
 refine wcb (wcf (X := Hd) l1 (fun k1 s1 x1l => [(0, (sl v0a)), (1, iv a_year), (5, (sl x1l)), (6, iv ((k1 : Nat) : Int))]) (fun k1 s1 x1l => [ownF (sl x1l) s1]) (⟨some ⟨b1, 0, none⟩, 0, 0⟩ : Hd) (su4 R R R R) (zc (pbo pz (n := 0) (xs := ([] : List Int)) R R (by unfold maxLen; omega)) zn) fun k1 s1 x1l hN1 l1 => ?_)
 by_cases hk1 : k1 < a_list.length
 refine fos l1 hk1 fun _ t1 l1 => ?_
 unfold spec_GoodStanding_L1 at t1
 have c1 : (decide (((k1 : Nat) : Int) < ((a_list.length : Nat) : Int))) = true := ddt (by omega)
 refine wcs (wcr (mv R R (mv R R (wlq (pln (rga r0) el_33 R) R (wlq (pls R R) R (mv R R (wl_know (t := 12) R c1 (wgn (j := 4) R R R (mv R R (bdO t1 fun v1 hv1 t1 => (wgn (j := 4) R R R (wlc (cz0 fa_82 R fun w hw => c_spec_MembersOk w a_list v0a (ra r0 hw) hv1) R (fun _ => (wlq (pit R R) R (wnt (wcO t1 R (fun h1 t1 => ?_) fun h1 t1 => ?_))))))))))))))))
 refine wck (wqt (wcs (wcb (wcr (mv R R (mv R R (wlq (po_ixn (k := k1) (rga r0) el_33 R R hk1) R (wlq (po_sfldr (rga r0) hk1 fo_116_2 R) R (wlq (v := iv ((gx a_list k1).Paid)) (po_ldf (rga r0) tk_3 R hk1 R) R (mv R R (wlq (po_geq R R) R (wnt (bdO t1 fun y2 t2 t1 => (wj (J := List Int) (X := Hd) (fun z => y2 = z) (fun _ x => [(0, (sl v0a)), (1, iv a_year), (5, (sl x)), (6, iv ((k1 : Nat) : Int)), (13, (sl v0a)), (14, .bool v1)]) (fun z x => [ownF (sl x) z]) ?_ ?_))))))))))))))
 refine wcO t2 R (fun h2 t2 => ?_) fun h2 t2 => ?_
 refine wcg (mv R R (mv R R (mv R R (wlq (po_ixn (k := k1) (rga r0) el_33 R R hk1) R (wlq (po_sfldr (rga r0) hk1 fo_116_0 R) R (wlq (v := iv ((gx a_list k1).Number)) (po_ldf (rga r0) tk_3 R hk1 R) R (wle (ebs R (sb_23_1 ((gx a_list k1).Number))) R fun b2 => (gdO t2 fun g2 t2 => (wle (eo_append (xs := s1) (ys := ([(gx a_list k1).Number] : List Int)) ak_23 pk1 R R (slin_rd fun _ g => Rg.on (rgo (pbo pz (n := 1) (xs := ([(gx a_list k1).Number] : List Int)) R R (by unfold maxLen; omega))) g) g2) R fun x3 => ?_)))))))))
 exact asg R R (wln (wjm _ x3 (mtE t2) (su6 R R R R R R) so1))
 exact wck (wjm _ x1l (mtE t2) (su6 R R R R R R) so1)
 intro j1 x2 hp
 obtain rfl : j1 = y2 := hp.symm
 refine wqb (wqt (wcg (mv R R (wlq (po_inc R R (by omega)) R ?_))))
 exact asg R R (wln (wq_rnd hk1 (stpN l1 t1) x2 (su4 R R R R) so1))
 exact wcx (wqe (wqe (wbx (wjm _ x1l (Sum.inl.inj (stpB l1 t1)) (su1 R) so1))))
 have c1 : (decide (((k1 : Nat) : Int) < ((a_list.length : Nat) : Int))) = false := ddf (by omega)
 have en1 := foe l1 hk1
 exact wcs (wcr (mv R R (mv R R (wlq (pln (rga r0) el_33 R) R (wlq (pls R R) R (mv R R (wl_know (t := 12) R c1 (wgf (j := 4) R R R R R (wgf (j := 4) R R R R R (wlq (pif R R) R (wnt (wff R R (wcx (wqe (wqe (wbx (wjm _ x1l (Sum.inl.inj en1) (su1 R) so1)))))))))))))))))
 intro e1 x1 hp
 obtain rfl : e1 = y1 := hp.symm
 refine wqt (wcr (mv R R (asg R R (wnt (wct ?_)))))
 obtain rfl := oi t0
 exact wq1 R R fun w hw => ⟨x1, R, hw.weak so1⟩

theorem c_spec_SwapRounds (w : World) (a_g : GGuild) (v0a : Hd) (r0 : rdF w (dm w []) (sl v0a) a_g.Members) (v1a : Hd) (_r1 : rdF w (dm w []) (sl v1a) a_g.Stock) (v2a : Hd) (u2a : List Value) (_r2 : RdL w (dm w []) (sl v2a) u2a a_g.Entries) (v3a : Hd) (_r3 : rdF w (dm w []) (sl v3a) a_g.Books) {r : Int} (t0 : spec_SwapRounds a_g = some r) : Calls Tryz.prog 88 #[.agg #[(sl v0a), (sl v1a), (sl v2a), (sl v3a), .int .i64 a_g.Round, .int .i64 a_g.Year]] w fun e w' => e = .returned (.int .i64 r) ∧ SH w [] [] w' := by
 refine cwc (args := [_]) Tryz.func88 R Tryz.ntmps88 R ?_
 unfold spec_SwapRounds at t0
 refine wcr (wle (eo_box R R) R fun b1 => (asg R R (wnt (wcr (wlq (pof fo_37_0 R) R (wlq (v := (sl v0a)) (plx tk_33 pz R R) R (wlq (pof fo_37_5 R) R (wlq (v := iv a_g.Year) (plx tk_3 pz R R) R (bdO t0 fun v1 hv1 t0 => (wlc (cz1 fa_129 R fun w hw => c_spec_GoodStanding w a_g.Members v0a (ra r0 hw) a_g.Year hv1) R fun x1 => (wlq (pln (rgo pz) el_23 R) R (asg R R (wnt (wcs (wcr (mv R R (bdO t0 fun v2 hv2 t0 => (wlc (cz0 fa_85 R fun w hw => c_spec_l01In w ((v1.length : Nat) : Int) 2 10 hv2) R fun _ => (wlq (po_not R) R (wnt (wcO t0 R (fun h1 t0 => ?_) fun h1 t0 => ?_)))))))))))))))))))))
 refine wcr (asg R R (wnt (wct (wqr ?_))))
 obtain rfl := oi t0
 exact wq1 R R fun w hw => ⟨R, hw.weak zn⟩
 refine wck (wqt (wcr (mv R R (wlq (po_sub R R) R (asg R R (wnt (wct ?_)))))))
 obtain rfl := oi t0
 exact wq1 R R fun w hw => ⟨R, hw.weak zn⟩

end Go.Proofs.YtlfhlajpdmcnaacGreatDoor
