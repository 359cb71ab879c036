/-
 Each Go function computes its Lean function (part 1).
-/
import Derived.Test.YtkahnmhkfmjomacGreatDoorLibs
namespace Go.Proofs.YtkahnmhkfmjomacGreatDoor
open Go Go.RowKit Go.Proofs
set_option maxRecDepth 100000

theorem c_laws_szMemberS (w : World) (a_a : List GMember) (v0a : Hd) (r0 : rdF w (dm w []) (sl v0a) a_a) (a_left : Int) {r : Int} (t0 : laws_szMemberS a_a a_left = some r) : Calls Tryz.prog 13 #[(sl v0a), .int .i64 a_left] w fun e w' => e = .returned (.int .i64 r) ∧ SH w [] [] w' := by
 refine cwc (args := [_, _]) Tryz.func13 R Tryz.ntmps13 R ?_
 unfold laws_szMemberS at t0
 refine wcr (asg R R (wnt (wcr (mv R R (mv R R (wlq (pln (rga r0) el_22 R) R (wlq (po_sub R R) R (asg R R (wnt (wcs (wcr (mv R R (wlq (pls R R) R (wnt (wcO t0 R (fun h1 t0 => ?_) fun h1 t0 => ?_)))))))))))))))
 refine wcr (asg R R (wnt (wct (wqr ?_))))
 obtain rfl := oi t0
 exact wq1 R R fun w hw => ⟨R, hw.weak zn⟩
 refine wck (wqt (wcr (mv R R (asg R R (wnt (wct ?_))))))
 obtain rfl := oi t0
 exact wq1 R R fun w hw => ⟨R, hw.weak zn⟩

theorem c_laws_szIntS (w : World) (a_a : List Int) (v0a : Hd) (r0 : rdF w (dm w []) (sl v0a) a_a) (a_left : Int) {r : Int} (t0 : laws_szIntS a_a a_left = some r) : Calls Tryz.prog 14 #[(sl v0a), .int .i64 a_left] w fun e w' => e = .returned (.int .i64 r) ∧ SH w [] [] w' := by
 refine cwc (args := [_, _]) Tryz.func14 R Tryz.ntmps14 R ?_
 unfold laws_szIntS at t0
 refine wcr (asg R R (wnt (wcr (mv R R (mv R R (wlq (pln (rga r0) el_23 R) R (wlq (po_sub R R) R (asg R R (wnt (wcs (wcr (mv R R (wlq (pls R R) R (wnt (wcO t0 R (fun h1 t0 => ?_) fun h1 t0 => ?_)))))))))))))))
 refine wcr (asg R R (wnt (wct (wqr ?_))))
 obtain rfl := oi t0
 exact wq1 R R fun w hw => ⟨R, hw.weak zn⟩
 refine wck (wqt (wcr (mv R R (asg R R (wnt (wct ?_))))))
 obtain rfl := oi t0
 exact wq1 R R fun w hw => ⟨R, hw.weak zn⟩

theorem c_laws_szCellS (w : World) (a_a : List GCell) (v0a : Hd) (r0 : rdF w (dm w []) (sl v0a) a_a) (a_left : Int) {r : Int} (t0 : laws_szCellS a_a a_left = some r) : Calls Tryz.prog 80 #[(sl v0a), .int .i64 a_left] w fun e w' => e = .returned (.int .i64 r) ∧ SH w [] [] w' := by
 refine cwc (args := [_, _]) Tryz.func80 R Tryz.ntmps80 R ?_
 unfold laws_szCellS at t0
 refine wcr (asg R R (wnt (wcr (mv R R (mv R R (wlq (pln (rga r0) el_70 R) R (wlq (po_sub R R) R (asg R R (wnt (wcs (wcr (mv R R (wlq (pls R R) R (wnt (wcO t0 R (fun h1 t0 => ?_) fun h1 t0 => ?_)))))))))))))))
 refine wcr (asg R R (wnt (wct (wqr ?_))))
 obtain rfl := oi t0
 exact wq1 R R fun w hw => ⟨R, hw.weak zn⟩
 refine wck (wqt (wcr (mv R R (asg R R (wnt (wct ?_))))))
 obtain rfl := oi t0
 exact wq1 R R fun w hw => ⟨R, hw.weak zn⟩

theorem c_laws_szBlock (w : World) (a_a : GBlock) (v0a : Hd) (r0 : rdF w (dm w []) (sl v0a) a_a.Cells) (a_left : Int) {r : Int} (t0 : laws_szBlock a_a a_left = some r) : Calls Tryz.prog 69 #[.agg #[.int .i64 a_a.Size, (sl v0a)], .int .i64 a_left] w fun e w' => e = .returned (.int .i64 r) ∧ SH w [] [] w' := by
 refine cwc (args := [_, _]) Tryz.func69 R Tryz.ntmps69 R ?_
 unfold laws_szBlock at t0
 refine wcr (wle (eo_box R R) R fun b1 => (asg R R (wnt (wcr (wlq (pof fo_72_1 R) R (wlq (v := (sl v0a)) (plx tk_70 pz R R) R (mv R R (bdO t0 fun v1 hv1 t0 => (wlc (cz0 fa_80 R fun w hw => c_laws_szCellS w a_a.Cells v0a (ra r0 hw) a_left hv1) R fun _ => (asg R R (wnt (wcs (wcr (mv R R (wlq (pls R R) R (wnt (wcO t0 R (fun h1 t0 => ?_) fun h1 t0 => ?_)))))))))))))))))
 refine wcr (asg R R (wnt (wct (wqr ?_))))
 obtain rfl := oi t0
 exact wq1 R R fun w hw => ⟨R, hw.weak zn⟩
 refine wck (wqt (wcr (mv R R (asg R R (wnt (wct ?_))))))
 obtain rfl := oi t0
 exact wq1 R R fun w hw => ⟨R, hw.weak zn⟩

theorem c_laws_szEntry (w : World) (a_a : GEntry) (v0a : Hd) (r0 : rdF w (dm w []) (sl v0a) a_a.Block.Cells) (a_left : Int) {r : Int} (t0 : laws_szEntry a_a a_left = some r) : Calls Tryz.prog 39 #[.agg #[.int .i64 a_a.Owner, .int .i64 a_a.Day, .int .i64 a_a.Block.Size, (sl v0a)], .int .i64 a_left] w fun e w' => e = .returned (.int .i64 r) ∧ SH w [] [] w' := by
 refine cwc (args := [_, _]) Tryz.func39 R Tryz.ntmps39 R ?_
 unfold laws_szEntry at t0
 refine wcr (wle (eo_box R R) R fun b1 => (asg R R (wnt (wcr (wlq (pof fo_74_2 R) R (wlq (v := .agg #[iv a_a.Block.Size, (sl v0a)]) (plb tk_72 pz R R R) R (mv R R (bdO t0 fun v1 hv1 t0 => (wlc (cz0 fa_69 R fun w hw => c_laws_szBlock w a_a.Block v0a (ra r0 hw) a_left hv1) R fun _ => (asg R R (wnt (wcs (wcr (mv R R (wlq (pls R R) R (wnt (wcO t0 R (fun h1 t0 => ?_) fun h1 t0 => ?_)))))))))))))))))
 refine wcr (asg R R (wnt (wct (wqr ?_))))
 obtain rfl := oi t0
 exact wq1 R R fun w hw => ⟨R, hw.weak zn⟩
 refine wck (wqt (wcr (mv R R (asg R R (wnt (wct ?_))))))
 obtain rfl := oi t0
 exact wq1 R R fun w hw => ⟨R, hw.weak zn⟩

theorem c_laws_szEntryS (w : World) (a_a : List GEntry) (v0a : Hd) (u0a : List Value) (r0 : RdL w (dm w []) (sl v0a) u0a a_a) (a_left : Int) {r : Int} (t0 : laws_szEntryS a_a a_left = some r) : Calls Tryz.prog 15 #[(sl v0a), .int .i64 a_left] w fun e w' => e = .returned (.int .i64 r) ∧ SH w [] [] w' := by
 refine cwc (args := [_, _]) Tryz.func15 R Tryz.ntmps15 R ?_
 unfold laws_szEntryS at t0
 refine wcr (asg R R (wnt (wcr (mv R R (mv R R (wlq (pln (rga r0) el_24 R) R (wlq (po_sub R R) R (asg R R (wnt (wcs (wcr (mv R R (wlq (pls R R) R (wnt (wcO t0 R (fun h1 t0 => ?_) fun h1 t0 => ?_)))))))))))))))
 refine wcr (asg R R (wnt (wct (wqr ?_))))
 obtain rfl := oi t0
 exact wq1 R R fun w hw => ⟨R, hw.weak zn⟩
 refine wck (wqt (wcs (wcr (asg R R (wnt (gdO t0 fun g1 t0 => (sqO t0 fun y1 l1 t0 => (wj (J := Int) (X := Unit) (fun z => y1 = .inl z) (fun z _ => [(1, iv z)]) (fun _ _ => []) ?_ ?_))))))))
 refine wcb (wcf (X := Unit) l1 (fun k1 s1 x1l => [(0, (sl v0a)), (1, iv s1), (5, iv ((k1 : Nat) : Int))]) (fun k1 s1 x1l => []) () (su3 R R R) zn fun k1 s1 x1l hN1 l1 => ?_)
 by_cases hk1 : k1 < a_a.length
 refine fos l1 hk1 fun _ t1 l1 => ?_
 unfold laws_szEntryS_L1 at t1
 have c1 : (decide (((k1 : Nat) : Int) < ((a_a.length : Nat) : Int))) = true := ddt (by omega)
 refine wcs (wcr (mv R R (mv R R (wlq (pln (rga r0) el_24 R) R (wlq (pls R R) R (wnt (wft R c1 (wck (wqt (wcs (wcb (wcr (mv R R (mv R R (wlq (po_ixn (k := k1) (rga r0) el_24 R R hk1) R (wl_elem (rga r0) hk1 ?_))))))))))))))))
 rintro ⟨_, _, he1⟩
 obtain ⟨w1, hc1, _⟩ := rd_GEntry.1 he1
 refine wlq (v := .agg #[iv ((gx a_a k1).Owner), iv ((gx a_a k1).Day), iv (((gx a_a k1).Block).Size), (sl w1)]) (po_ldns (rga r0) tk_74 R hc1 R R R) R (mv R R (bdO t1 fun v1 hv1 t1 => (wlc (cz0 fa_39 R fun w hw => c_laws_szEntry w (gx a_a k1) w1 (Rg.on (er_GEntry_0 hc1 (rga r0) hk1) hw) s1 hv1) R fun _ => (asg R R (wnt (wcr (mv R R (wlq (pls R R) R (wnt (wcO t1 R (fun h2 t1 => ?_) fun h2 t1 => ?_))))))))))
 refine wcr (asg R R (wnt (wct (wbr (wqr (wqr (wbr (wqr (wqr ?_)))))))))
 replace t0 := lpR t0 l1 t1
 obtain rfl := oi t0
 exact wq1 R R fun w hw => ⟨R, hw.weak zn⟩
 refine wck (wqb (wqt (wcg (mv R R (wlq (po_inc R R (by omega)) R ?_)))))
 exact asg R R (wln (wq_rnd hk1 (stpN l1 t1) () (su3 R R R) zn))
 have c1 : (decide (((k1 : Nat) : Int) < ((a_a.length : Nat) : Int))) = false := ddf (by omega)
 have en1 := foe l1 hk1
 exact wcs (wcr (mv R R (mv R R (wlq (pln (rga r0) el_24 R) R (wlq (pls R R) R (wnt (wff R c1 (wcx (wqe (wqe (wbx (wjm _ () en1 (su1 R) zn))))))))))))
 intro e1 _ hp
 replace t0 := sqE (j := e1) t0 hp
 refine wqt (wcr (mv R R (asg R R (wnt (wct ?_)))))
 obtain rfl := oi t0
 exact wq1 R R fun w hw => ⟨R, hw.weak zn⟩

theorem c_laws_szBookingS (w : World) (a_a : List GBooking) (v0a : Hd) (r0 : rdF w (dm w []) (sl v0a) a_a) (a_left : Int) {r : Int} (t0 : laws_szBookingS a_a a_left = some r) : Calls Tryz.prog 16 #[(sl v0a), .int .i64 a_left] w fun e w' => e = .returned (.int .i64 r) ∧ SH w [] [] w' := by
 refine cwc (args := [_, _]) Tryz.func16 R Tryz.ntmps16 R ?_
 unfold laws_szBookingS at t0
 refine wcr (asg R R (wnt (wcr (mv R R (mv R R (wlq (pln (rga r0) el_25 R) R (wlq (po_sub R R) R (asg R R (wnt (wcs (wcr (mv R R (wlq (pls R R) R (wnt (wcO t0 R (fun h1 t0 => ?_) fun h1 t0 => ?_)))))))))))))))
 refine wcr (asg R R (wnt (wct (wqr ?_))))
 obtain rfl := oi t0
 exact wq1 R R fun w hw => ⟨R, hw.weak zn⟩
 refine wck (wqt (wcr (mv R R (asg R R (wnt (wct ?_))))))
 obtain rfl := oi t0
 exact wq1 R R fun w hw => ⟨R, hw.weak zn⟩

theorem c_laws_szGuild (w : World) (a_a : GGuild) (v0a : Hd) (r0 : rdF w (dm w []) (sl v0a) a_a.Members) (v1a : Hd) (r1 : rdF w (dm w []) (sl v1a) a_a.Stock) (v2a : Hd) (u2a : List Value) (r2 : RdL w (dm w []) (sl v2a) u2a a_a.Entries) (v3a : Hd) (r3 : rdF w (dm w []) (sl v3a) a_a.Books) (a_left : Int) {r : Int} (t0 : laws_szGuild a_a a_left = some r) : Calls Tryz.prog 4 #[.agg #[(sl v0a), (sl v1a), (sl v2a), (sl v3a), .int .i64 a_a.Round, .int .i64 a_a.Year], .int .i64 a_left] w fun e w' => e = .returned (.int .i64 r) ∧ SH w [] [] w' := by
 refine cwc (args := [_, _]) Tryz.func4 R Tryz.ntmps4 R ?_
 unfold laws_szGuild at t0
 refine wcr (wle (eo_box R R) R fun b1 => (asg R R (wnt (wcr (wlq (pof fo_27_0 R) R (wlq (v := (sl v0a)) (plx tk_22 pz R R) R (mv R R (bdO t0 fun v1 hv1 t0 => (wlc (cz0 fa_13 R fun w hw => c_laws_szMemberS w a_a.Members v0a (ra r0 hw) a_left hv1) R fun _ => (asg R R (wnt (wcs (wcr (mv R R (wlq (pls R R) R (wnt (wcO t0 R (fun h1 t0 => ?_) fun h1 t0 => ?_)))))))))))))))))
 refine wcr (asg R R (wnt (wct (wqr ?_))))
 obtain rfl := oi t0
 exact wq1 R R fun w hw => ⟨R, hw.weak zn⟩
 refine wck (wqt (wcr (wlq (pof fo_27_1 R) R (wlq (v := (sl v1a)) (plx tk_23 pz R R) R (mv R R (bdO t0 fun v2 hv2 t0 => (wlc (cz0 fa_14 R fun w hw => c_laws_szIntS w a_a.Stock v1a (ra r1 hw) v1 hv2) R fun _ => (asg R R (wnt (wcs (wcr (mv R R (wlq (pls R R) R (wnt (wcO t0 R (fun h2 t0 => ?_) fun h2 t0 => ?_)))))))))))))))
 refine wcr (asg R R (wnt (wct (wqr ?_))))
 obtain rfl := oi t0
 exact wq1 R R fun w hw => ⟨R, hw.weak zn⟩
 refine wck (wqt (wcr (wlq (pof fo_27_2 R) R (wlq (v := (sl v2a)) (plx tk_24 pz R R) R (mv R R (bdO t0 fun v3 hv3 t0 => (wlc (cz0 fa_15 R fun w hw => c_laws_szEntryS w a_a.Entries v2a u2a (ra r2 hw) v2 hv3) R fun _ => (asg R R (wnt (wcs (wcr (mv R R (wlq (pls R R) R (wnt (wcO t0 R (fun h3 t0 => ?_) fun h3 t0 => ?_)))))))))))))))
 refine wcr (asg R R (wnt (wct (wqr ?_))))
 obtain rfl := oi t0
 exact wq1 R R fun w hw => ⟨R, hw.weak zn⟩
 refine wck (wqt (wcr (wlq (pof fo_27_3 R) R (wlq (v := (sl v3a)) (plx tk_25 pz R R) R (mv R R (bdO t0 fun v4 hv4 t0 => (wlc (cz0 fa_16 R fun w hw => c_laws_szBookingS w a_a.Books v3a (ra r3 hw) v3 hv4) R fun _ => (asg R R (wnt (wcs (wcr (mv R R (wlq (pls R R) R (wnt (wcO t0 R (fun h4 t0 => ?_) fun h4 t0 => ?_)))))))))))))))
 refine wcr (asg R R (wnt (wct (wqr ?_))))
 obtain rfl := oi t0
 exact wq1 R R fun w hw => ⟨R, hw.weak zn⟩
 refine wck (wqt (wcr (mv R R (asg R R (wnt (wct ?_))))))
 obtain rfl := oi t0
 exact wq1 R R fun w hw => ⟨R, hw.weak zn⟩

theorem c_laws_toMember (w : World) (a_a : GMember) {r : GMember} (t0 : laws_toMember a_a = some r) : Calls Tryz.prog 50 #[.agg #[.int .i64 a_a.Number, .int .i64 a_a.Since, .int .i64 a_a.Paid]] w fun e w' => e = .returned (.agg #[.int .i64 r.Number, .int .i64 r.Since, .int .i64 r.Paid]) ∧ SH w [] [] w' := by
 refine cwc (args := [_]) Tryz.func50 R Tryz.ntmps50 R ?_
 unfold laws_toMember at t0
 refine wcr (wle (eo_box R R) R fun b1 => (wle (eal (cs := [iv 0, iv 0, iv 0]) za_49) R fun b2 => (wnt (wcr (wle (eal (cs := [iv 0, iv 0, iv 0]) za_49) R fun b3 => (wnt (wcr (wlq (pof fo_89_0 R) R (wlq (v := iv a_a.Number) (plx tk_3 pk2 R R) R (wlq (pof fo_49_0 R) R (wls (sbx (cs' := [iv a_a.Number, iv 0, iv 0]) tk_3 pz R R R R R R R) (wnt (wcr (wlq (pof fo_89_1 R) R (wlq (v := iv a_a.Since) (plx tk_3 pk2 R R) R (wlq (pof fo_49_1 R) R (wls (sbx (cs' := [iv a_a.Number, iv a_a.Since, iv 0]) tk_3 pz R R R R R R R) (wnt (wcr (wlq (pof fo_89_2 R) R (wlq (v := iv a_a.Paid) (plx tk_3 pk2 R R) R (wlq (pof fo_49_2 R) R (wls (sbx (cs' := [iv a_a.Number, iv a_a.Since, iv a_a.Paid]) tk_3 pz R R R R R R R) (wnt (wcr (wlq (v := .agg #[iv a_a.Number, iv a_a.Since, iv a_a.Paid]) (plb tk_49 pz R R R) R (wls (sbx (cs' := [iv a_a.Number, iv a_a.Since, iv a_a.Paid]) tk_49 pk1 R R R R R R R) (wnt (wct ?_)))))))))))))))))))))))))))))
 obtain rfl := oi t0
 exact wqc R tk_49 R pz R fun w hw => ⟨R, hw.weak zn⟩

theorem c_laws_toMemberS (w : World) (a_a : List GMember) (v0a : Hd) (r0 : rdF w (dm w []) (sl v0a) a_a) {r : List GMember} (t0 : laws_toMemberS a_a = some r) : Calls Tryz.prog 21 #[(sl v0a)] w fun e w' => ∃ x : Hd, e = .returned ((sl x)) ∧ SH w [] [ownF (sl x) r] w' := by
 refine cwc (args := [_]) Tryz.func21 R Tryz.ntmps21 R ?_
 unfold laws_toMemberS at t0
 refine wcr (asg R R (wnt (wcr (mv R R (wlq (pln (rga r0) el_22 R) R (gdO t0 fun g1 t0 => (wle (eo_make_ (n := a_a.length) ((GMember.mk 0 0 0) : GMember) mk_31 R R R g1 R) R fun x1 => (asg R R (wnt (wcs (wcr (asg R R (wnt (gdO t0 fun g2 t0 => (lpO_inv t0 fun y1 l1 t0 => (wj (J := List GMember) (X := Unit) (fun z => y1 = z) (fun _ _ => [(3, (sl x1))]) (fun z _ => [ownF (sl x1) z]) ?_ ?_))))))))))))))))
 refine wcb (wcf (X := Unit) l1 (fun k1 s1 x1l => [(0, (sl v0a)), (3, (sl x1)), (4, iv ((k1 : Nat) : Int))]) (fun k1 s1 x1l => [ownF (sl x1) s1]) () (su3 R R R) so1 fun k1 s1 x1l hN1 l1 => ?_)
 by_cases hk1 : k1 < a_a.length
 refine fos l1 hk1 fun _ t1 l1 => ?_
 unfold laws_toMemberS_L1 at t1
 have c1 : (decide (((k1 : Nat) : Int) < ((a_a.length : Nat) : Int))) = true := ddt (by omega)
 refine wcs (wcr (mv R R (mv R R (wlq (pln (rga r0) el_22 R) R (wlq (pls R R) R (wnt (wft R c1 (wck (wqt (wcs (wcb (wcg (mv R R (mv R R (mv R R (mv R R (wlq (po_ixn (k := k1) (rga r0) el_22 R R hk1) R (wlq (v := .agg #[iv ((gx a_a k1).Number), iv ((gx a_a k1).Since), iv ((gx a_a k1).Paid)]) (po_ldfs (rga r0) tk_89 R hk1 R R R) R (bdO t1 fun v1 hv1 t1 => (wlc (cz0 fa_50 R fun w hw => c_laws_toMember w (gx a_a k1) hv1) R fun _ => (gdO t1 fun g3 t1 => (wlq (po_ixn (k := k1) (rgo pz) el_31 R R g3) R (wls (so_own (x' := v1) tk_49 pz R R R R R R g3 R) (wln (wqb (wqt (wcg (mv R R (wlq (po_inc R R (by omega)) R ?_)))))))))))))))))))))))))))))
 exact asg R R (wln (wq_rnd hk1 (stpN l1 t1) () (su3 R R R) so1))
 have c1 : (decide (((k1 : Nat) : Int) < ((a_a.length : Nat) : Int))) = false := ddf (by omega)
 have en1 := foe l1 hk1
 exact wcs (wcr (mv R R (mv R R (wlq (pln (rga r0) el_22 R) R (wlq (pls R R) R (wnt (wff R c1 (wcx (wqe (wqe (wbx (wjm _ () (Sum.inl.inj en1) (su1 R) so1))))))))))))
 intro e1 _ hp
 obtain rfl : e1 = y1 := hp.symm
 refine wqt (wcr (mv R R (asg R R (wnt (wct ?_)))))
 obtain rfl := oi t0
 exact wq1 R R fun w hw => ⟨x1, R, hw.weak so1⟩

theorem c_laws_toIntS (w : World) (a_a : List Int) (v0a : Hd) (r0 : rdF w (dm w []) (sl v0a) a_a) {r : List Int} (t0 : laws_toIntS a_a = some r) : Calls Tryz.prog 22 #[(sl v0a)] w fun e w' => ∃ x : Hd, e = .returned ((sl x)) ∧ SH w [] [ownF (sl x) r] w' := by
 refine cwc (args := [_]) Tryz.func22 R Tryz.ntmps22 R ?_
 unfold laws_toIntS at t0
 refine wcr (asg R R (wnt (wcr (mv R R (wlq (pln (rga r0) el_23 R) R (gdO t0 fun g1 t0 => (wle (eo_make_ (n := a_a.length) (0 : Int) mk_23 R R R g1 R) R fun x1 => (asg R R (wnt (wcs (wcr (asg R R (wnt (gdO t0 fun g2 t0 => (lpO_inv t0 fun y1 l1 t0 => (wj (J := List Int) (X := Unit) (fun z => y1 = z) (fun _ _ => [(3, (sl x1))]) (fun z _ => [ownF (sl x1) z]) ?_ ?_))))))))))))))))
 refine wcb (wcf (X := Unit) l1 (fun k1 s1 x1l => [(0, (sl v0a)), (3, (sl x1)), (4, iv ((k1 : Nat) : Int))]) (fun k1 s1 x1l => [ownF (sl x1) s1]) () (su3 R R R) so1 fun k1 s1 x1l hN1 l1 => ?_)
 by_cases hk1 : k1 < a_a.length
 refine fos l1 hk1 fun _ t1 l1 => ?_
 unfold laws_toIntS_L1 at t1
 have c1 : (decide (((k1 : Nat) : Int) < ((a_a.length : Nat) : Int))) = true := ddt (by omega)
 refine wcs (wcr (mv R R (mv R R (wlq (pln (rga r0) el_23 R) R (wlq (pls R R) R (wnt (wft R c1 (wck (wqt (wcs (wcb (wcg (mv R R (mv R R (mv R R (mv R R (wlq (po_ixn (k := k1) (rga r0) el_23 R R hk1) R (wlq (v := iv (gx a_a k1)) (po_ldf (rga r0) tk_3 R hk1 R) R (gdO t1 fun g3 t1 => (wlq (po_ixn (k := k1) (rgo pz) el_23 R R g3) R (wls (so_own (x' := (gx a_a k1)) tk_3 pz R R R R R R g3 R) (wln (wqb (wqt (wcg (mv R R (wlq (po_inc R R (by omega)) R ?_)))))))))))))))))))))))))))
 exact asg R R (wln (wq_rnd hk1 (stpN l1 t1) () (su3 R R R) so1))
 have c1 : (decide (((k1 : Nat) : Int) < ((a_a.length : Nat) : Int))) = false := ddf (by omega)
 have en1 := foe l1 hk1
 exact wcs (wcr (mv R R (mv R R (wlq (pln (rga r0) el_23 R) R (wlq (pls R R) R (wnt (wff R c1 (wcx (wqe (wqe (wbx (wjm _ () (Sum.inl.inj en1) (su1 R) so1))))))))))))
 intro e1 _ hp
 obtain rfl : e1 = y1 := hp.symm
 refine wqt (wcr (mv R R (asg R R (wnt (wct ?_)))))
 obtain rfl := oi t0
 exact wq1 R R fun w hw => ⟨x1, R, hw.weak so1⟩

theorem c_laws_toCell (w : World) (a_a : GCell) {r : GCell} (t0 : laws_toCell a_a = some r) : Calls Tryz.prog 87 #[.agg #[.int .i64 a_a.Split, .int .i64 a_a.A, .int .i64 a_a.B]] w fun e w' => e = .returned (.agg #[.int .i64 r.Split, .int .i64 r.A, .int .i64 r.B]) ∧ SH w [] [] w' := by
 refine cwc (args := [_]) Tryz.func87 R Tryz.ntmps87 R ?_
 unfold laws_toCell at t0
 refine wcr (wle (eo_box R R) R fun b1 => (wle (eal (cs := [iv 0, iv 0, iv 0]) za_86) R fun b2 => (wnt (wcr (wle (eal (cs := [iv 0, iv 0, iv 0]) za_86) R fun b3 => (wnt (wcr (wlq (pof fo_123_0 R) R (wlq (v := iv a_a.Split) (plx tk_3 pk2 R R) R (wlq (pof fo_86_0 R) R (wls (sbx (cs' := [iv a_a.Split, iv 0, iv 0]) tk_3 pz R R R R R R R) (wnt (wcr (wlq (pof fo_123_1 R) R (wlq (v := iv a_a.A) (plx tk_3 pk2 R R) R (wlq (pof fo_86_1 R) R (wls (sbx (cs' := [iv a_a.Split, iv a_a.A, iv 0]) tk_3 pz R R R R R R R) (wnt (wcr (wlq (pof fo_123_2 R) R (wlq (v := iv a_a.B) (plx tk_3 pk2 R R) R (wlq (pof fo_86_2 R) R (wls (sbx (cs' := [iv a_a.Split, iv a_a.A, iv a_a.B]) tk_3 pz R R R R R R R) (wnt (wcr (wlq (v := .agg #[iv a_a.Split, iv a_a.A, iv a_a.B]) (plb tk_86 pz R R R) R (wls (sbx (cs' := [iv a_a.Split, iv a_a.A, iv a_a.B]) tk_86 pk1 R R R R R R R) (wnt (wct ?_)))))))))))))))))))))))))))))
 obtain rfl := oi t0
 exact wqc R tk_86 R pz R fun w hw => ⟨R, hw.weak zn⟩

theorem c_laws_toCellS (w : World) (a_a : List GCell) (v0a : Hd) (r0 : rdF w (dm w []) (sl v0a) a_a) {r : List GCell} (t0 : laws_toCellS a_a = some r) : Calls Tryz.prog 81 #[(sl v0a)] w fun e w' => ∃ x : Hd, e = .returned ((sl x)) ∧ SH w [] [ownF (sl x) r] w' := by
 refine cwc (args := [_]) Tryz.func81 R Tryz.ntmps81 R ?_
 unfold laws_toCellS at t0
 refine wcr (asg R R (wnt (wcr (mv R R (wlq (pln (rga r0) el_70 R) R (gdO t0 fun g1 t0 => (wle (eo_make_ (n := a_a.length) ((GCell.mk 0 0 0) : GCell) mk_50 R R R g1 R) R fun x1 => (asg R R (wnt (wcs (wcr (asg R R (wnt (gdO t0 fun g2 t0 => (lpO_inv t0 fun y1 l1 t0 => (wj (J := List GCell) (X := Unit) (fun z => y1 = z) (fun _ _ => [(3, (sl x1))]) (fun z _ => [ownF (sl x1) z]) ?_ ?_))))))))))))))))
 refine wcb (wcf (X := Unit) l1 (fun k1 s1 x1l => [(0, (sl v0a)), (3, (sl x1)), (4, iv ((k1 : Nat) : Int))]) (fun k1 s1 x1l => [ownF (sl x1) s1]) () (su3 R R R) so1 fun k1 s1 x1l hN1 l1 => ?_)
 by_cases hk1 : k1 < a_a.length
 refine fos l1 hk1 fun _ t1 l1 => ?_
 unfold laws_toCellS_L1 at t1
 have c1 : (decide (((k1 : Nat) : Int) < ((a_a.length : Nat) : Int))) = true := ddt (by omega)
 refine wcs (wcr (mv R R (mv R R (wlq (pln (rga r0) el_70 R) R (wlq (pls R R) R (wnt (wft R c1 (wck (wqt (wcs (wcb (wcg (mv R R (mv R R (mv R R (mv R R (wlq (po_ixn (k := k1) (rga r0) el_70 R R hk1) R (wlq (v := .agg #[iv ((gx a_a k1).Split), iv ((gx a_a k1).A), iv ((gx a_a k1).B)]) (po_ldfs (rga r0) tk_123 R hk1 R R R) R (bdO t1 fun v1 hv1 t1 => (wlc (cz0 fa_87 R fun w hw => c_laws_toCell w (gx a_a k1) hv1) R fun _ => (gdO t1 fun g3 t1 => (wlq (po_ixn (k := k1) (rgo pz) el_50 R R g3) R (wls (so_own (x' := v1) tk_86 pz R R R R R R g3 R) (wln (wqb (wqt (wcg (mv R R (wlq (po_inc R R (by omega)) R ?_)))))))))))))))))))))))))))))
 exact asg R R (wln (wq_rnd hk1 (stpN l1 t1) () (su3 R R R) so1))
 have c1 : (decide (((k1 : Nat) : Int) < ((a_a.length : Nat) : Int))) = false := ddf (by omega)
 have en1 := foe l1 hk1
 exact wcs (wcr (mv R R (mv R R (wlq (pln (rga r0) el_70 R) R (wlq (pls R R) R (wnt (wff R c1 (wcx (wqe (wqe (wbx (wjm _ () (Sum.inl.inj en1) (su1 R) so1))))))))))))
 intro e1 _ hp
 obtain rfl : e1 = y1 := hp.symm
 refine wqt (wcr (mv R R (asg R R (wnt (wct ?_)))))
 obtain rfl := oi t0
 exact wq1 R R fun w hw => ⟨x1, R, hw.weak so1⟩

theorem c_laws_toBlock (w : World) (a_a : GBlock) (v0a : Hd) (r0 : rdF w (dm w []) (sl v0a) a_a.Cells) {r : GBlock} (t0 : laws_toBlock a_a = some r) : Calls Tryz.prog 71 #[.agg #[.int .i64 a_a.Size, (sl v0a)]] w fun e w' => ∃ x : Hd, e = .returned (.agg #[.int .i64 r.Size, (sl x)]) ∧ SH w [] [ownF (sl x) r.Cells] w' := by
 refine cwc (args := [_]) Tryz.func71 R Tryz.ntmps71 R ?_
 unfold laws_toBlock at t0
 refine wcr (wle (eo_box R R) R fun b1 => (wle (eal (cs := [iv 0, (sl hn)]) za_52) R fun b2 => (wnt (wcr (wle (eal (cs := [iv 0, (sl hn)]) za_52) R fun b3 => (wnt (wcr (wlq (pof fo_72_0 R) R (wlq (v := iv a_a.Size) (plx tk_3 pk2 R R) R (wlq (pof fo_52_0 R) R (wls (sbx (cs' := [iv a_a.Size, (sl hn)]) tk_3 pz R R R R R R R) (wnt (wcr (wlq (pof fo_72_1 R) R (wlq (v := (sl v0a)) (plx tk_70 pk2 R R) R (bdO t0 fun v1 hv1 t0 => (wlc (cz1 fa_81 R fun w hw => c_laws_toCellS w a_a.Cells v0a (ra r0 hw) hv1) R fun x1 => (wlq (pof fo_52_1 R) R (wls (sbx (cs' := [iv a_a.Size, (sl x1)]) tk_50 pk1 R R R R R R R) (wnt (wcr (wlq (v := .agg #[iv a_a.Size, (sl x1)]) (plb tk_52 pz R R R) R (wls (sbx (cs' := [iv a_a.Size, (sl x1)]) tk_52 pk2 R R R R R R R) (wnt (wct ?_)))))))))))))))))))))))))
 obtain rfl := oi t0
 exact wqc R tk_52 R pz R fun w hw => ⟨x1, R, hw.weak (zc pk2 zn)⟩

theorem c_laws_toEntry (w : World) (a_a : GEntry) (v0a : Hd) (r0 : rdF w (dm w []) (sl v0a) a_a.Block.Cells) {r : GEntry} (t0 : laws_toEntry a_a = some r) : Calls Tryz.prog 51 #[.agg #[.int .i64 a_a.Owner, .int .i64 a_a.Day, .int .i64 a_a.Block.Size, (sl v0a)]] w fun e w' => ∃ x : Hd, e = .returned (.agg #[.int .i64 r.Owner, .int .i64 r.Day, .int .i64 r.Block.Size, (sl x)]) ∧ SH w [] [ownF (sl x) r.Block.Cells] w' := by
 refine cwc (args := [_]) Tryz.func51 R Tryz.ntmps51 R ?_
 unfold laws_toEntry at t0
 refine wcr (wle (eo_box R R) R fun b1 => (wle (eal (cs := [iv 0, iv 0, iv 0, (sl hn)]) za_54) R fun b2 => (wnt (wcr (wle (eal (cs := [iv 0, iv 0, iv 0, (sl hn)]) za_54) R fun b3 => (wnt (wcr (wlq (pof fo_74_0 R) R (wlq (v := iv a_a.Owner) (plx tk_3 pk2 R R) R (wlq (pof fo_54_0 R) R (wls (sbx (cs' := [iv a_a.Owner, iv 0, iv 0, (sl hn)]) tk_3 pz R R R R R R R) (wnt (wcr (wlq (pof fo_74_1 R) R (wlq (v := iv a_a.Day) (plx tk_3 pk2 R R) R (wlq (pof fo_54_1 R) R (wls (sbx (cs' := [iv a_a.Owner, iv a_a.Day, iv 0, (sl hn)]) tk_3 pz R R R R R R R) (wnt (wcr (wlq (pof fo_74_2 R) R (wlq (v := .agg #[iv a_a.Block.Size, (sl v0a)]) (plb tk_72 pk2 R R R) R (bdO t0 fun v1 hv1 t0 => (wlc (cz1 fa_71 R fun w hw => c_laws_toBlock w a_a.Block v0a (ra r0 hw) hv1) R fun x1 => (wlq (pof fo_54_2 R) R (wls (sbx (cs' := [iv a_a.Owner, iv a_a.Day, iv v1.Size, (sl x1)]) tk_52 pk1 R R R R R R R) (wnt (wcr (wlq (v := .agg #[iv a_a.Owner, iv a_a.Day, iv v1.Size, (sl x1)]) (plb tk_54 pz R R R) R (wls (sbx (cs' := [iv a_a.Owner, iv a_a.Day, iv v1.Size, (sl x1)]) tk_54 pk2 R R R R R R R) (wnt (wct ?_)))))))))))))))))))))))))))))))
 obtain rfl := oi t0
 exact wqc R tk_54 R pz R fun w hw => ⟨x1, R, hw.weak (zc pk2 zn)⟩

theorem c_laws_toEntryS (w : World) (a_a : List GEntry) (v0a : Hd) (u0a : List Value) (r0 : RdL w (dm w []) (sl v0a) u0a a_a) {r : List GEntry} (t0 : laws_toEntryS a_a = some r) : Calls Tryz.prog 23 #[(sl v0a)] w fun e w' => ∃ x : Hd × (List Value), e = .returned ((sl x.1)) ∧ SH w [] [own (sl x.1) x.2 r] w' := by
 refine cwc (args := [_]) Tryz.func23 R Tryz.ntmps23 R ?_
 unfold laws_toEntryS at t0
 refine wcr (asg R R (wnt (wcr (mv R R (wlq (pln (rga r0) el_24 R) R (gdO t0 fun g1 t0 => (wle (eo_maken (n := a_a.length) ((GEntry.mk 0 0 (GBlock.mk 0 ([] : List GCell))) : GEntry) mk_32 zow_GEntry R R g1 R) R fun x1 => (asg R R (wnt (wcs (wcr (asg R R (wnt (gdO t0 fun g2 t0 => (lpO_inv t0 fun y1 l1 t0 => (wj (J := List GEntry) (X := List Value) (fun z => y1 = z) (fun _ _ => [(3, (sl x1))]) (fun z x => [own (sl x1) x z]) ?_ ?_))))))))))))))))
 refine wcb (wcf (X := List Value) l1 (fun k1 s1 x1l => [(0, (sl v0a)), (3, (sl x1)), (4, iv ((k1 : Nat) : Int))]) (fun k1 s1 x1l => [own (sl x1) x1l s1]) (cellsN a_a.length [iv 0, iv 0, iv 0, (Value.slice none 0 0)]) (su3 R R R) so1 fun k1 s1 x1l hN1 l1 => ?_)
 by_cases hk1 : k1 < a_a.length
 refine fos l1 hk1 fun _ t1 l1 => ?_
 unfold laws_toEntryS_L1 at t1
 have c1 : (decide (((k1 : Nat) : Int) < ((a_a.length : Nat) : Int))) = true := ddt (by omega)
 refine wcs (wcr (mv R R (mv R R (wlq (pln (rga r0) el_24 R) R (wlq (pls R R) R (wnt (wft R c1 (wck (wqt (wcs (wcb (wcg (mv R R (mv R R (mv R R (mv R R (wlq (po_ixn (k := k1) (rga r0) el_24 R R hk1) R (wl_elem (rga r0) hk1 ?_))))))))))))))))))
 rintro ⟨_, _, he1⟩
 obtain ⟨w1, hc1, _⟩ := rd_GEntry.1 he1
 refine wlq (v := .agg #[iv ((gx a_a k1).Owner), iv ((gx a_a k1).Day), iv (((gx a_a k1).Block).Size), (sl w1)]) (po_ldns (rga r0) tk_74 R hc1 R R R) R (bdO t1 fun v1 hv1 t1 => (wlc (cz1 fa_51 R fun w hw => c_laws_toEntry w (gx a_a k1) w1 (Rg.on (er_GEntry_0 hc1 (rga r0) hk1) hw) hv1) R fun x3 => (gdO t1 fun g3 t1 => (wlq (po_ixn (k := k1) (rgo pk1) el_32 R R g3) R (wls (so_ownn tk_54 pk1 (pow_GEntry (x := v1) pz) R R R R R g3) (wln (wqb (wqt (wcg (mv R R (wlq (po_inc R R (by omega)) R ?_)))))))))))
 exact asg R R (wln (wq_rnd hk1 (stpN l1 t1) (put_ x1l (k1 * 4) [iv v1.Owner, iv v1.Day, iv v1.Block.Size, (sl x3)]) (su3 R R R) so1))
 have c1 : (decide (((k1 : Nat) : Int) < ((a_a.length : Nat) : Int))) = false := ddf (by omega)
 have en1 := foe l1 hk1
 exact wcs (wcr (mv R R (mv R R (wlq (pln (rga r0) el_24 R) R (wlq (pls R R) R (wnt (wff R c1 (wcx (wqe (wqe (wbx (wjm _ x1l (Sum.inl.inj en1) (su1 R) so1))))))))))))
 intro e1 x2 hp
 obtain rfl : e1 = y1 := hp.symm
 refine wqt (wcr (mv R R (asg R R (wnt (wct ?_)))))
 obtain rfl := oi t0
 exact wq1 R R fun w hw => ⟨(x1, x2), R, hw.weak so1⟩

theorem c_laws_toBooking (w : World) (a_a : GBooking) {r : GBooking} (t0 : laws_toBooking a_a = some r) : Calls Tryz.prog 52 #[.agg #[.int .i64 a_a.Day, .int .i64 a_a.From, .int .i64 a_a.To, .int .i64 a_a.Sum]] w fun e w' => e = .returned (.agg #[.int .i64 r.Day, .int .i64 r.From, .int .i64 r.To, .int .i64 r.Sum]) ∧ SH w [] [] w' := by
 refine cwc (args := [_]) Tryz.func52 R Tryz.ntmps52 R ?_
 unfold laws_toBooking at t0
 refine wcr (wle (eo_box R R) R fun b1 => (wle (eal (cs := [iv 0, iv 0, iv 0, iv 0]) za_92) R fun b2 => (wnt (wcr (wle (eal (cs := [iv 0, iv 0, iv 0, iv 0]) za_92) R fun b3 => (wnt (wcr (wlq (pof fo_94_0 R) R (wlq (v := iv a_a.Day) (plx tk_3 pk2 R R) R (wlq (pof fo_92_0 R) R (wls (sbx (cs' := [iv a_a.Day, iv 0, iv 0, iv 0]) tk_3 pz R R R R R R R) (wnt (wcr (wlq (pof fo_94_1 R) R (wlq (v := iv a_a.From) (plx tk_3 pk2 R R) R (wlq (pof fo_92_1 R) R (wls (sbx (cs' := [iv a_a.Day, iv a_a.From, iv 0, iv 0]) tk_3 pz R R R R R R R) (wnt (wcr (wlq (pof fo_94_2 R) R (wlq (v := iv a_a.To) (plx tk_3 pk2 R R) R (wlq (pof fo_92_2 R) R (wls (sbx (cs' := [iv a_a.Day, iv a_a.From, iv a_a.To, iv 0]) tk_3 pz R R R R R R R) (wnt (wcr (wlq (pof fo_94_3 R) R (wlq (v := iv a_a.Sum) (plx tk_3 pk2 R R) R (wlq (pof fo_92_3 R) R (wls (sbx (cs' := [iv a_a.Day, iv a_a.From, iv a_a.To, iv a_a.Sum]) tk_3 pz R R R R R R R) (wnt (wcr (wlq (v := .agg #[iv a_a.Day, iv a_a.From, iv a_a.To, iv a_a.Sum]) (plb tk_92 pz R R R) R (wls (sbx (cs' := [iv a_a.Day, iv a_a.From, iv a_a.To, iv a_a.Sum]) tk_92 pk1 R R R R R R R) (wnt (wct ?_)))))))))))))))))))))))))))))))))))
 obtain rfl := oi t0
 exact wqc R tk_92 R pz R fun w hw => ⟨R, hw.weak zn⟩

theorem c_laws_toBookingS (w : World) (a_a : List GBooking) (v0a : Hd) (r0 : rdF w (dm w []) (sl v0a) a_a) {r : List GBooking} (t0 : laws_toBookingS a_a = some r) : Calls Tryz.prog 24 #[(sl v0a)] w fun e w' => ∃ x : Hd, e = .returned ((sl x)) ∧ SH w [] [ownF (sl x) r] w' := by
 refine cwc (args := [_]) Tryz.func24 R Tryz.ntmps24 R ?_
 unfold laws_toBookingS at t0
 refine wcr (asg R R (wnt (wcr (mv R R (wlq (pln (rga r0) el_25 R) R (gdO t0 fun g1 t0 => (wle (eo_make_ (n := a_a.length) ((GBooking.mk 0 0 0 0) : GBooking) mk_33 R R R g1 R) R fun x1 => (asg R R (wnt (wcs (wcr (asg R R (wnt (gdO t0 fun g2 t0 => (lpO_inv t0 fun y1 l1 t0 => (wj (J := List GBooking) (X := Unit) (fun z => y1 = z) (fun _ _ => [(3, (sl x1))]) (fun z _ => [ownF (sl x1) z]) ?_ ?_))))))))))))))))
 refine wcb (wcf (X := Unit) l1 (fun k1 s1 x1l => [(0, (sl v0a)), (3, (sl x1)), (4, iv ((k1 : Nat) : Int))]) (fun k1 s1 x1l => [ownF (sl x1) s1]) () (su3 R R R) so1 fun k1 s1 x1l hN1 l1 => ?_)
 by_cases hk1 : k1 < a_a.length
 refine fos l1 hk1 fun _ t1 l1 => ?_
 unfold laws_toBookingS_L1 at t1
 have c1 : (decide (((k1 : Nat) : Int) < ((a_a.length : Nat) : Int))) = true := ddt (by omega)
 refine wcs (wcr (mv R R (mv R R (wlq (pln (rga r0) el_25 R) R (wlq (pls R R) R (wnt (wft R c1 (wck (wqt (wcs (wcb (wcg (mv R R (mv R R (mv R R (mv R R (wlq (po_ixn (k := k1) (rga r0) el_25 R R hk1) R (wlq (v := .agg #[iv ((gx a_a k1).Day), iv ((gx a_a k1).From), iv ((gx a_a k1).To), iv ((gx a_a k1).Sum)]) (po_ldfs (rga r0) tk_94 R hk1 R R R) R (bdO t1 fun v1 hv1 t1 => (wlc (cz0 fa_52 R fun w hw => c_laws_toBooking w (gx a_a k1) hv1) R fun _ => (gdO t1 fun g3 t1 => (wlq (po_ixn (k := k1) (rgo pz) el_33 R R g3) R (wls (so_own (x' := v1) tk_92 pz R R R R R R g3 R) (wln (wqb (wqt (wcg (mv R R (wlq (po_inc R R (by omega)) R ?_)))))))))))))))))))))))))))))
 exact asg R R (wln (wq_rnd hk1 (stpN l1 t1) () (su3 R R R) so1))
 have c1 : (decide (((k1 : Nat) : Int) < ((a_a.length : Nat) : Int))) = false := ddf (by omega)
 have en1 := foe l1 hk1
 exact wcs (wcr (mv R R (mv R R (wlq (pln (rga r0) el_25 R) R (wlq (pls R R) R (wnt (wff R c1 (wcx (wqe (wqe (wbx (wjm _ () (Sum.inl.inj en1) (su1 R) so1))))))))))))
 intro e1 _ hp
 obtain rfl : e1 = y1 := hp.symm
 refine wqt (wcr (mv R R (asg R R (wnt (wct ?_)))))
 obtain rfl := oi t0
 exact wq1 R R fun w hw => ⟨x1, R, hw.weak so1⟩

theorem c_laws_toGuild (w : World) (a_a : GGuild) (v0a : Hd) (r0 : rdF w (dm w []) (sl v0a) a_a.Members) (v1a : Hd) (r1 : rdF w (dm w []) (sl v1a) a_a.Stock) (v2a : Hd) (u2a : List Value) (r2 : RdL w (dm w []) (sl v2a) u2a a_a.Entries) (v3a : Hd) (r3 : rdF w (dm w []) (sl v3a) a_a.Books) {r : GGuild} (t0 : laws_toGuild a_a = some r) : Calls Tryz.prog 6 #[.agg #[(sl v0a), (sl v1a), (sl v2a), (sl v3a), .int .i64 a_a.Round, .int .i64 a_a.Year]] w fun e w' => ∃ x : Hd × Hd × Hd × (List Value) × Hd, e = .returned (.agg #[(sl x.1), (sl x.2.1), (sl x.2.2.1), (sl x.2.2.2.2), .int .i64 r.Round, .int .i64 r.Year]) ∧ SH w [] [ownF (sl x.1) r.Members, ownF (sl x.2.1) r.Stock, own (sl x.2.2.1) x.2.2.2.1 r.Entries, ownF (sl x.2.2.2.2) r.Books] w' := by
 refine cwc (args := [_]) Tryz.func6 R Tryz.ntmps6 R ?_
 unfold laws_toGuild at t0
 refine wcr (wle (eo_box R R) R fun b1 => (wle (eal (cs := [(sl hn), (sl hn), (sl hn), (sl hn), iv 0, iv 0]) za_35) R fun b2 => (wnt (wcr (wle (eal (cs := [(sl hn), (sl hn), (sl hn), (sl hn), iv 0, iv 0]) za_35) R fun b3 => (wnt (wcr (wlq (pof fo_27_0 R) R (wlq (v := (sl v0a)) (plx tk_22 pk2 R R) R (bdO t0 fun v1 hv1 t0 => (wlc (cz1 fa_21 R fun w hw => c_laws_toMemberS w a_a.Members v0a (ra r0 hw) hv1) R fun x1 => (wlq (pof fo_35_0 R) R (wls (sbx (cs' := [(sl x1), (sl hn), (sl hn), (sl hn), iv 0, iv 0]) tk_31 pk1 R R R R R R R) (wnt (wcr (wlq (pof fo_27_1 R) R (wlq (v := (sl v1a)) (plx tk_23 pk3 R R) R (bdO t0 fun v2 hv2 t0 => (wlc (cz1 fa_22 R fun w hw => c_laws_toIntS w a_a.Stock v1a (ra r1 hw) hv2) R fun x2 => (wlq (pof fo_35_1 R) R (wls (sbx (cs' := [(sl x1), (sl x2), (sl hn), (sl hn), iv 0, iv 0]) tk_23 pk1 R R R R R R R) (wnt (wcr (wlq (pof fo_27_2 R) R (wlq (v := (sl v2a)) (plx tk_24 pk4 R R) R (bdO t0 fun v3 hv3 t0 => (wlc (cz1 fa_23 R fun w hw => c_laws_toEntryS w a_a.Entries v2a u2a (ra r2 hw) hv3) R fun x3 => (wlq (pof fo_35_2 R) R (wls (sbx (cs' := [(sl x1), (sl x2), (sl x3.1), (sl hn), iv 0, iv 0]) tk_32 pk1 R R R R R R R) (wnt (wcr (wlq (pof fo_27_3 R) R (wlq (v := (sl v3a)) (plx tk_25 pk5 R R) R (bdO t0 fun v4 hv4 t0 => (wlc (cz1 fa_24 R fun w hw => c_laws_toBookingS w a_a.Books v3a (ra r3 hw) hv4) R fun x4 => (wlq (pof fo_35_3 R) R (wls (sbx (cs' := [(sl x1), (sl x2), (sl x3.1), (sl x4), iv 0, iv 0]) tk_33 pk1 R R R R R R R) (wnt (wcr ?_)))))))))))))))))))))))))))))))))))))))
 refine wlq (pof fo_27_4 R) R (wlq (v := iv a_a.Round) (plx tk_3 pk6 R R) R (wlq (pof fo_35_4 R) R (wls (sbx (cs' := [(sl x1), (sl x2), (sl x3.1), (sl x4), iv a_a.Round, iv 0]) tk_3 pz R R R R R R R) (wnt (wcr (wlq (pof fo_27_5 R) R (wlq (v := iv a_a.Year) (plx tk_3 pk6 R R) R (wlq (pof fo_35_5 R) R (wls (sbx (cs' := [(sl x1), (sl x2), (sl x3.1), (sl x4), iv a_a.Round, iv a_a.Year]) tk_3 pz R R R R R R R) (wnt (wcr (wlq (v := .agg #[(sl x1), (sl x2), (sl x3.1), (sl x4), iv a_a.Round, iv a_a.Year]) (plb tk_35 pz R R R) R (wls (sbx (cs' := [(sl x1), (sl x2), (sl x3.1), (sl x4), iv a_a.Round, iv a_a.Year]) tk_35 pk5 R R R R R R R) (wnt (wct ?_)))))))))))))))
 obtain rfl := oi t0
 exact wqc R tk_35 R pz R fun w hw => ⟨(x1, x2, x3.1, x3.2, x4), R, hw.weak (zc pk5 (zc pk4 (zc pk3 (zc pk2 zn))))⟩

theorem c_spec_l01In (w : World) (a_x : Int) (a_least : Int) (a_most : Int) {r : Bool} (t0 : spec_l01In a_x a_least a_most = some r) : Calls Tryz.prog 43 #[.int .i64 a_x, .int .i64 a_least, .int .i64 a_most] w fun e w' => e = .returned (.bool r) ∧ SH w [] [] w' := by
 refine cwc (args := [_, _, _]) Tryz.func43 R Tryz.ntmps43 R ?_
 unfold spec_l01In at t0
 refine wcr (asg R R (wnt (wcs (wcj (X := Unit) (fun _ => True) (fun _ => [(6, .bool ((decide (a_x ≥ a_least)) && (decide (a_x ≤ a_most))))]) (fun _ => []) ?_ ?_))))
 refine wcg (mv R R (mv R R (wlq (po_geq R R) R (mv R R (wl_fork (t := 10) R (fun h1 => ?_) fun h1 => ?_)))))
 exact wgn (j := 3) R R R (mv R R (wgn (j := 3) R R R (mv R R (wgn (j := 3) R R R (wlq (po_leq R R) R (wlq (pit R R) R (asg R R (wln (wqm () trivial (sub_b R (by rw [h1]; rfl) yn) zn)))))))))
 exact wgf (j := 3) R R R R R (wgf (j := 3) R R R R R (wgf (j := 3) R R R R R (wlq (pif R R) R (asg R R (wln (wqm () trivial (sub_b R (by rw [h1]; rfl) yn) zn))))))
 intro _ _
 refine wqt (wct ?_)
 obtain rfl := oi t0
 exact wq1 R R fun w hw => ⟨R, hw.weak zn⟩

theorem c_spec_MembersOk (w : World) (a_list : List GMember) (v0a : Hd) (r0 : rdF w (dm w []) (sl v0a) a_list) {r : Bool} (t0 : spec_MembersOk a_list = some r) : Calls Tryz.prog 40 #[(sl v0a)] w fun e w' => e = .returned (.bool r) ∧ SH w [] [] w' := by
 refine cwc (args := [_]) Tryz.func40 R Tryz.ntmps40 R ?_
 unfold spec_MembersOk at t0
 refine wcr (asg R R (wnt (wcs (wcr (asg R R (wnt (gdO t0 fun g1 t0 => (sqO t0 fun y1 l1 t0 => (wj (J := Unit) (X := Unit) (fun z => y1 = .inl z) (fun _ _ => [(0, (sl v0a))]) (fun _ _ => []) ?_ ?_)))))))))
 refine wcb (wcf (X := Unit) l1 (fun k1 s1 x1l => [(0, (sl v0a)), (3, iv ((k1 : Nat) : Int))]) (fun k1 s1 x1l => []) () (su2 R R) zn fun k1 s1 x1l hN1 l1 => ?_)
 by_cases hk1 : k1 < a_list.length
 refine fos l1 hk1 fun _ t1 l1 => ?_
 unfold spec_MembersOk_L1 at t1
 have c1 : (decide (((k1 : Nat) : Int) < ((a_list.length : Nat) : Int))) = true := ddt (by omega)
 refine wcs (wcr (mv R R (mv R R (wlq (pln (rga r0) el_31 R) R (wlq (pls R R) R (wnt (wft R c1 (wck (wqt (wcs (wcb (wcr (mv R R (mv R R (wlq (po_ixn (k := k1) (rga r0) el_31 R R hk1) R (wlq (v := .agg #[iv ((gx a_list k1).Number), iv ((gx a_list k1).Since), iv ((gx a_list k1).Paid)]) (po_ldfs (rga r0) tk_49 R hk1 R R R) R (wle (eal (cs := [iv 0, iv 0, iv 0]) za_49) R fun b1 => (wls (sbx (cs' := [iv ((gx a_list k1).Number), iv ((gx a_list k1).Since), iv ((gx a_list k1).Paid)]) tk_49 pz R R R R R R R) (wnt (wcs (bdO t1 fun y2 t2 t1 => (wj (J := Bool) (X := Unit) (fun z => y2 = z) (fun z _ => [(0, (sl v0a)), (3, iv ((k1 : Nat) : Int)), (48, .bool z)]) (fun _ _ => []) ?_ ?_))))))))))))))))))))))
 refine wcd [box b1 [iv ((gx a_list k1).Number), iv ((gx a_list k1).Since), iv ((gx a_list k1).Paid)]] 34 mixed (aq 0 R (pof fo_49_0 R) so1 R (aq (v := iv ((gx a_list k1).Number)) 1 R (plx tk_3 pz R R) so1 R (a1 2 (bdO t2 fun v1 hv1 t2 => (wsc R (cz0 fa_43 R fun w hw => c_spec_l01In w ((gx a_list k1).Number) 1 999 hv1) (fun _ => (zt so1)) R fun _ => (aq 3 R (po_not R) so1 R (aq 4 R (pom R) so1 R (waO_ (t := 19) t2 R (fun h1 t2 => ?_) fun h1 t2 => ?_))))))))
 exact af 5 4 R R R R R so1 R (af 6 4 R R R R R so1 R (af 7 4 R R R R R so1 R (af 8 4 R R R R R so1 R (aq 9 R (pit R R) so1 R (aq 10 R (pom R) so1 R (af 11 10 R R R R R so1 R (af 12 10 R R R R R so1 R (af 13 10 R R R R R so1 R (af 14 10 R R R R R so1 R (af 15 10 R R R R R so1 R (af 16 10 R R R R R so1 R (af 17 10 R R R R R so1 R (aq 18 R (pit R R) so1 R (aq 19 R (pom R) so1 R (af 20 19 R R R R R so1 R (af 21 19 R R R R R so1 R (af 22 19 R R R R R so1 R (au 23 22 R R R R so1 R (au 24 22 R R R R so1 R (au 25 22 R R R R so1 R (au 26 22 R R R R so1 R (au 27 22 R R R R so1 R (au 28 22 R R R R so1 R (au 29 22 R R R R so1 R (au 30 22 R R R R so1 R (au 31 22 R R R R so1 R (af 32 19 R R R R R so1 R (aq 33 R (pit R R) so1 R (ae (wjm _ () (mtE t2) (su3 R R R) zn))))))))))))))))))))))))))))))
 refine an 5 4 R R R R (pof fo_49_1 R) so1 R (an (v := iv ((gx a_list k1).Since)) 6 4 R R R R (plx tk_3 pz R R) so1 R (a1 7 (bdO t2 fun v2 hv2 t2 => (ws_call_on (j := 4) R R R R (cz0 fa_43 R fun w hw => c_spec_l01In w ((gx a_list k1).Since) 1900 2999 hv2) (fun _ => (zt so1)) R fun _ => (an 8 4 R R R R (po_not R) so1 R (aq 9 R (pif R R) so1 R (aq 10 R (pom R) so1 R (waO_ (t := 25) t2 R (fun h2 t2 => ?_) fun h2 t2 => ?_))))))))
 exact af 11 10 R R R R R so1 R (af 12 10 R R R R R so1 R (af 13 10 R R R R R so1 R (af 14 10 R R R R R so1 R (af 15 10 R R R R R so1 R (af 16 10 R R R R R so1 R (af 17 10 R R R R R so1 R (aq 18 R (pit R R) so1 R (aq 19 R (pom R) so1 R (af 20 19 R R R R R so1 R (af 21 19 R R R R R so1 R (af 22 19 R R R R R so1 R (au 23 22 R R R R so1 R (au 24 22 R R R R so1 R (au 25 22 R R R R so1 R (au 26 22 R R R R so1 R (au 27 22 R R R R so1 R (au 28 22 R R R R so1 R (au 29 22 R R R R so1 R (au 30 22 R R R R so1 R (au 31 22 R R R R so1 R (af 32 19 R R R R R so1 R (aq 33 R (pit R R) so1 R (ae (wjm _ () (mtE t2) (su3 R R R) zn))))))))))))))))))))))))
 refine an 11 10 R R R R (pof fo_49_2 R) so1 R (an (v := iv ((gx a_list k1).Paid)) 12 10 R R R R (plx tk_3 pz R R) so1 R (an 13 10 R R R R (pof fo_49_1 R) so1 R (an (v := iv ((gx a_list k1).Since)) 14 10 R R R R (plx tk_3 pz R R) so1 R (an 15 10 R R R R (po_sub R R) so1 R (a1 16 (bdO t2 fun v3 hv3 t2 => (ws_call_on (j := 10) R R R R (cz0 fa_43 R fun w hw => c_spec_l01In w ((gx a_list k1).Paid) (wr ((gx a_list k1).Since - 1)) 2999 hv3) (fun _ => (zt so1)) R fun _ => (an 17 10 R R R R (po_not R) so1 R (aq 18 R (pif R R) so1 R (aq 19 R (pom R) so1 R (waO_ (t := 34) t2 R (fun h3 t2 => ?_) fun h3 t2 => ?_)))))))))))
 exact af 20 19 R R R R R so1 R (af 21 19 R R R R R so1 R (af 22 19 R R R R R so1 R (au 23 22 R R R R so1 R (au 24 22 R R R R so1 R (au 25 22 R R R R so1 R (au 26 22 R R R R so1 R (au 27 22 R R R R so1 R (au 28 22 R R R R so1 R (au 29 22 R R R R so1 R (au 30 22 R R R R so1 R (au 31 22 R R R R so1 R (af 32 19 R R R R R so1 R (aq 33 R (pit R R) so1 R (ae (wjm _ () (mtE t2) (su3 R R R) zn)))))))))))))))
 refine an 20 19 R R R R (pom R) so1 R (an 21 19 R R R R (po_gtr R R) so1 R (an 22 19 R R R R (pom R) so1 R (waO_ (t := 37) t2 R (fun h4 t2 => ?_) fun h4 t2 => ?_)))
 exact an 23 22 R R R R (pof fo_49_0 R) so1 R (an (v := iv ((gx a_list k1).Number)) 24 22 R R R R (plx tk_3 pz R R) so1 R (an 25 22 R R R R (pom R) so1 R (an 26 22 R R R R (pom R) so1 R (an 27 22 R R R R (po_sub R R) so1 R (gdO t2 fun g2 t2 => (an 28 22 R R R R (po_ixr (rga r0) el_31 R R g2.1 g2.2) so1 R (an 29 22 R R R R (po_sfldr (rga r0) (ix_lt g2) fo_49_0 R) so1 R (an (v := iv ((gx a_list (((wr (((k1 : Nat) : Int) - 1))).toNat)).Number)) 30 22 R R R R (po_ldf (rga r0) tk_3 R (ix_lt g2) R) so1 R (an 31 22 R R R R (po_leq R R) so1 R (an 32 19 R R R R (pit R R) so1 R (aq 33 R (pif R R) so1 R (ae (wjm _ () (mtE t2) (su3 R R R) zn)))))))))))))
 exact af 23 22 R R R R R so1 R (af 24 22 R R R R R so1 R (af 25 22 R R R R R so1 R (af 26 22 R R R R R so1 R (af 27 22 R R R R R so1 R (af 28 22 R R R R R so1 R (af 29 22 R R R R R so1 R (af 30 22 R R R R R so1 R (af 31 22 R R R R R so1 R (an 32 19 R R R R (pif R R) so1 R (aq 33 R (pif R R) so1 R (ae (wjm _ () (mtE t2) (su3 R R R) zn))))))))))))
 intro j1 _ hp
 obtain rfl : j1 = y2 := hp.symm
 refine wqt (wcO t1 R (fun h5 t1 => ?_) fun h5 t1 => ?_)
 refine wcr (asg R R (wnt (wct (wbr (wqr (wqr (wbr (wqr (wqr ?_)))))))))
 replace t0 := lpR t0 l1 t1
 obtain rfl := oi t0
 exact wq1 R R fun w hw => ⟨R, hw.weak zn⟩
 refine wck (wqb (wqt (wcg (mv R R (wlq (po_inc R R (by omega)) R ?_)))))
 exact asg R R (wln (wq_rnd hk1 (stpN l1 t1) () (su2 R R) zn))
 have c1 : (decide (((k1 : Nat) : Int) < ((a_list.length : Nat) : Int))) = false := ddf (by omega)
 have en1 := foe l1 hk1
 exact wcs (wcr (mv R R (mv R R (wlq (pln (rga r0) el_31 R) R (wlq (pls R R) R (wnt (wff R c1 (wcx (wqe (wqe (wbx (wjm _ () en1 (su1 R) zn))))))))))))
 intro e1 _ hp
 replace t0 := sqE (j := e1) t0 hp
 refine wqt (wcr (mv R R (wlq (pln (rga r0) el_31 R) R (wlq (po_leq R R) R (asg R R (wnt (wct ?_)))))))
 obtain rfl := oi t0
 exact wq1 R R fun w hw => ⟨R, hw.weak zn⟩

theorem c_spec_StockOk (w : World) (a_stock : List Int) (v0a : Hd) (r0 : rdF w (dm w []) (sl v0a) a_stock) {r : Bool} (t0 : spec_StockOk a_stock = some r) : Calls Tryz.prog 41 #[(sl v0a)] w fun e w' => e = .returned (.bool r) ∧ SH w [] [] w' := by
 refine cwc (args := [_]) Tryz.func41 R Tryz.ntmps41 R ?_
 unfold spec_StockOk at t0
 refine wcr (asg R R (wnt (wcs (wcr (asg R R (wnt (gdO t0 fun g1 t0 => (sqO t0 fun y1 l1 t0 => (wj (J := Unit) (X := Unit) (fun z => y1 = .inl z) (fun _ _ => [(0, (sl v0a))]) (fun _ _ => []) ?_ ?_)))))))))
 refine wcb (wcf (X := Unit) l1 (fun k1 s1 x1l => [(0, (sl v0a)), (3, iv ((k1 : Nat) : Int))]) (fun k1 s1 x1l => []) () (su2 R R) zn fun k1 s1 x1l hN1 l1 => ?_)
 by_cases hk1 : k1 < a_stock.length
 refine fos l1 hk1 fun _ t1 l1 => ?_
 unfold spec_StockOk_L1 at t1
 have c1 : (decide (((k1 : Nat) : Int) < ((a_stock.length : Nat) : Int))) = true := ddt (by omega)
 refine wcs (wcr (mv R R (mv R R (wlq (pln (rga r0) el_23 R) R (wlq (pls R R) R (wnt (wft R c1 (wck (wqt (wcs (wcb (wcr (mv R R (mv R R (wlq (po_ixn (k := k1) (rga r0) el_23 R R hk1) R (wlq (v := iv (gx a_stock k1)) (po_ldf (rga r0) tk_3 R hk1 R) R (bdO t1 fun v1 hv1 t1 => (wlc (cz0 fa_43 R fun w hw => c_spec_l01In w (gx a_stock k1) 0 1000000 hv1) R fun _ => (wlq (po_not R) R (wnt (wcO t1 R (fun h1 t1 => ?_) fun h1 t1 => ?_)))))))))))))))))))))
 refine wcr (asg R R (wnt (wct (wbr (wqr (wqr (wbr (wqr (wqr ?_)))))))))
 replace t0 := lpR t0 l1 t1
 obtain rfl := oi t0
 exact wq1 R R fun w hw => ⟨R, hw.weak zn⟩
 refine wck (wqb (wqt (wcg (mv R R (wlq (po_inc R R (by omega)) R ?_)))))
 exact asg R R (wln (wq_rnd hk1 (stpN l1 t1) () (su2 R R) zn))
 have c1 : (decide (((k1 : Nat) : Int) < ((a_stock.length : Nat) : Int))) = false := ddf (by omega)
 have en1 := foe l1 hk1
 exact wcs (wcr (mv R R (mv R R (wlq (pln (rga r0) el_23 R) R (wlq (pls R R) R (wnt (wff R c1 (wcx (wqe (wqe (wbx (wjm _ () en1 (su1 R) zn))))))))))))
 intro e1 _ hp
 replace t0 := sqE (j := e1) t0 hp
 refine wqt (wcr (mv R R (wlq (pln (rga r0) el_23 R) R (wlq (pol R R) R (asg R R (wnt (wct ?_)))))))
 obtain rfl := oi t0
 exact wq1 R R fun w hw => ⟨R, hw.weak zn⟩

theorem c_spec_LedgerOk (w : World) (a_list : List GBooking) (v0a : Hd) (r0 : rdF w (dm w []) (sl v0a) a_list) {r : Bool} (t0 : spec_LedgerOk a_list = some r) : Calls Tryz.prog 42 #[(sl v0a)] w fun e w' => e = .returned (.bool r) ∧ SH w [] [] w' := by
 refine cwc (args := [_]) Tryz.func42 R Tryz.ntmps42 R ?_
 unfold spec_LedgerOk at t0
 refine wcr (asg R R (wnt (wcs (wcr (asg R R (wnt (gdO t0 fun g1 t0 => (sqO t0 fun y1 l1 t0 => (wj (J := Unit) (X := Unit) (fun z => y1 = .inl z) (fun _ _ => [(0, (sl v0a))]) (fun _ _ => []) ?_ ?_)))))))))
 refine wcb (wcf (X := Unit) l1 (fun k1 s1 x1l => [(0, (sl v0a)), (3, iv ((k1 : Nat) : Int))]) (fun k1 s1 x1l => []) () (su2 R R) zn fun k1 s1 x1l hN1 l1 => ?_)
 by_cases hk1 : k1 < a_list.length
 refine fos l1 hk1 fun _ t1 l1 => ?_
 unfold spec_LedgerOk_L1 at t1
 have c1 : (decide (((k1 : Nat) : Int) < ((a_list.length : Nat) : Int))) = true := ddt (by omega)
 refine wcs (wcr (mv R R (mv R R (wlq (pln (rga r0) el_33 R) R (wlq (pls R R) R (wnt (wft R c1 (wck (wqt (wcs (wcb (wcr (mv R R (mv R R (wlq (po_ixn (k := k1) (rga r0) el_33 R R hk1) R (wlq (v := .agg #[iv ((gx a_list k1).Day), iv ((gx a_list k1).From), iv ((gx a_list k1).To), iv ((gx a_list k1).Sum)]) (po_ldfs (rga r0) tk_92 R hk1 R R R) R (wle (eal (cs := [iv 0, iv 0, iv 0, iv 0]) za_92) R fun b1 => (wls (sbx (cs' := [iv ((gx a_list k1).Day), iv ((gx a_list k1).From), iv ((gx a_list k1).To), iv ((gx a_list k1).Sum)]) tk_92 pz R R R R R R R) (wnt (wcs (bdO t1 fun y2 t2 t1 => (wj (J := Bool) (X := Unit) (fun z => y2 = z) (fun z _ => [(0, (sl v0a)), (3, iv ((k1 : Nat) : Int)), (58, .bool z)]) (fun _ _ => []) ?_ ?_))))))))))))))))))))))
 refine wcd [box b1 [iv ((gx a_list k1).Day), iv ((gx a_list k1).From), iv ((gx a_list k1).To), iv ((gx a_list k1).Sum)]] 44 mixed (aq 0 R (pof fo_92_0 R) so1 R (aq (v := iv ((gx a_list k1).Day)) 1 R (plx tk_3 pz R R) so1 R (a1 2 (bdO t2 fun v1 hv1 t2 => (wsc R (cz0 fa_43 R fun w hw => c_spec_l01In w ((gx a_list k1).Day) 0 9999 hv1) (fun _ => (zt so1)) R fun _ => (aq 3 R (po_not R) so1 R (aq 4 R (pom R) so1 R (waO_ (t := 19) t2 R (fun h1 t2 => ?_) fun h1 t2 => ?_))))))))
 refine af 5 4 R R R R R so1 R (af 6 4 R R R R R so1 R (af 7 4 R R R R R so1 R (af 8 4 R R R R R so1 R (aq 9 R (pit R R) so1 R (aq 10 R (pom R) so1 R (af 11 10 R R R R R so1 R (af 12 10 R R R R R so1 R (af 13 10 R R R R R so1 R (af 14 10 R R R R R so1 R (aq 15 R (pit R R) so1 R (aq 16 R (pom R) so1 R (af 17 16 R R R R R so1 R (af 18 16 R R R R R so1 R (af 19 16 R R R R R so1 R (af 20 16 R R R R R so1 R (af 21 16 R R R R R so1 R (aq 22 R (pit R R) so1 R (aq 23 R (pom R) so1 R (af 24 23 R R R R R so1 R (af 25 23 R R R R R so1 R (af 26 23 R R R R R so1 R (af 27 23 R R R R R so1 R (aq 28 R (pit R R) so1 R (aq 29 R (pom R) so1 R (af 30 29 R R R R R so1 R (af 31 29 R R R R R so1 R (af 32 29 R R R R R so1 R (au 33 32 R R R R so1 R (au 34 32 R R R R so1 R (au 35 32 R R R R so1 R (au 36 32 R R R R so1 R (au 37 32 R R R R so1 R (au 38 32 R R R R so1 R (au 39 32 R R R R so1 R (au 40 32 R R R R so1 R (au 41 32 R R R R so1 R (af 42 29 R R R R R so1 R (aq 43 R (pit R R) so1 R (ae ?_)))))))))))))))))))))))))))))))))))))))
 exact wjm _ () (mtE t2) (su3 R R R) zn
 refine an 5 4 R R R R (pof fo_92_1 R) so1 R (an (v := iv ((gx a_list k1).From)) 6 4 R R R R (plx tk_3 pz R R) so1 R (a1 7 (bdO t2 fun v2 hv2 t2 => (ws_call_on (j := 4) R R R R (cz0 fa_43 R fun w hw => c_spec_l01In w ((gx a_list k1).From) 0 4 hv2) (fun _ => (zt so1)) R fun _ => (an 8 4 R R R R (po_not R) so1 R (aq 9 R (pif R R) so1 R (aq 10 R (pom R) so1 R (waO_ (t := 25) t2 R (fun h2 t2 => ?_) fun h2 t2 => ?_))))))))
 exact af 11 10 R R R R R so1 R (af 12 10 R R R R R so1 R (af 13 10 R R R R R so1 R (af 14 10 R R R R R so1 R (aq 15 R (pit R R) so1 R (aq 16 R (pom R) so1 R (af 17 16 R R R R R so1 R (af 18 16 R R R R R so1 R (af 19 16 R R R R R so1 R (af 20 16 R R R R R so1 R (af 21 16 R R R R R so1 R (aq 22 R (pit R R) so1 R (aq 23 R (pom R) so1 R (af 24 23 R R R R R so1 R (af 25 23 R R R R R so1 R (af 26 23 R R R R R so1 R (af 27 23 R R R R R so1 R (aq 28 R (pit R R) so1 R (aq 29 R (pom R) so1 R (af 30 29 R R R R R so1 R (af 31 29 R R R R R so1 R (af 32 29 R R R R R so1 R (au 33 32 R R R R so1 R (au 34 32 R R R R so1 R (au 35 32 R R R R so1 R (au 36 32 R R R R so1 R (au 37 32 R R R R so1 R (au 38 32 R R R R so1 R (au 39 32 R R R R so1 R (au 40 32 R R R R so1 R (au 41 32 R R R R so1 R (af 42 29 R R R R R so1 R (aq 43 R (pit R R) so1 R (ae (wjm _ () (mtE t2) (su3 R R R) zn))))))))))))))))))))))))))))))))))
 refine an 11 10 R R R R (pof fo_92_2 R) so1 R (an (v := iv ((gx a_list k1).To)) 12 10 R R R R (plx tk_3 pz R R) so1 R (a1 13 (bdO t2 fun v3 hv3 t2 => (ws_call_on (j := 10) R R R R (cz0 fa_43 R fun w hw => c_spec_l01In w ((gx a_list k1).To) 0 4 hv3) (fun _ => (zt so1)) R fun _ => (an 14 10 R R R R (po_not R) so1 R (aq 15 R (pif R R) so1 R (aq 16 R (pom R) so1 R (waO_ (t := 31) t2 R (fun h3 t2 => ?_) fun h3 t2 => ?_))))))))
 exact af 17 16 R R R R R so1 R (af 18 16 R R R R R so1 R (af 19 16 R R R R R so1 R (af 20 16 R R R R R so1 R (af 21 16 R R R R R so1 R (aq 22 R (pit R R) so1 R (aq 23 R (pom R) so1 R (af 24 23 R R R R R so1 R (af 25 23 R R R R R so1 R (af 26 23 R R R R R so1 R (af 27 23 R R R R R so1 R (aq 28 R (pit R R) so1 R (aq 29 R (pom R) so1 R (af 30 29 R R R R R so1 R (af 31 29 R R R R R so1 R (af 32 29 R R R R R so1 R (au 33 32 R R R R so1 R (au 34 32 R R R R so1 R (au 35 32 R R R R so1 R (au 36 32 R R R R so1 R (au 37 32 R R R R so1 R (au 38 32 R R R R so1 R (au 39 32 R R R R so1 R (au 40 32 R R R R so1 R (au 41 32 R R R R so1 R (af 42 29 R R R R R so1 R (aq 43 R (pit R R) so1 R (ae (wjm _ () (mtE t2) (su3 R R R) zn))))))))))))))))))))))))))))
 refine an 17 16 R R R R (pof fo_92_1 R) so1 R (an (v := iv ((gx a_list k1).From)) 18 16 R R R R (plx tk_3 pz R R) so1 R (an 19 16 R R R R (pof fo_92_2 R) so1 R (an (v := iv ((gx a_list k1).To)) 20 16 R R R R (plx tk_3 pz R R) so1 R (an 21 16 R R R R (pol R R) so1 R (aq 22 R (pif R R) so1 R (aq 23 R (pom R) so1 R (waO_ (t := 38) t2 R (fun h4 t2 => ?_) fun h4 t2 => ?_)))))))
 exact af 24 23 R R R R R so1 R (af 25 23 R R R R R so1 R (af 26 23 R R R R R so1 R (af 27 23 R R R R R so1 R (aq 28 R (pit R R) so1 R (aq 29 R (pom R) so1 R (af 30 29 R R R R R so1 R (af 31 29 R R R R R so1 R (af 32 29 R R R R R so1 R (au 33 32 R R R R so1 R (au 34 32 R R R R so1 R (au 35 32 R R R R so1 R (au 36 32 R R R R so1 R (au 37 32 R R R R so1 R (au 38 32 R R R R so1 R (au 39 32 R R R R so1 R (au 40 32 R R R R so1 R (au 41 32 R R R R so1 R (af 42 29 R R R R R so1 R (aq 43 R (pit R R) so1 R (ae (wjm _ () (mtE t2) (su3 R R R) zn)))))))))))))))))))))
 refine an 24 23 R R R R (pof fo_92_3 R) so1 R (an (v := iv ((gx a_list k1).Sum)) 25 23 R R R R (plx tk_3 pz R R) so1 R (a1 26 (bdO t2 fun v4 hv4 t2 => (ws_call_on (j := 23) R R R R (cz0 fa_43 R fun w hw => c_spec_l01In w ((gx a_list k1).Sum) 1 100000 hv4) (fun _ => (zt so1)) R fun _ => (an 27 23 R R R R (po_not R) so1 R (aq 28 R (pif R R) so1 R (aq 29 R (pom R) so1 R (waO_ (t := 44) t2 R (fun h5 t2 => ?_) fun h5 t2 => ?_))))))))
 exact af 30 29 R R R R R so1 R (af 31 29 R R R R R so1 R (af 32 29 R R R R R so1 R (au 33 32 R R R R so1 R (au 34 32 R R R R so1 R (au 35 32 R R R R so1 R (au 36 32 R R R R so1 R (au 37 32 R R R R so1 R (au 38 32 R R R R so1 R (au 39 32 R R R R so1 R (au 40 32 R R R R so1 R (au 41 32 R R R R so1 R (af 42 29 R R R R R so1 R (aq 43 R (pit R R) so1 R (ae (wjm _ () (mtE t2) (su3 R R R) zn)))))))))))))))
 refine an 30 29 R R R R (pom R) so1 R (an 31 29 R R R R (po_gtr R R) so1 R (an 32 29 R R R R (pom R) so1 R (waO_ (t := 47) t2 R (fun h6 t2 => ?_) fun h6 t2 => ?_)))
 exact an 33 32 R R R R (pof fo_92_0 R) so1 R (an (v := iv ((gx a_list k1).Day)) 34 32 R R R R (plx tk_3 pz R R) so1 R (an 35 32 R R R R (pom R) so1 R (an 36 32 R R R R (pom R) so1 R (an 37 32 R R R R (po_sub R R) so1 R (gdO t2 fun g2 t2 => (an 38 32 R R R R (po_ixr (rga r0) el_33 R R g2.1 g2.2) so1 R (an 39 32 R R R R (po_sfldr (rga r0) (ix_lt g2) fo_92_0 R) so1 R (an (v := iv ((gx a_list (((wr (((k1 : Nat) : Int) - 1))).toNat)).Day)) 40 32 R R R R (po_ldf (rga r0) tk_3 R (ix_lt g2) R) so1 R (an 41 32 R R R R (pls R R) so1 R (an 42 29 R R R R (pit R R) so1 R (aq 43 R (pif R R) so1 R (ae (wjm _ () (mtE t2) (su3 R R R) zn)))))))))))))
 exact af 33 32 R R R R R so1 R (af 34 32 R R R R R so1 R (af 35 32 R R R R R so1 R (af 36 32 R R R R R so1 R (af 37 32 R R R R R so1 R (af 38 32 R R R R R so1 R (af 39 32 R R R R R so1 R (af 40 32 R R R R R so1 R (af 41 32 R R R R R so1 R (an 42 29 R R R R (pif R R) so1 R (aq 43 R (pif R R) so1 R (ae (wjm _ () (mtE t2) (su3 R R R) zn))))))))))))
 intro j1 _ hp
 obtain rfl : j1 = y2 := hp.symm
 refine wqt (wcO t1 R (fun h7 t1 => ?_) fun h7 t1 => ?_)
 refine wcr (asg R R (wnt (wct (wbr (wqr (wqr (wbr (wqr (wqr ?_)))))))))
 replace t0 := lpR t0 l1 t1
 obtain rfl := oi t0
 exact wq1 R R fun w hw => ⟨R, hw.weak zn⟩
 refine wck (wqb (wqt (wcg (mv R R (wlq (po_inc R R (by omega)) R ?_)))))
 exact asg R R (wln (wq_rnd hk1 (stpN l1 t1) () (su2 R R) zn))
 have c1 : (decide (((k1 : Nat) : Int) < ((a_list.length : Nat) : Int))) = false := ddf (by omega)
 have en1 := foe l1 hk1
 exact wcs (wcr (mv R R (mv R R (wlq (pln (rga r0) el_33 R) R (wlq (pls R R) R (wnt (wff R c1 (wcx (wqe (wqe (wbx (wjm _ () en1 (su1 R) zn))))))))))))
 intro e1 _ hp
 replace t0 := sqE (j := e1) t0 hp
 refine wqt (wcr (mv R R (wlq (pln (rga r0) el_33 R) R (wlq (po_leq R R) R (asg R R (wnt (wct ?_)))))))
 obtain rfl := oi t0
 exact wq1 R R fun w hw => ⟨R, hw.weak zn⟩

theorem c_spec_CellOk (w : World) (a_c : GCell) {r : Bool} (t0 : spec_CellOk a_c = some r) : Calls Tryz.prog 70 #[.agg #[.int .i64 a_c.Split, .int .i64 a_c.A, .int .i64 a_c.B]] w fun e w' => e = .returned (.bool r) ∧ SH w [] [] w' := by
 refine cwc (args := [_]) Tryz.func70 R Tryz.ntmps70 R ?_
 unfold spec_CellOk at t0
 refine wcr (wle (eo_box R R) R fun b1 => (asg R R (wnt (wcs (wcs (bdO t0 fun y1 t1 t0 => (wj (J := Bool) (X := Unit) (fun z => y1 = z) (fun z _ => [(1, ptr b1 0), (18, .bool z)]) (fun _ _ => [box b1 [iv a_c.Split, iv a_c.A, iv a_c.B]]) ?_ ?_)))))))
 refine wcg (wlq (pof fo_86_0 R) R (wlq (v := iv a_c.Split) (plx tk_3 pz R R) R (bdO t1 fun v1 hv1 t1 => (wlc (cz0 fa_43 R fun w hw => c_spec_l01In w a_c.Split 0 2 hv1) R fun _ => (wlq (po_not R) R (mv R R (wlo (t := 7) t1 R (fun h1 t1 => ?_) fun h1 t1 => ?_)))))))
 exact wgf (j := 4) R R R R R (wgf (j := 4) R R R R R (wgf (j := 4) R R R R R (wgf (j := 4) R R R R R (wlq (pit R R) R (mv R R (wgf (j := 10) R R R R R (wgf (j := 10) R R R R R (wgf (j := 10) R R R R R (wgf (j := 10) R R R R R (wlq (pit R R) R (wln (wjm _ () (mtE t1) (su2 R R) so1))))))))))))
 refine wgn (j := 4) R R R (wlq (pof fo_86_1 R) R (wgn (j := 4) R R R (wlq (v := iv a_c.A) (plx tk_3 pz R R) R (bdO t1 fun v2 hv2 t1 => (wgn (j := 4) R R R (wlc (cz0 fa_43 R fun w hw => c_spec_l01In w a_c.A 0 5 hv2) R (fun _ => (wgn (j := 4) R R R (wlq (po_not R) R (wlq (pif R R) R (mv R R (wlo (t := 13) t1 R (fun h2 t1 => ?_) fun h2 t1 => ?_))))))))))))
 exact wgf (j := 10) R R R R R (wgf (j := 10) R R R R R (wgf (j := 10) R R R R R (wgf (j := 10) R R R R R (wlq (pit R R) R (wln (wjm _ () (mtE t1) (su2 R R) so1))))))
 exact wgn (j := 10) R R R (wlq (pof fo_86_2 R) R (wgn (j := 10) R R R (wlq (v := iv a_c.B) (plx tk_3 pz R R) R (bdO t1 fun v3 hv3 t1 => (wgn (j := 10) R R R (wlc (cz0 fa_43 R fun w hw => c_spec_l01In w a_c.B 0 5 hv3) R (fun _ => (wgn (j := 10) R R R (wlq (po_not R) R (wlq (pif R R) R (wln (wjm _ () (mtE t1) (su2 R R) so1))))))))))))
 intro j1 _ hp
 obtain rfl : j1 = y1 := hp.symm
 refine wqt (wcO t0 R (fun h3 t0 => ?_) fun h3 t0 => ?_)
 refine wcr (asg R R (wnt (wct (wqr ?_))))
 obtain rfl := oi t0
 exact wq1 R R fun w hw => ⟨R, hw.weak zn⟩
 refine wck (wqt (wcr (wlq (pof fo_86_0 R) R (wlq (v := iv a_c.Split) (plx tk_3 pz R R) R (wlq (pol R R) R (wlq (pof fo_86_1 R) R (wlq (v := iv a_c.A) (plx tk_3 pz R R) R (wlq (pof fo_86_2 R) R (wlq (v := iv a_c.B) (plx tk_3 pz R R) R (wlq (pol R R) R (wlq (po_eql_bool ub_4 R R) R (asg R R (wnt (wct ?_))))))))))))))
 obtain rfl := oi t0
 exact wq1 R R fun w hw => ⟨R, hw.weak zn⟩

theorem c_spec_BlockOk (w : World) (a_b : GBlock) (v0a : Hd) (r0 : rdF w (dm w []) (sl v0a) a_b.Cells) {r : Bool} (t0 : spec_BlockOk a_b = some r) : Calls Tryz.prog 47 #[.agg #[.int .i64 a_b.Size, (sl v0a)]] w fun e w' => e = .returned (.bool r) ∧ SH w [] [] w' := by
 refine cwc (args := [_]) Tryz.func47 R Tryz.ntmps47 R ?_
 unfold spec_BlockOk at t0
 refine wcr (wle (eo_box R R) R fun b1 => (asg R R (wnt (wcs (wcs (bdO t0 fun y1 t1 t0 => (wj (J := Bool) (X := Unit) (fun z => y1 = z) (fun z _ => [(1, ptr b1 0), (18, .bool z)]) (fun _ _ => [box b1 [iv a_b.Size, (sl v0a)]]) ?_ ?_)))))))
 refine wcg (wlq (pof fo_52_0 R) R (wlq (v := iv a_b.Size) (plx tk_3 pz R R) R (bdO t1 fun v1 hv1 t1 => (wlc (cz0 fa_43 R fun w hw => c_spec_l01In w a_b.Size 1 4 hv1) R fun _ => (wlq (po_not R) R (mv R R (wlo (t := 8) t1 R (fun h1 t1 => ?_) fun h1 t1 => ?_)))))))
 exact wgf (j := 4) R R R R R (wgf (j := 4) R R R R R (wgf (j := 4) R R R R R (wgf (j := 4) R R R R R (wgf (j := 4) R R R R R (wgf (j := 4) R R R R R (wgf (j := 4) R R R R R (wgf (j := 4) R R R R R (wgf (j := 4) R R R R R (wlq (pit R R) R (wln (wjm _ () (mtE t1) (su2 R R) so1)))))))))))
 exact wgn (j := 4) R R R (wlq (pof fo_52_1 R) R (wgn (j := 4) R R R (wlq (v := (sl v0a)) (plx tk_50 pz R R) R (wgn (j := 4) R R R (wlq (pln (rga r0) el_50 R) R (wgn (j := 4) R R R (wlq (pof fo_52_0 R) R (wgn (j := 4) R R R (wlq (v := iv a_b.Size) (plx tk_3 pz R R) R (wgn (j := 4) R R R (wlq (pof fo_52_0 R) R (wgn (j := 4) R R R (wlq (v := iv a_b.Size) (plx tk_3 pz R R) R (wgn (j := 4) R R R (wlq (po_mul R R) R (wgn (j := 4) R R R (wlq (po_neq R R) R (wlq (pif R R) R (wln (wjm _ () (mtE t1) (su2 R R) so1))))))))))))))))))))
 intro j1 _ hp
 obtain rfl : j1 = y1 := hp.symm
 refine wqt (wcO t0 R (fun h2 t0 => ?_) fun h2 t0 => ?_)
 refine wcr (asg R R (wnt (wct (wqr ?_))))
 obtain rfl := oi t0
 exact wq1 R R fun w hw => ⟨R, hw.weak zn⟩
 refine wck (wqt (wcs (wcr (asg R R (wnt (gdO t0 fun g1 t0 => (sqO t0 fun y1 l1 t0 => (wj (J := Unit) (X := Unit) (fun z => y1 = .inl z) (fun _ _ => []) (fun _ _ => []) ?_ ?_))))))))
 refine wcb (wcf (X := Unit) l1 (fun k1 s1 x1l => [(1, ptr b1 0), (3, iv ((k1 : Nat) : Int))]) (fun k1 s1 x1l => [box b1 [iv a_b.Size, (sl v0a)]]) () (su2 R R) so1 fun k1 s1 x1l hN1 l1 => ?_)
 by_cases hk1 : k1 < a_b.Cells.length
 refine fos l1 hk1 fun _ t1 l1 => ?_
 unfold spec_BlockOk_L1 at t1
 have c1 : (decide (((k1 : Nat) : Int) < ((a_b.Cells.length : Nat) : Int))) = true := ddt (by omega)
 refine wcs (wcr (mv R R (wlq (pof fo_52_1 R) R (wlq (v := (sl v0a)) (plx tk_50 pz R R) R (wlq (pln (rga r0) el_50 R) R (wlq (pls R R) R (wnt (wft R c1 (wck (wqt (wcs (wcb (wcr (wlq (pof fo_52_1 R) R (wlq (v := (sl v0a)) (plx tk_50 pz R R) R (mv R R (wlq (po_ixn (k := k1) (rga r0) el_50 R R hk1) R (wlq (v := .agg #[iv ((gx a_b.Cells k1).Split), iv ((gx a_b.Cells k1).A), iv ((gx a_b.Cells k1).B)]) (po_ldfs (rga r0) tk_86 R hk1 R R R) R (bdO t1 fun v2 hv2 t1 => (wlc (cz0 fa_70 R fun w hw => c_spec_CellOk w (gx a_b.Cells k1) hv2) R fun _ => (wlq (po_not R) R (wnt (wcO t1 R (fun h3 t1 => ?_) fun h3 t1 => ?_)))))))))))))))))))))))
 refine wcr (asg R R (wnt (wct (wbr (wqr (wqr (wbr (wqr (wqr ?_)))))))))
 replace t0 := lpR t0 l1 t1
 obtain rfl := oi t0
 exact wq1 R R fun w hw => ⟨R, hw.weak zn⟩
 refine wck (wqb (wqt (wcg (mv R R (wlq (po_inc R R (by omega)) R ?_)))))
 exact asg R R (wln (wq_rnd hk1 (stpN l1 t1) () (su2 R R) so1))
 have c1 : (decide (((k1 : Nat) : Int) < ((a_b.Cells.length : Nat) : Int))) = false := ddf (by omega)
 have en1 := foe l1 hk1
 exact wcs (wcr (mv R R (wlq (pof fo_52_1 R) R (wlq (v := (sl v0a)) (plx tk_50 pz R R) R (wlq (pln (rga r0) el_50 R) R (wlq (pls R R) R (wnt (wff R c1 (wcx (wqe (wqe (wbx (wjm _ () en1 yn zn)))))))))))))
 intro e1 _ hp
 replace t0 := sqE (j := e1) t0 hp
 refine wqt (wcr (asg R R (wnt (wct ?_))))
 obtain rfl := oi t0
 exact wq1 R R fun w hw => ⟨R, hw.weak zn⟩

theorem c_spec_EntryOk (w : World) (a_e : GEntry) (v0a : Hd) (r0 : rdF w (dm w []) (sl v0a) a_e.Block.Cells) {r : Bool} (t0 : spec_EntryOk a_e = some r) : Calls Tryz.prog 44 #[.agg #[.int .i64 a_e.Owner, .int .i64 a_e.Day, .int .i64 a_e.Block.Size, (sl v0a)]] w fun e w' => e = .returned (.bool r) ∧ SH w [] [] w' := by
 refine cwc (args := [_]) Tryz.func44 R Tryz.ntmps44 R ?_
 unfold spec_EntryOk at t0
 refine wcr (wle (eo_box R R) R fun b1 => (asg R R (wnt (wcs (bdO t0 fun y1 t1 t0 => (wj (J := Bool) (X := Unit) (fun z => y1 = z) (fun z _ => [(2, .bool z)]) (fun _ _ => []) ?_ ?_))))))
 refine wcg (wlq (pof fo_54_0 R) R (wlq (v := iv a_e.Owner) (plx tk_3 pz R R) R (bdO t1 fun v1 hv1 t1 => (wlc (cz0 fa_43 R fun w hw => c_spec_l01In w a_e.Owner 0 99 hv1) R fun _ => (mv R R (wlo (t := 6) t1 R (fun h1 t1 => ?_) fun h1 t1 => ?_))))))
 refine wgn (j := 3) R R R (wlq (pof fo_54_1 R) R (wgn (j := 3) R R R (wlq (v := iv a_e.Day) (plx tk_3 pz R R) R (bdO t1 fun v2 hv2 t1 => (wgn (j := 3) R R R (wlc (cz0 fa_43 R fun w hw => c_spec_l01In w a_e.Day 0 9999 hv2) R (fun _ => (wlq (pit R R) R (mv R R (wlo (t := 11) t1 R (fun h2 t1 => ?_) fun h2 t1 => ?_))))))))))
 exact wgn (j := 8) R R R (wlq (pof fo_54_2 R) R (wgn (j := 8) R R R (wlq (v := .agg #[iv a_e.Block.Size, (sl v0a)]) (plb tk_52 pz R R R) R (bdO t1 fun v3 hv3 t1 => (wgn (j := 8) R R R (wlc (cz0 fa_47 R fun w hw => c_spec_BlockOk w a_e.Block v0a (ra r0 hw) hv3) R (fun _ => (wlq (pit R R) R (asg R R (wln (wjm _ () (mtE t1) (su1 R) zn)))))))))))
 exact wgf (j := 8) R R R R R (wgf (j := 8) R R R R R (wgf (j := 8) R R R R R (wlq (pif R R) R (asg R R (wln (wjm _ () (mtE t1) (su1 R) zn))))))
 exact wgf (j := 3) R R R R R (wgf (j := 3) R R R R R (wgf (j := 3) R R R R R (wlq (pif R R) R (mv R R (wgf (j := 8) R R R R R (wgf (j := 8) R R R R R (wgf (j := 8) R R R R R (wlq (pif R R) R (asg R R (wln (wjm _ () (mtE t1) (su1 R) zn)))))))))))
 intro j1 _ hp
 obtain rfl : j1 = y1 := hp.symm
 refine wqt (wct ?_)
 obtain rfl := oi t0
 exact wq1 R R fun w hw => ⟨R, hw.weak zn⟩

theorem c_spec_l38Member (w : World) (a_list : List GMember) (v0a : Hd) (r0 : rdF w (dm w []) (sl v0a) a_list) (a_number : Int) {r : Bool} (t0 : spec_l38Member a_list a_number = some r) : Calls Tryz.prog 45 #[(sl v0a), .int .i64 a_number] w fun e w' => e = .returned (.bool r) ∧ SH w [] [] w' := by
 refine cwc (args := [_, _]) Tryz.func45 R Tryz.ntmps45 R ?_
 unfold spec_l38Member at t0
 refine wcr (asg R R (wnt (wcs (wcr (asg R R (wnt (gdO t0 fun g1 t0 => (sqO t0 fun y1 l1 t0 => (wj (J := Unit) (X := Unit) (fun z => y1 = .inl z) (fun _ _ => []) (fun _ _ => []) ?_ ?_)))))))))
 refine wcb (wcf (X := Unit) l1 (fun k1 s1 x1l => [(0, (sl v0a)), (1, iv a_number), (5, iv ((k1 : Nat) : Int))]) (fun k1 s1 x1l => []) () (su3 R R R) zn fun k1 s1 x1l hN1 l1 => ?_)
 by_cases hk1 : k1 < a_list.length
 refine fos l1 hk1 fun _ t1 l1 => ?_
 unfold spec_l38Member_L1 at t1
 have c1 : (decide (((k1 : Nat) : Int) < ((a_list.length : Nat) : Int))) = true := ddt (by omega)
 refine wcs (wcr (mv R R (mv R R (wlq (pln (rga r0) el_31 R) R (wlq (pls R R) R (wnt (wft R c1 (wck (wqt (wcs (wcb (wcr (mv R R (mv R R (wlq (po_ixn (k := k1) (rga r0) el_31 R R hk1) R (wlq (po_sfldr (rga r0) hk1 fo_49_0 R) R (wlq (v := iv ((gx a_list k1).Number)) (po_ldf (rga r0) tk_3 R hk1 R) R (mv R R (wlq (pol R R) R (wnt (wcO t1 R (fun h1 t1 => ?_) fun h1 t1 => ?_)))))))))))))))))))))
 refine wcr (asg R R (wnt (wct (wbr (wqr (wqr (wbr (wqr (wqr ?_)))))))))
 replace t0 := lpR t0 l1 t1
 obtain rfl := oi t0
 exact wq1 R R fun w hw => ⟨R, hw.weak zn⟩
 refine wck (wqb (wqt (wcg (mv R R (wlq (po_inc R R (by omega)) R ?_)))))
 exact asg R R (wln (wq_rnd hk1 (stpN l1 t1) () (su3 R R R) zn))
 have c1 : (decide (((k1 : Nat) : Int) < ((a_list.length : Nat) : Int))) = false := ddf (by omega)
 have en1 := foe l1 hk1
 exact wcs (wcr (mv R R (mv R R (wlq (pln (rga r0) el_31 R) R (wlq (pls R R) R (wnt (wff R c1 (wcx (wqe (wqe (wbx (wjm _ () en1 yn zn))))))))))))
 intro e1 _ hp
 replace t0 := sqE (j := e1) t0 hp
 refine wqt (wcr (asg R R (wnt (wct ?_))))
 obtain rfl := oi t0
 exact wq1 R R fun w hw => ⟨R, hw.weak zn⟩

theorem c_spec_GoodStanding (w : World) (a_list : List GMember) (v0a : Hd) (r0 : rdF w (dm w []) (sl v0a) a_list) (a_year : Int) {r : List Int} (t0 : spec_GoodStanding a_list a_year = some r) : Calls Tryz.prog 49 #[(sl v0a), .int .i64 a_year] w fun e w' => ∃ x : Hd, e = .returned ((sl x)) ∧ SH w [] [ownF (sl x) r] w' := by
 refine cwc (args := [_, _]) Tryz.func49 R Tryz.ntmps49 R ?_
 unfold spec_GoodStanding at t0
 refine wcr (asg R R (wnt (wcr (wle (ebs R sb_23_0) R fun b1 => (asg R R (wnt (wcs (wcr (asg R R (wnt (gdO t0 fun g1 t0 => (lpO_inv t0 fun y1 l1 t0 => (wj (J := List Int) (X := Hd) (fun z => y1 = z) (fun _ x => [(5, (sl x))]) (fun z x => [ownF (sl x) z]) ?_ ?_)))))))))))))
 refine wcb (wcf (X := Hd) l1 (fun k1 s1 x1l => [(0, (sl v0a)), (1, iv a_year), (5, (sl x1l)), (6, iv ((k1 : Nat) : Int))]) (fun k1 s1 x1l => [ownF (sl x1l) s1]) (⟨some ⟨b1, 0, none⟩, 0, 0⟩ : Hd) (su4 R R R R) (zc (pbo pz (n := 0) (xs := ([] : List Int)) R R (by unfold maxLen; omega)) zn) fun k1 s1 x1l hN1 l1 => ?_)
 by_cases hk1 : k1 < a_list.length
 refine fos l1 hk1 fun _ t1 l1 => ?_
 unfold spec_GoodStanding_L1 at t1
 have c1 : (decide (((k1 : Nat) : Int) < ((a_list.length : Nat) : Int))) = true := ddt (by omega)
 refine wcs (wcr (mv R R (mv R R (wlq (pln (rga r0) el_31 R) R (wlq (pls R R) R (mv R R (wl_know (t := 12) R c1 (wgn (j := 4) R R R (mv R R (bdO t1 fun v1 hv1 t1 => (wgn (j := 4) R R R (wlc (cz0 fa_40 R fun w hw => c_spec_MembersOk w a_list v0a (ra r0 hw) hv1) R (fun _ => (wlq (pit R R) R (wnt (wcO t1 R (fun h1 t1 => ?_) fun h1 t1 => ?_))))))))))))))))
 refine wck (wqt (wcs (wcb (wcr (mv R R (mv R R (wlq (po_ixn (k := k1) (rga r0) el_31 R R hk1) R (wlq (po_sfldr (rga r0) hk1 fo_49_2 R) R (wlq (v := iv ((gx a_list k1).Paid)) (po_ldf (rga r0) tk_3 R hk1 R) R (mv R R (wlq (po_geq R R) R (wnt (bdO t1 fun y2 t2 t1 => (wj (J := List Int) (X := Hd) (fun z => y2 = z) (fun _ x => [(0, (sl v0a)), (1, iv a_year), (5, (sl x)), (6, iv ((k1 : Nat) : Int)), (13, (sl v0a)), (14, .bool v1)]) (fun z x => [ownF (sl x) z]) ?_ ?_))))))))))))))
 refine wcO t2 R (fun h2 t2 => ?_) fun h2 t2 => ?_
 refine wcg (mv R R (mv R R (mv R R (wlq (po_ixn (k := k1) (rga r0) el_31 R R hk1) R (wlq (po_sfldr (rga r0) hk1 fo_49_0 R) R (wlq (v := iv ((gx a_list k1).Number)) (po_ldf (rga r0) tk_3 R hk1 R) R (wle (ebs R (sb_23_1 ((gx a_list k1).Number))) R fun b2 => (gdO t2 fun g2 t2 => (wle (eo_append (xs := s1) (ys := ([(gx a_list k1).Number] : List Int)) ak_23 pk1 R R (slin_rd fun _ g => Rg.on (rgo (pbo pz (n := 1) (xs := ([(gx a_list k1).Number] : List Int)) R R (by unfold maxLen; omega))) g) g2) R fun x3 => ?_)))))))))
 exact asg R R (wln (wjm _ x3 (mtE t2) (su6 R R R R R R) so1))
 exact wck (wjm _ x1l (mtE t2) (su6 R R R R R R) so1)
 intro j1 x2 hp
 obtain rfl : j1 = y2 := hp.symm
 refine wqb (wqt (wcg (mv R R (wlq (po_inc R R (by omega)) R ?_))))
 exact asg R R (wln (wq_rnd hk1 (stpN l1 t1) x2 (su4 R R R R) so1))
 exact wcx (wqe (wqe (wbx (wjm _ x1l (Sum.inl.inj (stpB l1 t1)) (su1 R) so1))))
 have c1 : (decide (((k1 : Nat) : Int) < ((a_list.length : Nat) : Int))) = false := ddf (by omega)
 have en1 := foe l1 hk1
 exact wcs (wcr (mv R R (mv R R (wlq (pln (rga r0) el_31 R) R (wlq (pls R R) R (mv R R (wl_know (t := 12) R c1 (wgf (j := 4) R R R R R (wgf (j := 4) R R R R R (wlq (pif R R) R (wnt (wff R R (wcx (wqe (wqe (wbx (wjm _ x1l (Sum.inl.inj en1) (su1 R) so1)))))))))))))))))
 intro e1 x1 hp
 obtain rfl : e1 = y1 := hp.symm
 refine wqt (wcr (mv R R (asg R R (wnt (wct ?_)))))
 obtain rfl := oi t0
 exact wq1 R R fun w hw => ⟨x1, R, hw.weak so1⟩

theorem c_spec_SwapRounds (w : World) (a_g : GGuild) (v0a : Hd) (r0 : rdF w (dm w []) (sl v0a) a_g.Members) (v1a : Hd) (_r1 : rdF w (dm w []) (sl v1a) a_g.Stock) (v2a : Hd) (u2a : List Value) (_r2 : RdL w (dm w []) (sl v2a) u2a a_g.Entries) (v3a : Hd) (_r3 : rdF w (dm w []) (sl v3a) a_g.Books) {r : Int} (t0 : spec_SwapRounds a_g = some r) : Calls Tryz.prog 20 #[.agg #[(sl v0a), (sl v1a), (sl v2a), (sl v3a), .int .i64 a_g.Round, .int .i64 a_g.Year]] w fun e w' => e = .returned (.int .i64 r) ∧ SH w [] [] w' := by
 refine cwc (args := [_]) Tryz.func20 R Tryz.ntmps20 R ?_
 unfold spec_SwapRounds at t0
 refine wcr (wle (eo_box R R) R fun b1 => (asg R R (wnt (wcr (wlq (pof fo_35_0 R) R (wlq (v := (sl v0a)) (plx tk_31 pz R R) R (wlq (pof fo_35_5 R) R (wlq (v := iv a_g.Year) (plx tk_3 pz R R) R (bdO t0 fun v1 hv1 t0 => (wlc (cz1 fa_49 R fun w hw => c_spec_GoodStanding w a_g.Members v0a (ra r0 hw) a_g.Year hv1) R fun x1 => (wlq (pln (rgo pz) el_23 R) R (asg R R (wnt (wcs (wcr (mv R R (bdO t0 fun v2 hv2 t0 => (wlc (cz0 fa_43 R fun w hw => c_spec_l01In w ((v1.length : Nat) : Int) 2 10 hv2) R fun _ => (wlq (po_not R) R (wnt (wcO t0 R (fun h1 t0 => ?_) fun h1 t0 => ?_)))))))))))))))))))))
 refine wcr (asg R R (wnt (wct (wqr ?_))))
 obtain rfl := oi t0
 exact wq1 R R fun w hw => ⟨R, hw.weak zn⟩
 refine wck (wqt (wcr (mv R R (wlq (po_sub R R) R (asg R R (wnt (wct ?_)))))))
 obtain rfl := oi t0
 exact wq1 R R fun w hw => ⟨R, hw.weak zn⟩

theorem c_spec_GuildOk (w : World) (a_g : GGuild) (v0a : Hd) (r0 : rdF w (dm w []) (sl v0a) a_g.Members) (v1a : Hd) (r1 : rdF w (dm w []) (sl v1a) a_g.Stock) (v2a : Hd) (u2a : List Value) (r2 : RdL w (dm w []) (sl v2a) u2a a_g.Entries) (v3a : Hd) (r3 : rdF w (dm w []) (sl v3a) a_g.Books) {r : Bool} (t0 : spec_GuildOk a_g = some r) : Calls Tryz.prog 17 #[.agg #[(sl v0a), (sl v1a), (sl v2a), (sl v3a), .int .i64 a_g.Round, .int .i64 a_g.Year]] w fun e w' => e = .returned (.bool r) ∧ SH w [] [] w' := by
 refine cwc (args := [_]) Tryz.func17 R Tryz.ntmps17 R ?_
 unfold spec_GuildOk at t0
 refine wcr (wle (eo_box R R) R fun b1 => (asg R R (wnt (wcs (wcs (bdO t0 fun y1 t1 t0 => (wj (J := Bool) (X := Unit) (fun z => y1 = z) (fun z _ => [(1, ptr b1 0), (32, .bool z)]) (fun _ _ => [box b1 [(sl v0a), (sl v1a), (sl v2a), (sl v3a), iv a_g.Round, iv a_g.Year]]) ?_ ?_)))))))
 refine wcg (wlq (pof fo_35_0 R) R (wlq (v := (sl v0a)) (plx tk_31 pz R R) R (bdO t1 fun v1 hv1 t1 => (wlc (cz0 fa_40 R fun w hw => c_spec_MembersOk w a_g.Members v0a (ra r0 hw) hv1) R fun _ => (wlq (po_not R) R (mv R R (wlo (t := 9) t1 R (fun h1 t1 => ?_) fun h1 t1 => ?_)))))))
 exact wgf (j := 4) R R R R R (wgf (j := 4) R R R R R (wgf (j := 4) R R R R R (wgf (j := 4) R R R R R (wlq (pit R R) R (mv R R (wgf (j := 10) R R R R R (wgf (j := 10) R R R R R (wgf (j := 10) R R R R R (wgf (j := 10) R R R R R (wlq (pit R R) R (mv R R (wgf (j := 16) R R R R R (wgf (j := 16) R R R R R (wgf (j := 16) R R R R R (wgf (j := 16) R R R R R (wlq (pit R R) R (mv R R (wgf (j := 22) R R R R R (wgf (j := 22) R R R R R (wgf (j := 22) R R R R R (wgf (j := 22) R R R R R (wlq (pit R R) R (wln (wjm _ () (mtE t1) (su2 R R) so1))))))))))))))))))))))))
 refine wgn (j := 4) R R R (wlq (pof fo_35_1 R) R (wgn (j := 4) R R R (wlq (v := (sl v1a)) (plx tk_23 pz R R) R (bdO t1 fun v2 hv2 t1 => (wgn (j := 4) R R R (wlc (cz0 fa_41 R fun w hw => c_spec_StockOk w a_g.Stock v1a (ra r1 hw) hv2) R (fun _ => (wgn (j := 4) R R R (wlq (po_not R) R (wlq (pif R R) R (mv R R (wlo (t := 15) t1 R (fun h2 t1 => ?_) fun h2 t1 => ?_))))))))))))
 exact wgf (j := 10) R R R R R (wgf (j := 10) R R R R R (wgf (j := 10) R R R R R (wgf (j := 10) R R R R R (wlq (pit R R) R (mv R R (wgf (j := 16) R R R R R (wgf (j := 16) R R R R R (wgf (j := 16) R R R R R (wgf (j := 16) R R R R R (wlq (pit R R) R (mv R R (wgf (j := 22) R R R R R (wgf (j := 22) R R R R R (wgf (j := 22) R R R R R (wgf (j := 22) R R R R R (wlq (pit R R) R (wln (wjm _ () (mtE t1) (su2 R R) so1))))))))))))))))))
 refine wgn (j := 10) R R R (wlq (pof fo_35_3 R) R (wgn (j := 10) R R R (wlq (v := (sl v3a)) (plx tk_33 pz R R) R (bdO t1 fun v3 hv3 t1 => (wgn (j := 10) R R R (wlc (cz0 fa_42 R fun w hw => c_spec_LedgerOk w a_g.Books v3a (ra r3 hw) hv3) R (fun _ => (wgn (j := 10) R R R (wlq (po_not R) R (wlq (pif R R) R (mv R R (wlo (t := 21) t1 R (fun h3 t1 => ?_) fun h3 t1 => ?_))))))))))))
 exact wgf (j := 16) R R R R R (wgf (j := 16) R R R R R (wgf (j := 16) R R R R R (wgf (j := 16) R R R R R (wlq (pit R R) R (mv R R (wgf (j := 22) R R R R R (wgf (j := 22) R R R R R (wgf (j := 22) R R R R R (wgf (j := 22) R R R R R (wlq (pit R R) R (wln (wjm _ () (mtE t1) (su2 R R) so1))))))))))))
 refine wgn (j := 16) R R R (wlq (pof fo_35_2 R) R (wgn (j := 16) R R R (wlq (v := (sl v2a)) (plx tk_32 pz R R) R (wgn (j := 16) R R R (wlq (pln (rga r2) el_32 R) R (wgn (j := 16) R R R (wlq (po_gtr R R) R (wlq (pif R R) R (mv R R (wlo (t := 27) t1 R (fun h4 t1 => ?_) fun h4 t1 => ?_))))))))))
 exact wgf (j := 22) R R R R R (wgf (j := 22) R R R R R (wgf (j := 22) R R R R R (wgf (j := 22) R R R R R (wlq (pit R R) R (wln (wjm _ () (mtE t1) (su2 R R) so1))))))
 exact wgn (j := 22) R R R (wlq (pof fo_35_5 R) R (wgn (j := 22) R R R (wlq (v := iv a_g.Year) (plx tk_3 pz R R) R (bdO t1 fun v4 hv4 t1 => (wgn (j := 22) R R R (wlc (cz0 fa_43 R fun w hw => c_spec_l01In w a_g.Year 1900 2999 hv4) R (fun _ => (wgn (j := 22) R R R (wlq (po_not R) R (wlq (pif R R) R (wln (wjm _ () (mtE t1) (su2 R R) so1))))))))))))
 intro j1 _ hp
 obtain rfl : j1 = y1 := hp.symm
 refine wqt (wcO t0 R (fun h5 t0 => ?_) fun h5 t0 => ?_)
 refine wcr (asg R R (wnt (wct (wqr ?_))))
 obtain rfl := oi t0
 exact wq1 R R fun w hw => ⟨R, hw.weak zn⟩
 refine wck (wqt (wcs (wcr (asg R R (wnt (gdO t0 fun g1 t0 => (sqO t0 fun y1 l1 t0 => (wj (J := Unit) (X := Unit) (fun z => y1 = .inl z) (fun _ _ => [(1, ptr b1 0)]) (fun _ _ => [box b1 [(sl v0a), (sl v1a), (sl v2a), (sl v3a), iv a_g.Round, iv a_g.Year]]) ?_ ?_))))))))
 refine wcb (wcf (X := Unit) l1 (fun k1 s1 x1l => [(1, ptr b1 0), (3, iv ((k1 : Nat) : Int))]) (fun k1 s1 x1l => [box b1 [(sl v0a), (sl v1a), (sl v2a), (sl v3a), iv a_g.Round, iv a_g.Year]]) () (su2 R R) so1 fun k1 s1 x1l hN1 l1 => ?_)
 by_cases hk1 : k1 < a_g.Entries.length
 refine fos l1 hk1 fun _ t1 l1 => ?_
 unfold spec_GuildOk_L1 at t1
 have c1 : (decide (((k1 : Nat) : Int) < ((a_g.Entries.length : Nat) : Int))) = true := ddt (by omega)
 refine wcs (wcr (mv R R (wlq (pof fo_35_2 R) R (wlq (v := (sl v2a)) (plx tk_32 pz R R) R (wlq (pln (rga r2) el_32 R) R (wlq (pls R R) R (wnt (wft R c1 (wck (wqt (wcs (wcb (wcr (wlq (pof fo_35_2 R) R (wlq (v := (sl v2a)) (plx tk_32 pz R R) R (mv R R (wlq (po_ixn (k := k1) (rga r2) el_32 R R hk1) R (wl_elem (rga r2) hk1 ?_))))))))))))))))))
 rintro ⟨_, _, he1⟩
 obtain ⟨w1, hc1, _⟩ := rd_GEntry.1 he1
 refine wlq (v := .agg #[iv ((gx a_g.Entries k1).Owner), iv ((gx a_g.Entries k1).Day), iv (((gx a_g.Entries k1).Block).Size), (sl w1)]) (po_ldns (rga r2) tk_54 R hc1 R R R) R (wle (eal (cs := [iv 0, iv 0, iv 0, (sl hn)]) za_54) R fun b2 => (wls (sbx (cs' := [iv ((gx a_g.Entries k1).Owner), iv ((gx a_g.Entries k1).Day), iv (((gx a_g.Entries k1).Block).Size), (sl w1)]) tk_54 pz R R R R R R R) (wnt (wcs (bdO t1 fun y2 t2 t1 => (wj (J := Bool) (X := Unit) (fun z => y2 = z) (fun z _ => [(1, ptr b1 0), (3, iv ((k1 : Nat) : Int)), (71, .bool z)]) (fun _ _ => [box b1 [(sl v0a), (sl v1a), (sl v2a), (sl v3a), iv a_g.Round, iv a_g.Year]]) ?_ ?_))))))
 refine wcd [box b2 [iv ((gx a_g.Entries k1).Owner), iv ((gx a_g.Entries k1).Day), iv (((gx a_g.Entries k1).Block).Size), (sl w1)], box b1 [(sl v0a), (sl v1a), (sl v2a), (sl v3a), iv a_g.Round, iv a_g.Year]] 27 mixed (aq (v := .agg #[iv ((gx a_g.Entries k1).Owner), iv ((gx a_g.Entries k1).Day), iv (((gx a_g.Entries k1).Block).Size), (sl w1)]) 0 R (plb tk_54 pz R R R) so2 R (a1 1 (bdO t2 fun v5 hv5 t2 => (wsc R (cz0 fa_44 R fun w hw => c_spec_EntryOk w (GEntry.mk ((gx a_g.Entries k1).Owner) ((gx a_g.Entries k1).Day) ((gx a_g.Entries k1).Block)) w1 (Rg.on (er_GEntry_0 hc1 (rga r2) hk1) hw) hv5) (fun _ => (zt so2)) R fun _ => (aq 2 R (po_not R) so2 R (aq 3 R (pom R) so2 R (waO_ (t := 48) t2 R (fun h6 t2 => ?_) fun h6 t2 => ?_)))))))
 exact af 4 3 R R R R R so2 R (af 5 3 R R R R R so2 R (af 6 3 R R R R R so2 R (af 7 3 R R R R R so2 R (af 8 3 R R R R R so2 R (af 9 3 R R R R R so2 R (aq 10 R (pit R R) so2 R (aq 11 R (pom R) so2 R (af 12 11 R R R R R so2 R (af 13 11 R R R R R so2 R (af 14 11 R R R R R so2 R (au 15 14 R R R R so2 R (au 16 14 R R R R so2 R (au 17 14 R R R R so2 R (au 18 14 R R R R so2 R (au 19 14 R R R R so2 R (au 20 14 R R R R so2 R (au 21 14 R R R R so2 R (au 22 14 R R R R so2 R (au 23 14 R R R R so2 R (au 24 14 R R R R so2 R (af 25 11 R R R R R so2 R (aq 26 R (pit R R) so2 R (ae (wjm _ () (mtE t2) (su3 R R R) (zc pk1 zn)))))))))))))))))))))))))
 refine an 4 3 R R R R (pof fo_35_0 R) so2 R (an (v := (sl v0a)) 5 3 R R R R (plx tk_31 pk1 R R) so2 R (an 6 3 R R R R (pof fo_54_0 R) so2 R (an (v := iv ((gx a_g.Entries k1).Owner)) 7 3 R R R R (plx tk_3 pz R R) so2 R (a1 8 (bdO t2 fun v6 hv6 t2 => (ws_call_on (j := 3) R R R R (cz0 fa_45 R fun w hw => c_spec_l38Member w a_g.Members v0a (ra r0 hw) ((gx a_g.Entries k1).Owner) hv6) (fun _ => (zt so2)) R fun _ => (an 9 3 R R R R (po_not R) so2 R (aq 10 R (pif R R) so2 R (aq 11 R (pom R) so2 R (waO_ (t := 56) t2 R (fun h7 t2 => ?_) fun h7 t2 => ?_))))))))))
 exact af 12 11 R R R R R so2 R (af 13 11 R R R R R so2 R (af 14 11 R R R R R so2 R (au 15 14 R R R R so2 R (au 16 14 R R R R so2 R (au 17 14 R R R R so2 R (au 18 14 R R R R so2 R (au 19 14 R R R R so2 R (au 20 14 R R R R so2 R (au 21 14 R R R R so2 R (au 22 14 R R R R so2 R (au 23 14 R R R R so2 R (au 24 14 R R R R so2 R (af 25 11 R R R R R so2 R (aq 26 R (pit R R) so2 R (ae (wjm _ () (mtE t2) (su3 R R R) (zc pk1 zn)))))))))))))))))
 refine an 12 11 R R R R (pom R) so2 R (an 13 11 R R R R (po_gtr R R) so2 R (an 14 11 R R R R (pom R) so2 R (waO_ (t := 59) t2 R (fun h8 t2 => ?_) fun h8 t2 => ?_)))
 refine an 15 14 R R R R (pof fo_54_1 R) so2 R (an (v := iv ((gx a_g.Entries k1).Day)) 16 14 R R R R (plx tk_3 pz R R) so2 R (an 17 14 R R R R (pof fo_35_2 R) so2 R (an (v := (sl v2a)) 18 14 R R R R (plx tk_32 pk1 R R) so2 R (an 19 14 R R R R (pom R) so2 R (an 20 14 R R R R (po_sub R R) so2 R (gdO t2 fun g2 t2 => (an 21 14 R R R R (po_ixr (rga r2) el_32 R R g2.1 g2.2) so2 R (an 22 14 R R R R (po_sfldr (rga r2) (ix_lt g2) fo_54_1 R) so2 R (wa_elem (rga r2) (ix_lt g2) ?_)))))))))
 rintro ⟨_, _, he2⟩
 obtain ⟨w2, hc2, _⟩ := rd_GEntry.1 he2
 exact an (v := iv ((gx a_g.Entries (((wr (((k1 : Nat) : Int) - 1))).toNat)).Day)) 23 14 R R R R (po_ldn (rga r2) tk_3 R hc2 R) so2 R (an 24 14 R R R R (pls R R) so2 R (an 25 11 R R R R (pit R R) so2 R (aq 26 R (pif R R) so2 R (ae (wjm _ () (mtE t2) (su3 R R R) (zc pk1 zn))))))
 exact af 15 14 R R R R R so2 R (af 16 14 R R R R R so2 R (af 17 14 R R R R R so2 R (af 18 14 R R R R R so2 R (af 19 14 R R R R R so2 R (af 20 14 R R R R R so2 R (af 21 14 R R R R R so2 R (af 22 14 R R R R R so2 R (af 23 14 R R R R R so2 R (af 24 14 R R R R R so2 R (an 25 11 R R R R (pif R R) so2 R (aq 26 R (pif R R) so2 R (ae (wjm _ () (mtE t2) (su3 R R R) (zc pk1 zn))))))))))))))
 intro j2 _ hp
 obtain rfl : j2 = y2 := hp.symm
 refine wqt (wcO t1 R (fun h9 t1 => ?_) fun h9 t1 => ?_)
 refine wcr (asg R R (wnt (wct (wbr (wqr (wqr (wbr (wqr (wqr ?_)))))))))
 replace t0 := lpR t0 l1 t1
 obtain rfl := oi t0
 exact wq1 R R fun w hw => ⟨R, hw.weak zn⟩
 refine wck (wqb (wqt (wcg (mv R R (wlq (po_inc R R (by omega)) R ?_)))))
 exact asg R R (wln (wq_rnd hk1 (stpN l1 t1) () (su2 R R) so1))
 have c1 : (decide (((k1 : Nat) : Int) < ((a_g.Entries.length : Nat) : Int))) = false := ddf (by omega)
 have en1 := foe l1 hk1
 exact wcs (wcr (mv R R (wlq (pof fo_35_2 R) R (wlq (v := (sl v2a)) (plx tk_32 pz R R) R (wlq (pln (rga r2) el_32 R) R (wlq (pls R R) R (wnt (wff R c1 (wcx (wqe (wqe (wbx (wjm _ () en1 (su1 R) so1)))))))))))))
 intro e1 _ hp
 replace t0 := sqE (j := e1) t0 hp
 refine wqt (wcs (wcd [box b1 [(sl v0a), (sl v1a), (sl v2a), (sl v3a), iv a_g.Round, iv a_g.Year]] 6 mixed (aq 0 R (pof fo_35_4 R) so1 R (aq (v := iv a_g.Round) 1 R (plx tk_3 pz R R) so1 R (aq (v := .agg #[(sl v0a), (sl v1a), (sl v2a), (sl v3a), iv a_g.Round, iv a_g.Year]) 2 R (plb tk_35 pz R R R) so1 R (a1 3 (bdO t0 fun v7 hv7 t0 => (wsc R (cz0 fa_20 R fun w hw => c_spec_SwapRounds w a_g v0a (ra r0 hw) v1a (ra r1 hw) v2a u2a (ra r2 hw) v3a (ra r3 hw) hv7) (fun _ => (zt so1)) R fun _ => (a1 4 (bdO t0 fun v8 hv8 t0 => (wsc R (cz0 fa_43 R fun w hw => c_spec_l01In w a_g.Round 0 v7 hv8) (fun _ => (zt so1)) R fun _ => (aq 5 R (po_assign R) so1 R (ae (wqt (wct ?_)))))))))))))))
 obtain rfl := oi t0
 exact wq1 R R fun w hw => ⟨R, hw.weak zn⟩

theorem c_spec_l01Figure (w : World) (a_x : Int) {r : UInt8} (t0 : spec_l01Figure a_x = some r) : Calls Tryz.prog 46 #[.int .i64 a_x] w fun e w' => e = .returned (.int .u8 (r.toNat : Int)) ∧ SH w [] [] w' := by
 refine cwc (args := [_]) Tryz.func46 R Tryz.ntmps46 R ?_
 unfold spec_l01Figure at t0
 refine wcr (asg R R (wnt (wcs (wcr (mv R R (wlq (pls R R) R (wnt (wcO t0 R (fun h1 t0 => ?_) fun h1 t0 => ?_))))))))
 refine wcr (mv R R (wlq (po_add R R) R (wlq (po_intu8 isInt_3 isU8_5 R) R (asg R R (wnt (wct (wqr ?_)))))))
 obtain rfl := oi t0
 exact wq1 R R fun w hw => ⟨R, hw.weak zn⟩
 refine wck (wqt (wcr (mv R R (wlq (po_add R R) R (wlq (po_sub R R) R (wlq (po_intu8 isInt_3 isU8_5 R) R (asg R R (wnt (wct ?_)))))))))
 obtain rfl := oi t0
 exact wq1 R R fun w hw => ⟨R, hw.weak zn⟩

theorem c_spec_FormatInt (w : World) (a_n : Int) {r : Str} (t0 : spec_FormatInt a_n = some r) : Calls Tryz.prog 18 #[.int .i64 a_n] w fun e w' => e = .returned (bs r) ∧ SH w [] [] w' := by
 refine cwc (args := [_]) Tryz.func18 R Tryz.ntmps18 R ?_
 unfold spec_FormatInt at t0
 refine wcr (asg R R (wnt (wcs (wcr (mv R R (wlq (pol R R) R (wnt (wcO t0 R (fun h1 t0 => ?_) fun h1 t0 => ?_))))))))
 refine wcr (asg R R (wnt (wct (wqr ?_))))
 obtain rfl := oi t0
 exact wq1 R R fun w hw => ⟨R, hw.weak zn⟩
 refine wck (wqt (wcr (mv R R (wlq (pls R R) R (asg R R (wnt (wcr (asg R R (wnt (wcs (wlO_inv t0 fun y1 l1 t0 => (wj (J := Int × Str) (X := Unit) (fun z => y1 = z) (fun z _ => [(3, .bool (decide (a_n < 0))), (4, bs z.2)]) (fun _ _ => []) ?_ ?_))))))))))))
 refine wcb (wc_whO (X := Unit) l1 (fun s1 x1l => [(0, iv s1.1), (3, .bool (decide (a_n < 0))), (4, bs s1.2)]) (fun s1 x1l => []) () (su3 R R R) zn fun m1 s1 x1l l1 => (whO_step l1 fun _ t1 l1 => ?_))
 unfold spec_FormatInt_L1 at t1
 refine wcs (wcr (mv R R (wlq (po_neq R R) R (wnt (wcO t1 R (fun h2 t1 => ?_) fun h2 t1 => ?_)))))
 refine wck (wqt (wcb (wcr (mv R R (wlq (po_rem R R (by decide)) R ?_)))))
 refine asg R R (wnt (wcs (wcr (mv R R (wlq (pls R R) R (wnt (wcj (X := Unit) (fun _ => True) (fun _ => [(0, iv s1.1), (3, .bool (decide (a_n < 0))), (4, bs s1.2), (5, iv (bif (decide ((s1.1.tmod 10) < 0)) then (wr (0 - (s1.1.tmod 10))) else (s1.1.tmod 10)))]) (fun _ => []) ?_ ?_)))))))
 refine wc_cond R (fun h3 => ?_) fun h3 => ?_
 exact wcg (mv R R (wlq (po_neg R) R (asg R R (wln (wqm () trivial (yc R (yc R (yc R (sub_i R (by simp only [h3, cond_true]) yn)))) zn)))))
 exact wck (wqm () trivial (yc R (yc R (yc R (sub_i R (by simp only [h3, cond_false]) yn)))) zn)
 intro _ _
 refine wqt (wcr (mv R R (bdO t1 fun v1 hv1 t1 => (wlc (cz0 fa_46 R fun w hw => c_spec_l01Figure w (bif (decide ((s1.1.tmod 10) < 0)) then (wr (0 - (s1.1.tmod 10))) else (s1.1.tmod 10)) hv1) R fun _ => (wle (ebs R (sb_82_1 v1)) R fun b1 => (wlq (po_b2s (rgo (pbo pz (n := 1) (xs := ([v1] : List UInt8)) R R (by unfold maxLen; omega))) isBytes_82 isStr_9 R) R ?_))))))
 refine mv R R (gdO t1 fun g1 t1 => (wlq (po_sadd R R g1) R (asg R R (wnt (wcg (mv R R (wlq (po_quo R R (by decide)) R ?_)))))))
 exact asg R R (wln (wqb (wq_rndw (stwN l1 t1) () (su3 R R R) zn)))
 exact wcx (wqe (wqe (wbx (wjm _ () (Sum.inl.inj (stwB l1 t1)) (su2 R R) zn))))
 intro e1 _ hp
 obtain rfl : e1 = y1 := hp.symm
 refine wqt (wcs (wcr (mv R R (wnt (wcO t0 R (fun h4 t0 => ?_) fun h4 t0 => ?_)))))
 refine wcr (mv R R (gdO t0 fun g2 t0 => (wlq (po_sadd R R g2) R (asg R R (wnt (wct (wqr ?_)))))))
 obtain rfl := oi t0
 exact wq1 R R fun w hw => ⟨R, hw.weak zn⟩
 refine wck (wqt (wcr (mv R R (asg R R (wnt (wct ?_))))))
 obtain rfl := oi t0
 exact wq1 R R fun w hw => ⟨R, hw.weak zn⟩

theorem c_spec_CellText (w : World) (a_c : GCell) {r : Str} (t0 : spec_CellText a_c = some r) : Calls Tryz.prog 48 #[.agg #[.int .i64 a_c.Split, .int .i64 a_c.A, .int .i64 a_c.B]] w fun e w' => e = .returned (bs r) ∧ SH w [] [] w' := by
 refine cwc (args := [_]) Tryz.func48 R Tryz.ntmps48 R ?_
 unfold spec_CellText at t0
 refine wcr (wle (eo_box R R) R fun b1 => (asg R R (wnt (wcs (wcr (wlq (v := .agg #[iv a_c.Split, iv a_c.A, iv a_c.B]) (plb tk_86 pz R R R) R (bdO t0 fun v1 hv1 t0 => (wlc (cz0 fa_70 R fun w hw => c_spec_CellOk w a_c hv1) R fun _ => (wlq (po_not R) R (wnt (wcO t0 R (fun h1 t0 => ?_) fun h1 t0 => ?_)))))))))))
 refine wcr (asg R R (wnt (wct (wqr ?_))))
 obtain rfl := oi t0
 exact wq1 R R fun w hw => ⟨R, hw.weak zn⟩
 refine wck (wqt (wcs (wcr (wlq (pof fo_86_0 R) R (wlq (v := iv a_c.Split) (plx tk_3 pz R R) R (wnt (wcb (wcr (wlq (pol R R) R (asg R R (wnt (wcO t0 R (fun h2 t0 => ?_) fun h2 t0 => ?_))))))))))))
 refine wcs (wcd [box b1 [iv a_c.Split, iv a_c.A, iv a_c.B]] 9 mixed (aq 0 R (pof fo_86_1 R) so1 R (aq (v := iv a_c.A) 1 R (plx tk_3 pz R R) so1 R (aq 4 R (pof fo_86_2 R) so1 R (aq (v := iv a_c.B) 5 R (plx tk_3 pz R R) so1 R (a1 2 (bdO t0 fun v2 hv2 t0 => (wsc R (cz0 fa_18 R fun w hw => c_spec_FormatInt w a_c.A hv2) (fun _ => (zt so1)) R fun _ => (gdO t0 fun g1 t0 => (aq 3 R (po_sadd R R g1) so1 R (a1 6 (bdO t0 fun v3 hv3 t0 => (wsc R (cz0 fa_18 R fun w hw => c_spec_FormatInt w a_c.B hv3) (fun _ => (zt so1)) R fun _ => (gdO t0 fun g2 t0 => (aq 7 R (po_sadd R R g2) so1 R (aq 8 R (po_assign R) so1 R (ae (wqt (wct (wbr (wqr ?_)))))))))))))))))))))
 obtain rfl := oi t0
 exact wq1 R R fun w hw => ⟨R, hw.weak zn⟩
 refine wcr (wlq (pol R R) R (asg R R (wnt (wcO t0 R (fun h3 t0 => ?_) fun h3 t0 => ?_))))
 refine wcs (wcd [box b1 [iv a_c.Split, iv a_c.A, iv a_c.B]] 9 mixed (aq 0 R (pof fo_86_1 R) so1 R (aq (v := iv a_c.A) 1 R (plx tk_3 pz R R) so1 R (aq 4 R (pof fo_86_2 R) so1 R (aq (v := iv a_c.B) 5 R (plx tk_3 pz R R) so1 R (a1 2 (bdO t0 fun v4 hv4 t0 => (wsc R (cz0 fa_18 R fun w hw => c_spec_FormatInt w a_c.A hv4) (fun _ => (zt so1)) R fun _ => (gdO t0 fun g3 t0 => (aq 3 R (po_sadd R R g3) so1 R (a1 6 (bdO t0 fun v5 hv5 t0 => (wsc R (cz0 fa_18 R fun w hw => c_spec_FormatInt w a_c.B hv5) (fun _ => (zt so1)) R fun _ => (gdO t0 fun g4 t0 => (aq 7 R (po_sadd R R g4) so1 R (aq 8 R (po_assign R) so1 R (ae (wqt (wct (wbr (wqr ?_)))))))))))))))))))))
 obtain rfl := oi t0
 exact wq1 R R fun w hw => ⟨R, hw.weak zn⟩
 refine wck (wqb (wqt (wcr (wlq (pof fo_86_1 R) R (wlq (v := iv a_c.A) (plx tk_3 pz R R) R (bdO t0 fun v6 hv6 t0 => (wlc (cz0 fa_18 R fun w hw => c_spec_FormatInt w a_c.A hv6) R fun _ => (asg R R (wnt (wct ?_))))))))))
 obtain rfl := oi t0
 exact wq1 R R fun w hw => ⟨R, hw.weak zn⟩

theorem c_spec_BlockText (w : World) (a_b : GBlock) (v0a : Hd) (r0 : rdF w (dm w []) (sl v0a) a_b.Cells) {r : Str} (t0 : spec_BlockText a_b = some r) : Calls Tryz.prog 19 #[.agg #[.int .i64 a_b.Size, (sl v0a)]] w fun e w' => e = .returned (bs r) ∧ SH w [] [] w' := by
 refine cwc (args := [_]) Tryz.func19 R Tryz.ntmps19 R ?_
 unfold spec_BlockText at t0
 refine wcr (wle (eo_box R R) R fun b1 => (asg R R (wnt (wcr (asg R R (wnt (wcs (wcr (asg R R (wnt (gdO t0 fun g1 t0 => (lpO_inv t0 fun y1 l1 t0 => (wj (J := Str) (X := Unit) (fun z => y1 = z) (fun z _ => [(3, bs z)]) (fun _ _ => []) ?_ ?_)))))))))))))
 refine wcb (wcf (X := Unit) l1 (fun k1 s1 x1l => [(1, ptr b1 0), (3, bs s1), (4, iv ((k1 : Nat) : Int))]) (fun k1 s1 x1l => [box b1 [iv a_b.Size, (sl v0a)]]) () (su3 R R R) so1 fun k1 s1 x1l hN1 l1 => ?_)
 by_cases hk1 : k1 < a_b.Cells.length
 refine fos l1 hk1 fun _ t1 l1 => ?_
 unfold spec_BlockText_L1 at t1
 have c1 : (decide (((k1 : Nat) : Int) < ((a_b.Cells.length : Nat) : Int))) = true := ddt (by omega)
 refine wcs (wcr (mv R R (wlq (pof fo_52_1 R) R (wlq (v := (sl v0a)) (plx tk_50 pz R R) R (wlq (pln (rga r0) el_50 R) R (wlq (pls R R) R (mv R R (wl_know (t := 10) R c1 (wgn (j := 5) R R R (wlq (v := .agg #[iv a_b.Size, (sl v0a)]) (plb tk_52 pz R R R) R (bdO t1 fun v1 hv1 t1 => (wgn (j := 5) R R R (wlc (cz0 fa_47 R fun w hw => c_spec_BlockOk w a_b v0a (ra r0 hw) hv1) R (fun _ => (wlq (pit R R) R (wnt (wcO t1 R (fun h1 t1 => ?_) fun h1 t1 => ?_)))))))))))))))))
 refine wck (wqt (wcs (wcb (wcs (wcs (bdO t1 fun y2 t2 t1 => (wj (J := Bool) (X := Unit) (fun z => y2 = z) (fun z _ => [(1, ptr b1 0), (3, bs s1), (4, iv ((k1 : Nat) : Int)), (11, .agg #[iv a_b.Size, (sl v0a)]), (12, .bool v1), (24, .bool z)]) (fun _ _ => [box b1 [iv a_b.Size, (sl v0a)]]) ?_ ?_)))))))
 refine wcg (mv R R (wlq (po_gtr R R) R (mv R R (wlo (t := 18) t2 R (fun h2 t2 => ?_) fun h2 t2 => ?_))))
 exact wgn (j := 2) R R R (mv R R (wgn (j := 2) R R R (wlq (pof fo_52_0 R) R (wgn (j := 2) R R R (wlq (v := iv a_b.Size) (plx tk_3 pz R R) R (gdO t2 fun g2 t2 => (wgn (j := 2) R R R (wlq (po_rem R R g2) R (wgn (j := 2) R R R (wlq (pol R R) R (wlq (pit R R) R (wln (wjm _ () (mtE t2) (su6 R R R R R R) so1)))))))))))))
 exact wgf (j := 2) R R R R R (wgf (j := 2) R R R R R (wgf (j := 2) R R R R R (wgf (j := 2) R R R R R (wgf (j := 2) R R R R R (wlq (pif R R) R (wln (wjm _ () (mtE t2) (su6 R R R R R R) so1)))))))
 intro j1 _ hp
 obtain rfl : j1 = y2 := hp.symm
 refine wqt (bdO t1 fun y2 t2 t1 => (wj (J := Str) (X := Unit) (fun z => y2 = z) (fun z _ => [(1, ptr b1 0), (3, bs z), (4, iv ((k1 : Nat) : Int)), (11, .agg #[iv a_b.Size, (sl v0a)]), (12, .bool v1)]) (fun _ _ => [box b1 [iv a_b.Size, (sl v0a)]]) ?_ ?_))
 refine wcO t2 R (fun h3 t2 => ?_) fun h3 t2 => ?_
 exact wcg (mv R R (gdO t2 fun g3 t2 => (wlq (po_sadd R R g3) R (asg R R (wln (wjm _ () (mtE t2) (su5 R R R R R) so1))))))
 refine wcr (mv R R (wlq (po_gtr R R) R (wnt (wcO t2 R (fun h4 t2 => ?_) fun h4 t2 => ?_))))
 exact wcg (mv R R (gdO t2 fun g4 t2 => (wlq (po_sadd R R g4) R (asg R R (wln (wjm _ () (mtE t2) (su5 R R R R R) so1))))))
 exact wck (wjm _ () (mtE t2) (su5 R R R R R) so1)
 intro j2 _ hp
 obtain rfl : j2 = y2 := hp.symm
 refine wqt (wcg (mv R R (wlq (pof fo_52_1 R) R (wlq (v := (sl v0a)) (plx tk_50 pz R R) R (mv R R (wlq (po_ixn (k := k1) (rga r0) el_50 R R hk1) R (wlq (v := .agg #[iv ((gx a_b.Cells k1).Split), iv ((gx a_b.Cells k1).A), iv ((gx a_b.Cells k1).B)]) (po_ldfs (rga r0) tk_86 R hk1 R R R) R (bdO t1 fun v2 hv2 t1 => (wlc (cz0 fa_48 R fun w hw => c_spec_CellText w (gx a_b.Cells k1) hv2) R fun _ => (gdO t1 fun g5 t1 => (wlq (po_sadd R R g5) R (asg R R (wln (wqb (wqt (wcg (mv R R (wlq (po_inc R R (by omega)) R ?_))))))))))))))))))
 exact asg R R (wln (wq_rnd hk1 (stpN l1 t1) () (su3 R R R) so1))
 exact wcx (wqe (wqe (wbx (wjm _ () (Sum.inl.inj (stpB l1 t1)) (su1 R) zn))))
 have c1 : (decide (((k1 : Nat) : Int) < ((a_b.Cells.length : Nat) : Int))) = false := ddf (by omega)
 have en1 := foe l1 hk1
 exact wcs (wcr (mv R R (wlq (pof fo_52_1 R) R (wlq (v := (sl v0a)) (plx tk_50 pz R R) R (wlq (pln (rga r0) el_50 R) R (wlq (pls R R) R (mv R R (wl_know (t := 10) R c1 (wgf (j := 5) R R R R R (wgf (j := 5) R R R R R (wlq (pif R R) R (wnt (wff R R (wcx (wqe (wqe (wbx (wjm _ () (Sum.inl.inj en1) (su1 R) zn))))))))))))))))))
 intro e1 _ hp
 obtain rfl : e1 = y1 := hp.symm
 refine wqt (wcr (mv R R (asg R R (wnt (wct ?_)))))
 obtain rfl := oi t0
 exact wq1 R R fun w hw => ⟨R, hw.weak zn⟩

theorem c_spec_FormatGuild (w : World) (a_g : GGuild) (v0a : Hd) (r0 : rdF w (dm w []) (sl v0a) a_g.Members) (v1a : Hd) (r1 : rdF w (dm w []) (sl v1a) a_g.Stock) (v2a : Hd) (u2a : List Value) (r2 : RdL w (dm w []) (sl v2a) u2a a_g.Entries) (v3a : Hd) (r3 : rdF w (dm w []) (sl v3a) a_g.Books) {r : List Str} (t0 : spec_FormatGuild a_g = some r) : Calls Tryz.prog 5 #[.agg #[(sl v0a), (sl v1a), (sl v2a), (sl v3a), .int .i64 a_g.Round, .int .i64 a_g.Year]] w fun e w' => ∃ x : Hd, e = .returned ((sl x)) ∧ SH w [] [ownF (sl x) r] w' := by
 refine cwc (args := [_]) Tryz.func5 R Tryz.ntmps5 R ?_
 unfold spec_FormatGuild at t0
 refine wcr (wle (eo_box R R) R fun b1 => (asg R R (wnt (wcs (wcr (wlq (v := .agg #[(sl v0a), (sl v1a), (sl v2a), (sl v3a), iv a_g.Round, iv a_g.Year]) (plb tk_35 pz R R R) R (bdO t0 fun v1 hv1 t0 => (wlc (cz0 fa_17 R fun w hw => c_spec_GuildOk w a_g v0a (ra r0 hw) v1a (ra r1 hw) v2a u2a (ra r2 hw) v3a (ra r3 hw) hv1) R fun _ => (wlq (po_not R) R (wnt (wcO t0 R (fun h1 t0 => ?_) fun h1 t0 => ?_)))))))))))
 refine wcr (wle (ebs R sb_29_0) R fun b2 => (asg R R (wnt (wct (wqr ?_)))))
 obtain rfl := oi t0
 exact wq1 R R fun w hw => ⟨(⟨some ⟨b2, 0, none⟩, 0, 0⟩ : Hd), R, hw.weak (zc (pbo pz (n := 0) (xs := ([] : List Str)) R R (by unfold maxLen; omega)) zn)⟩
 refine wck (wqt (wcr (asg R R (wnt (wcs (wcr (asg R R (wnt (gdO t0 fun g1 t0 => (lpO_inv t0 fun y1 l1 t0 => (wj (J := Str) (X := Unit) (fun z => y1 = z) (fun z _ => [(1, ptr b1 0), (3, bs z)]) (fun _ _ => [box b1 [(sl v0a), (sl v1a), (sl v2a), (sl v3a), iv a_g.Round, iv a_g.Year]]) ?_ ?_)))))))))))
 refine wcb (wcf (X := Unit) l1 (fun k1 s1 x1l => [(1, ptr b1 0), (3, bs s1), (4, iv ((k1 : Nat) : Int))]) (fun k1 s1 x1l => [box b1 [(sl v0a), (sl v1a), (sl v2a), (sl v3a), iv a_g.Round, iv a_g.Year]]) () (su3 R R R) so1 fun k1 s1 x1l hN1 l1 => ?_)
 by_cases hk1 : k1 < a_g.Members.length
 refine fos l1 hk1 fun _ t1 l1 => ?_
 unfold spec_FormatGuild_L1 at t1
 have c1 : (decide (((k1 : Nat) : Int) < ((a_g.Members.length : Nat) : Int))) = true := ddt (by omega)
 refine wcs (wcr (mv R R (wlq (pof fo_35_0 R) R (wlq (v := (sl v0a)) (plx tk_31 pz R R) R (wlq (pln (rga r0) el_31 R) R (wlq (pls R R) R (wnt (wft R c1 (wck (wqt (wcs (wcb (wcg (mv R R (gdO t1 fun g2 t1 => (wlq (po_sadd R R g2) R (wlq (pof fo_35_0 R) R (wlq (v := (sl v0a)) (plx tk_31 pz R R) R (mv R R (wlq (po_ixn (k := k1) (rga r0) el_31 R R hk1) R (wlq (po_sfldr (rga r0) hk1 fo_49_0 R) R (wlq (v := iv ((gx a_g.Members k1).Number)) (po_ldf (rga r0) tk_3 R hk1 R) R (bdO t1 fun v2 hv2 t1 => (wlc (cz0 fa_18 R fun w hw => c_spec_FormatInt w ((gx a_g.Members k1).Number) hv2) R fun _ => (gdO t1 fun g3 t1 => (wlq (po_sadd R R g3) R (asg R R (wln (wqb (wqt (wcg (mv R R (wlq (po_inc R R (by omega)) R ?_)))))))))))))))))))))))))))))))))
 exact asg R R (wln (wq_rnd hk1 (stpN l1 t1) () (su3 R R R) so1))
 have c1 : (decide (((k1 : Nat) : Int) < ((a_g.Members.length : Nat) : Int))) = false := ddf (by omega)
 have en1 := foe l1 hk1
 exact wcs (wcr (mv R R (wlq (pof fo_35_0 R) R (wlq (v := (sl v0a)) (plx tk_31 pz R R) R (wlq (pln (rga r0) el_31 R) R (wlq (pls R R) R (wnt (wff R c1 (wcx (wqe (wqe (wbx (wjm _ () (Sum.inl.inj en1) (su2 R R) so1)))))))))))))
 intro e1 _ hp
 obtain rfl : e1 = y1 := hp.symm
 refine wqt (wcr (asg R R (wnt (wcs (wcr (asg R R (wnt (gdO t0 fun g4 t0 => (lpO_inv t0 fun y1 l1 t0 => (wj (J := Str) (X := Unit) (fun z => y1 = z) (fun z _ => [(1, ptr b1 0), (3, bs e1), (5, bs z)]) (fun _ _ => [box b1 [(sl v0a), (sl v1a), (sl v2a), (sl v3a), iv a_g.Round, iv a_g.Year]]) ?_ ?_))))))))))
 refine wcb (wcf (X := Unit) l1 (fun k2 s2 x2l => [(1, ptr b1 0), (3, bs e1), (5, bs s2), (6, iv ((k2 : Nat) : Int))]) (fun k2 s2 x2l => [box b1 [(sl v0a), (sl v1a), (sl v2a), (sl v3a), iv a_g.Round, iv a_g.Year]]) () (su4 R R R R) so1 fun k2 s2 x2l hN2 l1 => ?_)
 by_cases hk2 : k2 < a_g.Stock.length
 refine fos l1 hk2 fun _ t1 l1 => ?_
 unfold spec_FormatGuild_L2 at t1
 have c2 : (decide (((k2 : Nat) : Int) < ((a_g.Stock.length : Nat) : Int))) = true := ddt (by omega)
 refine wcs (wcr (mv R R (wlq (pof fo_35_1 R) R (wlq (v := (sl v1a)) (plx tk_23 pz R R) R (wlq (pln (rga r1) el_23 R) R (wlq (pls R R) R (wnt (wft R c2 (wck (wqt (wcs (wcb (wcg (mv R R (gdO t1 fun g5 t1 => (wlq (po_sadd R R g5) R (wlq (pof fo_35_1 R) R (wlq (v := (sl v1a)) (plx tk_23 pz R R) R (mv R R (wlq (po_ixn (k := k2) (rga r1) el_23 R R hk2) R (wlq (v := iv (gx a_g.Stock k2)) (po_ldf (rga r1) tk_3 R hk2 R) R (bdO t1 fun v3 hv3 t1 => (wlc (cz0 fa_18 R fun w hw => c_spec_FormatInt w (gx a_g.Stock k2) hv3) R fun _ => (gdO t1 fun g6 t1 => (wlq (po_sadd R R g6) R (asg R R (wln (wqb (wqt (wcg (mv R R (wlq (po_inc R R (by omega)) R ?_))))))))))))))))))))))))))))))))
 exact asg R R (wln (wq_rnd hk2 (stpN l1 t1) () (su4 R R R R) so1))
 have c2 : (decide (((k2 : Nat) : Int) < ((a_g.Stock.length : Nat) : Int))) = false := ddf (by omega)
 have en2 := foe l1 hk2
 exact wcs (wcr (mv R R (wlq (pof fo_35_1 R) R (wlq (v := (sl v1a)) (plx tk_23 pz R R) R (wlq (pln (rga r1) el_23 R) R (wlq (pls R R) R (wnt (wff R c2 (wcx (wqe (wqe (wbx (wjm _ () (Sum.inl.inj en2) (su3 R R R) so1)))))))))))))
 intro e2 _ hp
 obtain rfl : e2 = y1 := hp.symm
 refine wqt (wcr (mv R R (mv R R (wle (ebs R (sb_29_2 e1 e2)) R fun b3 => (asg R R (wnt (wcs (wcr (asg R R (wnt (gdO t0 fun g7 t0 => (lpO_inv t0 fun y1 l1 t0 => (wj (J := List Str) (X := Hd) (fun z => y1 = z) (fun _ x => [(1, ptr b1 0), (7, (sl x))]) (fun z x => [box b1 [(sl v0a), (sl v1a), (sl v2a), (sl v3a), iv a_g.Round, iv a_g.Year], ownF (sl x) z]) ?_ ?_)))))))))))))
 refine wcb (wcf (X := Hd) l1 (fun k3 s3 x3l => [(1, ptr b1 0), (7, (sl x3l)), (8, iv ((k3 : Nat) : Int))]) (fun k3 s3 x3l => [box b1 [(sl v0a), (sl v1a), (sl v2a), (sl v3a), iv a_g.Round, iv a_g.Year], ownF (sl x3l) s3]) (⟨some ⟨b3, 0, none⟩, 2, 2⟩ : Hd) (su3 R R R) (zc pk1 (zc (pbo pz (n := 2) (xs := ([e1, e2] : List Str)) R R (by unfold maxLen; omega)) zn)) fun k3 s3 x3l hN3 l1 => ?_)
 by_cases hk3 : k3 < a_g.Entries.length
 refine fos l1 hk3 fun _ t1 l1 => ?_
 unfold spec_FormatGuild_L3 at t1
 have c3 : (decide (((k3 : Nat) : Int) < ((a_g.Entries.length : Nat) : Int))) = true := ddt (by omega)
 refine wcs (wcr (mv R R (wlq (pof fo_35_2 R) R (wlq (v := (sl v2a)) (plx tk_32 pz R R) R (wlq (pln (rga r2) el_32 R) R (wlq (pls R R) R (wnt (wft R c3 (wck (wqt (wcs (wcb (wcr (wlq (pof fo_35_2 R) R (wlq (v := (sl v2a)) (plx tk_32 pz R R) R (mv R R (wlq (po_ixn (k := k3) (rga r2) el_32 R R hk3) R (wl_elem (rga r2) hk3 ?_))))))))))))))))))
 rintro ⟨_, _, he1⟩
 obtain ⟨w1, hc1, _⟩ := rd_GEntry.1 he1
 refine wlq (v := .agg #[iv ((gx a_g.Entries k3).Owner), iv ((gx a_g.Entries k3).Day), iv (((gx a_g.Entries k3).Block).Size), (sl w1)]) (po_ldns (rga r2) tk_54 R hc1 R R R) R (wle (eal (cs := [iv 0, iv 0, iv 0, (sl hn)]) za_54) R fun b4 => (wls (sbx (cs' := [iv ((gx a_g.Entries k3).Owner), iv ((gx a_g.Entries k3).Day), iv (((gx a_g.Entries k3).Block).Size), (sl w1)]) tk_54 pz R R R R R R R) (wnt (wcd [box b4 [iv ((gx a_g.Entries k3).Owner), iv ((gx a_g.Entries k3).Day), iv (((gx a_g.Entries k3).Block).Size), (sl w1)], box b1 [(sl v0a), (sl v1a), (sl v2a), (sl v3a), iv a_g.Round, iv a_g.Year]] 17 mixed (aq 0 R (pom R) so2 R (aq 1 R (pof fo_54_0 R) so2 R (aq (v := iv ((gx a_g.Entries k3).Owner)) 2 R (plx tk_3 pz R R) so2 R (aq 5 R (pof fo_54_1 R) so2 R (aq (v := iv ((gx a_g.Entries k3).Day)) 6 R (plx tk_3 pz R R) so2 R (aq 10 R (pof fo_54_2 R) so2 R (aq (v := .agg #[iv (((gx a_g.Entries k3).Block).Size), (sl w1)]) 11 R (plb tk_52 pz R R R) so2 R (a1 3 (bdO t1 fun v4 hv4 t1 => (wsc R (cz0 fa_18 R fun w hw => c_spec_FormatInt w ((gx a_g.Entries k3).Owner) hv4) (fun _ => (zt so2)) R fun _ => (gdO t1 fun g8 t1 => (aq 4 R (po_sadd R R g8) so2 R (a1 7 (bdO t1 fun v5 hv5 t1 => (wsc R (cz0 fa_18 R fun w hw => c_spec_FormatInt w ((gx a_g.Entries k3).Day) hv5) (fun _ => (zt so2)) R fun _ => (gdO t1 fun g9 t1 => (aq 8 R (po_sadd R R g9) so2 R (gdO t1 fun g10 t1 => (aq 9 R (po_sadd R R g10) so2 R (a1 12 (bdO t1 fun v6 hv6 t1 => (wsc R (cz0 fa_19 R fun w hw => c_spec_BlockText w ((gx a_g.Entries k3).Block) w1 (Rg.on (er_GEntry_0 hc1 (rga r2) hk3) hw) hv6) (fun _ => (zt so2)) R fun _ => (gdO t1 fun g11 t1 => (aq 13 R (po_sadd R R g11) so2 R (a1 14 (wse R (ebs R (sb_29_1 (sadd (sadd (sadd (sadd v4 (⟨[32]⟩ : Str)) v5) (⟨[32]⟩ : Str)) v6))) (fun _ => (zt (zc pk1 (zc pk1 zn)))) R fun b5 => (a1 15 (gdO t1 fun g12 t1 => (wse R (eo_append (xs := s3) (ys := ([(sadd (sadd (sadd (sadd v4 (⟨[32]⟩ : Str)) v5) (⟨[32]⟩ : Str)) v6)] : List Str)) ak_29 pk3 R R (slin_rd fun _ g => Rg.on (rgo (pbo pz (n := 1) (xs := ([(sadd (sadd (sadd (sadd v4 (⟨[32]⟩ : Str)) v5) (⟨[32]⟩ : Str)) v6)] : List Str)) R R (by unfold maxLen; omega))) g) g12) (fun _ => (zt (zc pk2 (zc pk2 zn)))) R fun x4 => ?_)))))))))))))))))))))))))))))))))
 refine aq 16 R (po_assign R) (zc pk2 (zc pk2 zn)) R (ae (wqb (wqt (wcg (mv R R (wlq (po_inc R R (by omega)) R ?_))))))
 exact asg R R (wln (wq_rnd hk3 (stpN l1 t1) x4 (su3 R R R) (zc pk3 so1)))
 have c3 : (decide (((k3 : Nat) : Int) < ((a_g.Entries.length : Nat) : Int))) = false := ddf (by omega)
 have en3 := foe l1 hk3
 exact wcs (wcr (mv R R (wlq (pof fo_35_2 R) R (wlq (v := (sl v2a)) (plx tk_32 pz R R) R (wlq (pln (rga r2) el_32 R) R (wlq (pls R R) R (wnt (wff R c3 (wcx (wqe (wqe (wbx (wjm _ x3l (Sum.inl.inj en3) (su2 R R) so2)))))))))))))
 intro e3 x3 hp
 obtain rfl : e3 = y1 := hp.symm
 refine wqt (wcs (wcd [box b1 [(sl v0a), (sl v1a), (sl v2a), (sl v3a), iv a_g.Round, iv a_g.Year]] 17 mixed (aq 0 R (pom R) so1 R (aq 1 R (pof fo_35_4 R) so1 R (aq (v := iv a_g.Round) 2 R (plx tk_3 pz R R) so1 R (aq (v := .agg #[(sl v0a), (sl v1a), (sl v2a), (sl v3a), iv a_g.Round, iv a_g.Year]) 6 R (plb tk_35 pz R R R) so1 R (aq 10 R (pof fo_35_5 R) so1 R (aq (v := iv a_g.Year) 11 R (plx tk_3 pz R R) so1 R (a1 3 (bdO t0 fun v7 hv7 t0 => (wsc R (cz0 fa_18 R fun w hw => c_spec_FormatInt w a_g.Round hv7) (fun _ => (zt so1)) R fun _ => (gdO t0 fun g13 t0 => (aq 4 R (po_sadd R R g13) so1 R (gdO t0 fun g14 t0 => (aq 5 R (po_sadd R R g14) so1 R (a1 7 (bdO t0 fun v8 hv8 t0 => (wsc R (cz0 fa_20 R fun w hw => c_spec_SwapRounds w a_g v0a (ra r0 hw) v1a (ra r1 hw) v2a u2a (ra r2 hw) v3a (ra r3 hw) hv8) (fun _ => (zt so1)) R fun _ => (a1 8 (bdO t0 fun v9 hv9 t0 => (wsc R (cz0 fa_18 R fun w hw => c_spec_FormatInt w v8 hv9) (fun _ => (zt so1)) R fun _ => (gdO t0 fun g15 t0 => (aq 9 R (po_sadd R R g15) so1 R (a1 12 (bdO t0 fun v10 hv10 t0 => (wsc R (cz0 fa_18 R fun w hw => c_spec_FormatInt w a_g.Year hv10) (fun _ => (zt so1)) R fun _ => (gdO t0 fun g16 t0 => (aq 13 R (po_sadd R R g16) so1 R (a1 14 (wse R (ebs R (sb_29_2 (sadd (sadd (sadd (⟨[114, 111, 117, 110, 100, 32]⟩ : Str) v7) (⟨[47]⟩ : Str)) v9) (sadd (⟨[121, 101, 97, 114, 32]⟩ : Str) v10))) (fun _ => (zt (zc pk1 zn))) R fun b6 => (a1 15 (gdO t0 fun g17 t0 => (wse R (eo_append (xs := e3) (ys := ([(sadd (sadd (sadd (⟨[114, 111, 117, 110, 100, 32]⟩ : Str) v7) (⟨[47]⟩ : Str)) v9), (sadd (⟨[121, 101, 97, 114, 32]⟩ : Str) v10)] : List Str)) ak_29 pk2 R R (slin_rd fun _ g => Rg.on (rgo (pbo pz (n := 2) (xs := ([(sadd (sadd (sadd (⟨[114, 111, 117, 110, 100, 32]⟩ : Str) v7) (⟨[47]⟩ : Str)) v9), (sadd (⟨[121, 101, 97, 114, 32]⟩ : Str) v10)] : List Str)) R R (by unfold maxLen; omega))) g) g17) (fun _ => (zt (zc pk2 zn))) R fun x5 => ?_)))))))))))))))))))))))))))))))))
 refine aq 16 R (po_assign R) (zc pk2 zn) R (ae (wqt (wct ?_)))
 obtain rfl := oi t0
 exact wq1 R R fun w hw => ⟨x5, R, hw.weak so1⟩

theorem c_impl_within (w : World) (a_n : Int) (a_a : Int) (a_b : Int) {r : Bool} (t0 : impl_within a_n a_a a_b = some r) : Calls Tryz.prog 58 #[.int .i64 a_n, .int .i64 a_a, .int .i64 a_b] w fun e w' => e = .returned (.bool r) ∧ SH w [] [] w' := by
 refine cwc (args := [_, _, _]) Tryz.func58 R Tryz.ntmps58 R ?_
 unfold impl_within at t0
 refine wcr (asg R R (wnt (wcs (wcj (X := Unit) (fun _ => True) (fun _ => [(6, .bool ((decide (a_n ≥ a_a)) && (decide (a_n ≤ a_b))))]) (fun _ => []) ?_ ?_))))
 refine wcg (mv R R (mv R R (wlq (po_geq R R) R (mv R R (wl_fork (t := 10) R (fun h1 => ?_) fun h1 => ?_)))))
 exact wgn (j := 3) R R R (mv R R (wgn (j := 3) R R R (mv R R (wgn (j := 3) R R R (wlq (po_leq R R) R (wlq (pit R R) R (asg R R (wln (wqm () trivial (sub_b R (by rw [h1]; rfl) yn) zn)))))))))
 exact wgf (j := 3) R R R R R (wgf (j := 3) R R R R R (wgf (j := 3) R R R R R (wlq (pif R R) R (asg R R (wln (wqm () trivial (sub_b R (by rw [h1]; rfl) yn) zn))))))
 intro _ _
 refine wqt (wct ?_)
 obtain rfl := oi t0
 exact wq1 R R fun w hw => ⟨R, hw.weak zn⟩

theorem c_impl_MembersOk (w : World) (a_list : List GMember) (v0a : Hd) (r0 : rdF w (dm w []) (sl v0a) a_list) {r : Bool} (t0 : impl_MembersOk a_list = some r) : Calls Tryz.prog 53 #[(sl v0a)] w fun e w' => e = .returned (.bool r) ∧ SH w [] [] w' := by
 refine cwc (args := [_]) Tryz.func53 R Tryz.ntmps53 R ?_
 unfold impl_MembersOk at t0
 refine wcr (asg R R (wnt (wcs (wcr (mv R R (wlq (pln (rga r0) el_31 R) R (mv R R (wnt (gdO t0 fun g1 t0 => (sqO t0 fun y1 l1 t0 => (wj (J := Unit) (X := Unit) (fun z => y1 = .inl z) (fun _ _ => [(0, (sl v0a))]) (fun _ _ => []) ?_ ?_)))))))))))
 refine wcb (wcf (X := Unit) l1 (fun k1 s1 x1l => [(0, (sl v0a)), (5, (sl v0a)), (6, iv ((a_list.length : Nat) : Int)), (7, iv ((k1 : Nat) : Int))]) (fun k1 s1 x1l => []) () (su4 R R R R) zn fun k1 s1 x1l hN1 l1 => ?_)
 by_cases hk1 : k1 < a_list.length
 refine fos l1 hk1 fun _ t1 l1 => ?_
 unfold impl_MembersOk_L1 at t1
 have c1 : (decide (((k1 : Nat) : Int) < ((a_list.length : Nat) : Int))) = true := ddt (by omega)
 refine wcr (wlq (pls R R) R (wnt (wcs (wft R c1 (wck (wqt (wcs (wcb (wcr (mv R R (wlq (po_ixn (k := k1) (rga r0) el_31 R R hk1) R (wlq (v := .agg #[iv ((gx a_list k1).Number), iv ((gx a_list k1).Since), iv ((gx a_list k1).Paid)]) (po_ldfs (rga r0) tk_49 R hk1 R R R) R (wle (eal (cs := [iv 0, iv 0, iv 0]) za_49) R fun b1 => (asg R R (wls (sbx (cs' := [iv ((gx a_list k1).Number), iv ((gx a_list k1).Since), iv ((gx a_list k1).Paid)]) tk_49 pz R R R R R R R) (wnt (wcs (bdO t1 fun y2 t2 t1 => (wj (J := Bool) (X := Unit) (fun z => y2 = z) (fun z _ => [(0, (sl v0a)), (5, (sl v0a)), (6, iv ((a_list.length : Nat) : Int)), (7, iv ((k1 : Nat) : Int)), (45, .bool z)]) (fun _ _ => []) ?_ ?_)))))))))))))))))))
 refine wcd [box b1 [iv ((gx a_list k1).Number), iv ((gx a_list k1).Since), iv ((gx a_list k1).Paid)]] 34 mixed (aq 0 R (pof fo_49_0 R) so1 R (aq (v := iv ((gx a_list k1).Number)) 1 R (plx tk_3 pz R R) so1 R (a1 2 (bdO t2 fun v1 hv1 t2 => (wsc R (cz0 fa_58 R fun w hw => c_impl_within w ((gx a_list k1).Number) 1 999 hv1) (fun _ => (zt so1)) R fun _ => (aq 3 R (po_not R) so1 R (aq 4 R (pom R) so1 R (waO_ (t := 16) t2 R (fun h1 t2 => ?_) fun h1 t2 => ?_))))))))
 exact af 5 4 R R R R R so1 R (af 6 4 R R R R R so1 R (af 7 4 R R R R R so1 R (au 8 7 R R R R so1 R (au 9 7 R R R R so1 R (au 10 7 R R R R so1 R (au 11 7 R R R R so1 R (au 12 7 R R R R so1 R (au 13 7 R R R R so1 R (au 14 7 R R R R so1 R (au 15 7 R R R R so1 R (au 16 7 R R R R so1 R (af 17 4 R R R R R so1 R (aq 18 R (pit R R) so1 R (aq 19 R (pom R) so1 R (af 20 19 R R R R R so1 R (af 21 19 R R R R R so1 R (af 22 19 R R R R R so1 R (af 23 19 R R R R R so1 R (aq 24 R (pit R R) so1 R (aq 25 R (pom R) so1 R (af 26 25 R R R R R so1 R (af 27 25 R R R R R so1 R (af 28 25 R R R R R so1 R (af 29 25 R R R R R so1 R (af 30 25 R R R R R so1 R (af 31 25 R R R R R so1 R (af 32 25 R R R R R so1 R (aq 33 R (pit R R) so1 R (ae (wjm _ () (mtE t2) (su5 R R R R R) zn))))))))))))))))))))))))))))))
 refine an 5 4 R R R R (pom R) so1 R (an 6 4 R R R R (po_gtr R R) so1 R (an 7 4 R R R R (pom R) so1 R (waO_ (t := 19) t2 R (fun h2 t2 => ?_) fun h2 t2 => ?_)))
 refine an 8 7 R R R R (pof fo_49_0 R) so1 R (an (v := iv ((gx a_list k1).Number)) 9 7 R R R R (plx tk_3 pz R R) so1 R (an 10 7 R R R R (pom R) so1 R (an 11 7 R R R R (pom R) so1 R (an 12 7 R R R R (po_sub R R) so1 R (gdO t2 fun g2 t2 => (an 13 7 R R R R (po_ixr (rga r0) el_31 R R g2.1 g2.2) so1 R (an 14 7 R R R R (po_sfldr (rga r0) (ix_lt g2) fo_49_0 R) so1 R (an (v := iv ((gx a_list (((wr (((k1 : Nat) : Int) - 1))).toNat)).Number)) 15 7 R R R R (po_ldf (rga r0) tk_3 R (ix_lt g2) R) so1 R (an 16 7 R R R R (po_leq R R) so1 R (an 17 4 R R R R (pit R R) so1 R (aq 18 R (pif R R) so1 R (aq 19 R (pom R) so1 R (waO_ (t := 31) t2 R (fun h3 t2 => ?_) fun h3 t2 => ?_)))))))))))))
 exact af 20 19 R R R R R so1 R (af 21 19 R R R R R so1 R (af 22 19 R R R R R so1 R (af 23 19 R R R R R so1 R (aq 24 R (pit R R) so1 R (aq 25 R (pom R) so1 R (af 26 25 R R R R R so1 R (af 27 25 R R R R R so1 R (af 28 25 R R R R R so1 R (af 29 25 R R R R R so1 R (af 30 25 R R R R R so1 R (af 31 25 R R R R R so1 R (af 32 25 R R R R R so1 R (aq 33 R (pit R R) so1 R (ae (wjm _ () (mtE t2) (su5 R R R R R) zn)))))))))))))))
 refine an 20 19 R R R R (pof fo_49_1 R) so1 R (an (v := iv ((gx a_list k1).Since)) 21 19 R R R R (plx tk_3 pz R R) so1 R (a1 22 (bdO t2 fun v2 hv2 t2 => (ws_call_on (j := 19) R R R R (cz0 fa_58 R fun w hw => c_impl_within w ((gx a_list k1).Since) 1900 2999 hv2) (fun _ => (zt so1)) R fun _ => (an 23 19 R R R R (po_not R) so1 R (aq 24 R (pif R R) so1 R (aq 25 R (pom R) so1 R (waO_ (t := 37) t2 R (fun h4 t2 => ?_) fun h4 t2 => ?_))))))))
 exact af 26 25 R R R R R so1 R (af 27 25 R R R R R so1 R (af 28 25 R R R R R so1 R (af 29 25 R R R R R so1 R (af 30 25 R R R R R so1 R (af 31 25 R R R R R so1 R (af 32 25 R R R R R so1 R (aq 33 R (pit R R) so1 R (ae (wjm _ () (mtE t2) (su5 R R R R R) zn)))))))))
 exact an 26 25 R R R R (pof fo_49_2 R) so1 R (an (v := iv ((gx a_list k1).Paid)) 27 25 R R R R (plx tk_3 pz R R) so1 R (an 28 25 R R R R (pof fo_49_1 R) so1 R (an (v := iv ((gx a_list k1).Since)) 29 25 R R R R (plx tk_3 pz R R) so1 R (an 30 25 R R R R (po_sub R R) so1 R (a1 31 (bdO t2 fun v3 hv3 t2 => (ws_call_on (j := 25) R R R R (cz0 fa_58 R fun w hw => c_impl_within w ((gx a_list k1).Paid) (wr ((gx a_list k1).Since - 1)) 2999 hv3) (fun _ => (zt so1)) R fun _ => (an 32 25 R R R R (po_not R) so1 R (aq 33 R (pif R R) so1 R (ae (wjm _ () (mtE t2) (su5 R R R R R) zn)))))))))))
 refine af 8 7 R R R R R so1 R (af 9 7 R R R R R so1 R (af 10 7 R R R R R so1 R (af 11 7 R R R R R so1 R (af 12 7 R R R R R so1 R (af 13 7 R R R R R so1 R (af 14 7 R R R R R so1 R (af 15 7 R R R R R so1 R (af 16 7 R R R R R so1 R (an 17 4 R R R R (pif R R) so1 R (aq 18 R (pif R R) so1 R (aq 19 R (pom R) so1 R (an 20 19 R R R R (pof fo_49_1 R) so1 R (an (v := iv ((gx a_list k1).Since)) 21 19 R R R R (plx tk_3 pz R R) so1 R (a1 22 (bdO t2 fun v4 hv4 t2 => (ws_call_on (j := 19) R R R R (cz0 fa_58 R fun w hw => c_impl_within w ((gx a_list k1).Since) 1900 2999 hv4) (fun _ => (zt so1)) R fun _ => (an 23 19 R R R R (po_not R) so1 R (aq 24 R (pif R R) so1 R (aq 25 R (pom R) so1 R (waO_ (t := 37) t2 R (fun h5 t2 => ?_) fun h5 t2 => ?_))))))))))))))))))))
 exact af 26 25 R R R R R so1 R (af 27 25 R R R R R so1 R (af 28 25 R R R R R so1 R (af 29 25 R R R R R so1 R (af 30 25 R R R R R so1 R (af 31 25 R R R R R so1 R (af 32 25 R R R R R so1 R (aq 33 R (pit R R) so1 R (ae (wjm _ () (mtE t2) (su5 R R R R R) zn)))))))))
 exact an 26 25 R R R R (pof fo_49_2 R) so1 R (an (v := iv ((gx a_list k1).Paid)) 27 25 R R R R (plx tk_3 pz R R) so1 R (an 28 25 R R R R (pof fo_49_1 R) so1 R (an (v := iv ((gx a_list k1).Since)) 29 25 R R R R (plx tk_3 pz R R) so1 R (an 30 25 R R R R (po_sub R R) so1 R (a1 31 (bdO t2 fun v5 hv5 t2 => (ws_call_on (j := 25) R R R R (cz0 fa_58 R fun w hw => c_impl_within w ((gx a_list k1).Paid) (wr ((gx a_list k1).Since - 1)) 2999 hv5) (fun _ => (zt so1)) R fun _ => (an 32 25 R R R R (po_not R) so1 R (aq 33 R (pif R R) so1 R (ae (wjm _ () (mtE t2) (su5 R R R R R) zn)))))))))))
 intro j1 _ hp
 obtain rfl : j1 = y2 := hp.symm
 refine wqt (wcO t1 R (fun h6 t1 => ?_) fun h6 t1 => ?_)
 refine wcr (asg R R (wnt (wct (wbr (wqr (wqr (wbr (wqr (wqr ?_)))))))))
 replace t0 := lpR t0 l1 t1
 obtain rfl := oi t0
 exact wq1 R R fun w hw => ⟨R, hw.weak zn⟩
 refine wck (wqb (wqt (wcg (wlq (po_inc R R (by omega)) R ?_))))
 exact mv R R (wln (wq_rnd hk1 (stpN l1 t1) () (su4 R R R R) zn))
 have c1 : (decide (((k1 : Nat) : Int) < ((a_list.length : Nat) : Int))) = false := ddf (by omega)
 have en1 := foe l1 hk1
 exact wcr (wlq (pls R R) R (wnt (wcs (wff R c1 (wcx (wqe (wqe (wbx (wjm _ () en1 (su1 R) zn)))))))))
 intro e1 _ hp
 replace t0 := sqE (j := e1) t0 hp
 refine wqt (wcr (mv R R (wlq (pln (rga r0) el_31 R) R (wlq (po_leq R R) R (asg R R (wnt (wct ?_)))))))
 obtain rfl := oi t0
 exact wq1 R R fun w hw => ⟨R, hw.weak zn⟩

theorem c_impl_allWithin (w : World) (a_list : List Int) (v0a : Hd) (r0 : rdF w (dm w []) (sl v0a) a_list) (a_a : Int) (a_b : Int) {r : Bool} (t0 : impl_allWithin a_list a_a a_b = some r) : Calls Tryz.prog 72 #[(sl v0a), .int .i64 a_a, .int .i64 a_b] w fun e w' => e = .returned (.bool r) ∧ SH w [] [] w' := by
 refine cwc (args := [_, _, _]) Tryz.func72 R Tryz.ntmps72 R ?_
 unfold impl_allWithin at t0
 refine wcr (asg R R (wnt (wcs (wcr (mv R R (wlq (pln (rga r0) el_23 R) R (mv R R (wnt (gdO t0 fun g1 t0 => (sqO t0 fun y1 l1 t0 => (wj (J := Unit) (X := Unit) (fun z => y1 = .inl z) (fun _ _ => []) (fun _ _ => []) ?_ ?_)))))))))))
 refine wcb (wcf (X := Unit) l1 (fun k1 s1 x1l => [(1, iv a_a), (2, iv a_b), (9, (sl v0a)), (10, iv ((a_list.length : Nat) : Int)), (11, iv ((k1 : Nat) : Int))]) (fun k1 s1 x1l => []) () (su5 R R R R R) zn fun k1 s1 x1l hN1 l1 => ?_)
 by_cases hk1 : k1 < a_list.length
 refine fos l1 hk1 fun _ t1 l1 => ?_
 unfold impl_allWithin_L1 at t1
 have c1 : (decide (((k1 : Nat) : Int) < ((a_list.length : Nat) : Int))) = true := ddt (by omega)
 refine wcr (wlq (pls R R) R (wnt (wcs (wft R c1 (wck (wqt (wcs (wcb (wcr (wlq (po_ixn (k := k1) (rga r0) el_23 R R hk1) R (wlq (v := iv (gx a_list k1)) (po_ldf (rga r0) tk_3 R hk1 R) R (asg R R (wnt (wcr (mv R R (mv R R (mv R R (bdO t1 fun v1 hv1 t1 => (wlc (cz0 fa_58 R fun w hw => c_impl_within w (gx a_list k1) a_a a_b hv1) R fun _ => (wlq (po_not R) R (wnt (wcO t1 R (fun h1 t1 => ?_) fun h1 t1 => ?_))))))))))))))))))))))
 refine wcr (asg R R (wnt (wct (wbr (wqr (wqr (wbr (wqr (wqr ?_)))))))))
 replace t0 := lpR t0 l1 t1
 obtain rfl := oi t0
 exact wq1 R R fun w hw => ⟨R, hw.weak zn⟩
 refine wck (wqb (wqt (wcg (wlq (po_inc R R (by omega)) R ?_))))
 exact mv R R (wln (wq_rnd hk1 (stpN l1 t1) () (su5 R R R R R) zn))
 have c1 : (decide (((k1 : Nat) : Int) < ((a_list.length : Nat) : Int))) = false := ddf (by omega)
 have en1 := foe l1 hk1
 exact wcr (wlq (pls R R) R (wnt (wcs (wff R c1 (wcx (wqe (wqe (wbx (wjm _ () en1 yn zn)))))))))
 intro e1 _ hp
 replace t0 := sqE (j := e1) t0 hp
 refine wqt (wcr (asg R R (wnt (wct ?_))))
 obtain rfl := oi t0
 exact wq1 R R fun w hw => ⟨R, hw.weak zn⟩

theorem c_impl_StockOk (w : World) (a_stock : List Int) (v0a : Hd) (r0 : rdF w (dm w []) (sl v0a) a_stock) {r : Bool} (t0 : impl_StockOk a_stock = some r) : Calls Tryz.prog 54 #[(sl v0a)] w fun e w' => e = .returned (.bool r) ∧ SH w [] [] w' := by
 refine cwc (args := [_]) Tryz.func54 R Tryz.ntmps54 R ?_
 unfold impl_StockOk at t0
 refine wcr (asg R R (wnt (wcs (bdO t0 fun y1 t1 t0 => (wj (J := Bool) (X := Unit) (fun z => y1 = z) (fun z _ => [(2, .bool z)]) (fun _ _ => []) ?_ ?_)))))
 refine wcg (mv R R (wlq (pln (rga r0) el_23 R) R (wlq (pol R R) R (mv R R (wlo (t := 6) t1 R (fun h1 t1 => ?_) fun h1 t1 => ?_)))))
 exact wgn (j := 3) R R R (mv R R (bdO t1 fun v1 hv1 t1 => (wgn (j := 3) R R R (wlc (cz0 fa_72 R fun w hw => c_impl_allWithin w a_stock v0a (ra r0 hw) 0 1000000 hv1) R (fun _ => (wlq (pit R R) R (asg R R (wln (wjm _ () (mtE t1) (su1 R) zn)))))))))
 exact wgf (j := 3) R R R R R (wgf (j := 3) R R R R R (wlq (pif R R) R (asg R R (wln (wjm _ () (mtE t1) (su1 R) zn)))))
 intro j1 _ hp
 obtain rfl : j1 = y1 := hp.symm
 refine wqt (wct ?_)
 obtain rfl := oi t0
 exact wq1 R R fun w hw => ⟨R, hw.weak zn⟩

end Go.Proofs.YtkahnmhkfmjomacGreatDoor
