/-
 Each Go function computes its Lean function (part 6).
-/
import Derived.Test.YtgbcpjffnkiabacGreatDoorWalks5
namespace Go.Proofs.YtgbcpjffnkiabacGreatDoor
open Go Go.RowKit Go.Proofs
set_option maxRecDepth 100000

theorem c_impl_RunActs (w : World) (a_g : GGuild) (v0a : Hd) (r0 : rdF w (dm w []) (sl v0a) a_g.Members) (v1a : Hd) (r1 : rdF w (dm w []) (sl v1a) a_g.Stock) (v2a : Hd) (u2a : List Value) (r2 : RdL w (dm w []) (sl v2a) u2a a_g.Entries) (v3a : Hd) (r3 : rdF w (dm w []) (sl v3a) a_g.Books) (a_acts : List GAct) (v4a : Hd) (r4 : rdF w (dm w []) (sl v4a) a_acts) {r : GGuild × (List Int)} (t0 : impl_RunActs a_g a_acts = some r) : Calls Tryz.prog 6 #[.agg #[(sl v0a), (sl v1a), (sl v2a), (sl v3a), .int .i64 a_g.Round, .int .i64 a_g.Year], (sl v4a)] w fun e w' => ∃ x : Hd × Hd × Hd × (List Value) × Hd × Hd, e = .returned (.tuple #[.agg #[(sl x.1), (sl x.2.1), (sl x.2.2.1), (sl x.2.2.2.2.1), .int .i64 r.1.Round, .int .i64 r.1.Year], (sl x.2.2.2.2.2)]) ∧ SH w [] [ownF (sl x.1) r.1.Members, ownF (sl x.2.1) r.1.Stock, own (sl x.2.2.1) x.2.2.2.1 r.1.Entries, ownF (sl x.2.2.2.2.1) r.1.Books, ownF (sl x.2.2.2.2.2) r.2] w' := by
 refine cwc (args := [_, _]) Tryz.func6 R Tryz.ntmps6 R ?_
 unfold impl_RunActs at t0
 refine wcr (wle (eo_box R R) R fun b1 => (wle (eal (cs := [(sl hn), (sl hn), (sl hn), (sl hn), iv 0, iv 0]) za_29) R fun b2 => (asg R R (wnt (wcr (wlq (v := .agg #[(sl v0a), (sl v1a), (sl v2a), (sl v3a), iv a_g.Round, iv a_g.Year]) (plb tk_29 pk1 R R R) R (bdO t0 fun v1 hv1 t0 => (wlc (co_c4 fa_12 R fun w hw => c_impl_Guild_copied w a_g v0a (ra r0 hw) v1a (ra r1 hw) v2a u2a (ra r2 hw) v3a (ra r3 hw) hv1) R fun x1 => (wle (eal (cs := [(sl hn), (sl hn), (sl hn), (sl hn), iv 0, iv 0]) za_29) R fun b3 => (wls (sbx (cs' := [(sl x1.1), (sl x1.2.1), (sl x1.2.2.1), (sl x1.2.2.2.2), iv v1.Round, iv v1.Year]) tk_29 pz R R R R R R R) (wnt (wcs (wcs (bdO t0 fun y1 t1 t0 => (wj (J := Bool) (X := Unit) (fun z => y1 = z) (fun z _ => [(1, (sl v4a)), (4, ptr b2 0), (6, ptr b3 0), (21, .bool z)]) (fun _ _ => [box b3 [(sl x1.1), (sl x1.2.1), (sl x1.2.2.1), (sl x1.2.2.2.2), iv v1.Round, iv v1.Year], box b2 [(sl hn), (sl hn), (sl hn), (sl hn), iv 0, iv 0], ownF (sl x1.1) v1.Members, ownF (sl x1.2.1) v1.Stock, own (sl x1.2.2.1) x1.2.2.2.1 v1.Entries, ownF (sl x1.2.2.2.2) v1.Books]) ?_ ?_)))))))))))))))
 refine wcg (wlq (v := .agg #[(sl v0a), (sl v1a), (sl v2a), (sl v3a), iv a_g.Round, iv a_g.Year]) (plb tk_29 pk6 R R R) R (bdO t1 fun v2 hv2 t1 => (wlc (cz0 fa_13 R fun w hw => c_impl_GuildOk w a_g v0a (ra r0 hw) v1a (ra r1 hw) v2a u2a (ra r2 hw) v3a (ra r3 hw) hv2) R fun _ => (wlq (po_not R) R (mv R R (wlo (t := 17) t1 R (fun h1 t1 => ?_) fun h1 t1 => ?_))))))
 exact wgf (j := 3) R R R R R (wgf (j := 3) R R R R R (wgf (j := 3) R R R R R (wlq (pit R R) R (wln (wjm _ () (mtE t1) (su4 R R R R) (zc pz (zc pk4 so4)))))))
 exact wgn (j := 3) R R R (mv R R (wgn (j := 3) R R R (wlq (pln (rga r4) el_30 R) R (wgn (j := 3) R R R (wlq (po_gtr R R) R (wlq (pif R R) R (wln (wjm _ () (mtE t1) (su4 R R R R) (zc pz (zc pk4 so4))))))))))
 intro j1 _ hp
 obtain rfl : j1 = y1 := hp.symm
 refine wqt (wcO t0 R (fun h2 t0 => ?_) fun h2 t0 => ?_)
 refine wcr (wlq (v := .agg #[(sl x1.1), (sl x1.2.1), (sl x1.2.2.1), (sl x1.2.2.2.2), iv v1.Round, iv v1.Year]) (plb tk_29 pz R R R) R (wls (sbx (cs' := [(sl x1.1), (sl x1.2.1), (sl x1.2.2.1), (sl x1.2.2.2.2), iv v1.Round, iv v1.Year]) tk_29 pk1 R R R R R R R) (asg R R (wnt (wct (wqr ?_))))))
 obtain rfl := oi t0
 exact wq_retc1 R tk_29 R R pz R fun w hw => ⟨(x1.1, x1.2.1, x1.2.2.1, x1.2.2.2.1, x1.2.2.2.2, hn), R, hw.weak (zc pk2 (zc pk2 (zc pk2 (zc pk2 (zc pick_nil zn)))))⟩
 refine wck (wqt (wcr (wle (ebs R sb_25_0) R fun b4 => (asg R R (wnt (wcs (wcr (mv R R (wlq (pln (rga r4) el_30 R) R (mv R R (wnt (gdO t0 fun g1 t0 => (lpO_inv t0 fun y1 l1 t0 => (wj (J := (List Int) × (List GMember) × (List Int) × (List GEntry) × (List GBooking) × Int × Int) (X := Hd × Hd × Hd × Hd × (List Value) × Hd) (fun z => y1 = z) (fun _ x => [(4, ptr b2 0), (6, ptr b3 0), (7, (sl x.1))]) (fun z x => [box b3 [(sl x.2.1), (sl x.2.2.1), (sl x.2.2.2.1), (sl x.2.2.2.2.2), iv z.2.2.2.2.2.1, iv z.2.2.2.2.2.2], box b2 [(sl hn), (sl hn), (sl hn), (sl hn), iv 0, iv 0], ownF (sl x.2.1) z.2.1, ownF (sl x.2.2.1) z.2.2.1, own (sl x.2.2.2.1) x.2.2.2.2.1 z.2.2.2.1, ownF (sl x.2.2.2.2.2) z.2.2.2.2.1, ownF (sl x.1) z.1]) ?_ ?_))))))))))))))
 refine wcb (wcf (X := Hd × Hd × Hd × Hd × (List Value) × Hd) l1 (fun k1 s1 x1l => [(4, ptr b2 0), (6, ptr b3 0), (7, (sl x1l.1)), (24, (sl v4a)), (25, iv ((a_acts.length : Nat) : Int)), (26, iv ((k1 : Nat) : Int))]) (fun k1 s1 x1l => [box b3 [(sl x1l.2.1), (sl x1l.2.2.1), (sl x1l.2.2.2.1), (sl x1l.2.2.2.2.2), iv s1.2.2.2.2.2.1, iv s1.2.2.2.2.2.2], box b2 [(sl hn), (sl hn), (sl hn), (sl hn), iv 0, iv 0], ownF (sl x1l.2.1) s1.2.1, ownF (sl x1l.2.2.1) s1.2.2.1, own (sl x1l.2.2.2.1) x1l.2.2.2.2.1 s1.2.2.2.1, ownF (sl x1l.2.2.2.2.2) s1.2.2.2.2.1, ownF (sl x1l.1) s1.1]) ((⟨some ⟨b4, 0, none⟩, 0, 0⟩ : Hd), x1.1, x1.2.1, x1.2.2.1, x1.2.2.2.1, x1.2.2.2.2) (su6 R R R R R R) (zc pk1 (zc pk1 (zc pk1 (zc pk1 (zc pk1 (zc pk1 (zc (pbo pz (n := 0) (xs := ([] : List Int)) R R (by unfold maxLen; omega)) zn))))))) fun k1 s1 x1l hN1 l1 => ?_)
 by_cases hk1 : k1 < a_acts.length
 refine fos l1 hk1 fun _ t1 l1 => ?_
 unfold impl_RunActs_L1 at t1
 have c1 : (decide (((k1 : Nat) : Int) < ((a_acts.length : Nat) : Int))) = true := ddt (by omega)
 refine wcr (wlq (pls R R) R (wnt (wcs (wft R c1 (wck (wqt (wcs (wcb (wcr (wlq (po_ixn (k := k1) (rga r4) el_30 R R hk1) R (wlq (v := .agg #[iv ((gx a_acts k1).Kind), iv ((gx a_acts k1).A), iv ((gx a_acts k1).B)]) (po_ldfs (rga r4) tk_44 R hk1 R R R) R (wle (eal (cs := [iv 0, iv 0, iv 0]) za_44) R fun b5 => (wls (sbx (cs' := [iv ((gx a_acts k1).Kind), iv ((gx a_acts k1).A), iv ((gx a_acts k1).B)]) tk_44 pz R R R R R R R) (wnt (wcr (wlq (v := .agg #[(sl x1l.2.1), (sl x1l.2.2.1), (sl x1l.2.2.2.1), (sl x1l.2.2.2.2.2), iv s1.2.2.2.2.2.1, iv s1.2.2.2.2.2.2]) (plb tk_29 pk1 R R R) R (wlq (v := .agg #[iv ((gx a_acts k1).Kind), iv ((gx a_acts k1).A), iv ((gx a_acts k1).B)]) (plb tk_44 pz R R R) R (bdO t1 fun v3 hv3 t1 => (wlc (co_c4 fa_14 R fun w hw => c_impl_DoAct w (GGuild.mk s1.2.1 s1.2.2.1 s1.2.2.2.1 s1.2.2.2.2.1 s1.2.2.2.2.2.1 s1.2.2.2.2.2.2) x1l.2.1 (Rg.on (rgo pk3) hw) x1l.2.2.1 (Rg.on (rgo pk4) hw) x1l.2.2.2.1 x1l.2.2.2.2.1 (Rg.on (rgo pk5) hw) x1l.2.2.2.2.2 (Rg.on (rgo pk6) hw) (gx a_acts k1) hv3) R fun x4 => (mv R R (wlq (pex R R) R (wlq (pex R R) R (wle (eal (cs := [(sl hn), (sl hn), (sl hn), (sl hn), iv 0, iv 0]) za_29) R fun b6 => (wls (sbx (cs' := [(sl x4.1), (sl x4.2.1), (sl x4.2.2.1), (sl x4.2.2.2.2), iv v3.1.Round, iv v3.1.Year]) tk_29 pz R R R R R R R) (asg R R (wnt (wcr (wlq (v := .agg #[(sl x4.1), (sl x4.2.1), (sl x4.2.2.1), (sl x4.2.2.2.2), iv v3.1.Round, iv v3.1.Year]) (plb tk_29 pz R R R) R (wls (sbx (cs' := [(sl x4.1), (sl x4.2.1), (sl x4.2.2.1), (sl x4.2.2.2.2), iv v3.1.Round, iv v3.1.Year]) tk_29 pk6 R R R R R R R) (wnt (wcg (mv R R (mv R R (wle (ebs R (sb_25_1 v3.2)) R fun b7 => (gdO t1 fun g2 t1 => (wle (eo_append (xs := s1.1) (ys := ([v3.2] : List Int)) ak_25 pk13 R R (slin_rd fun _ g => Rg.on (rgo (pbo pz (n := 1) (xs := ([v3.2] : List Int)) R R (by unfold maxLen; omega))) g) g2) R fun x5 => ?_))))))))))))))))))))))))))))))))))))
 refine asg R R (wln (wqb (wqt (wcg (wlq (po_inc R R (by omega)) R ?_)))))
 exact mv R R (wln (wq_rnd hk1 (stpN l1 t1) (x5, x4.1, x4.2.1, x4.2.2.1, x4.2.2.2.1, x4.2.2.2.2) (su6 R R R R R R) (zc pk2 (zc pk8 (zc pk3 (zc pk3 (zc pk3 (zc pk3 so1))))))))
 have c1 : (decide (((k1 : Nat) : Int) < ((a_acts.length : Nat) : Int))) = false := ddf (by omega)
 have en1 := foe l1 hk1
 exact wcr (wlq (pls R R) R (wnt (wcs (wff R c1 (wcx (wqe (wqe (wbx (wjm _ (x1l.1, x1l.2.1, x1l.2.2.1, x1l.2.2.2.1, x1l.2.2.2.2.1, x1l.2.2.2.2.2) (Sum.inl.inj en1) (su3 R R R) so7)))))))))
 intro e1 x3 hp
 obtain rfl : e1 = y1 := hp.symm
 refine wqt (wcr (wlq (v := .agg #[(sl x3.2.1), (sl x3.2.2.1), (sl x3.2.2.2.1), (sl x3.2.2.2.2.2), iv e1.2.2.2.2.2.1, iv e1.2.2.2.2.2.2]) (plb tk_29 pz R R R) R (mv R R (wls (sbx (cs' := [(sl x3.2.1), (sl x3.2.2.1), (sl x3.2.2.2.1), (sl x3.2.2.2.2.2), iv e1.2.2.2.2.2.1, iv e1.2.2.2.2.2.2]) tk_29 pk1 R R R R R R R) (asg R R (wnt (wct ?_)))))))
 obtain rfl := oi t0
 exact wq_retc1 R tk_29 R R pz R fun w hw => ⟨(x3.2.1, x3.2.2.1, x3.2.2.2.1, x3.2.2.2.2.1, x3.2.2.2.2.2, x3.1), R, hw.weak (zc pk2 (zc pk2 (zc pk2 (zc pk2 (zc pk2 zn)))))⟩

theorem c_impl_sameInts (w : World) (a_a : List Int) (v0a : Hd) (r0 : rdF w (dm w []) (sl v0a) a_a) (a_b : List Int) (v1a : Hd) (r1 : rdF w (dm w []) (sl v1a) a_b) {r : Bool} (t0 : impl_sameInts a_a a_b = some r) : Calls Tryz.prog 15 #[(sl v0a), (sl v1a)] w fun e w' => e = .returned (.bool r) ∧ SH w [] [] w' := by
 refine cwc (args := [_, _]) Tryz.func15 R Tryz.ntmps15 R ?_
 unfold impl_sameInts at t0
 refine wcr (asg R R (wnt (wcs (wcr (mv R R (wlq (pln (rga r0) el_25 R) R (mv R R (wlq (pln (rga r1) el_25 R) R (wlq (po_neq R R) R (wnt (wcO t0 R (fun h1 t0 => ?_) fun h1 t0 => ?_)))))))))))
 refine wcr (asg R R (wnt (wct (wqr ?_))))
 obtain rfl := oi t0
 exact wq1 R R fun w hw => ⟨R, hw.weak zn⟩
 refine wck (wqt (wcs (wcr (mv R R (wlq (pln (rga r0) el_25 R) R (mv R R (wnt (gdO t0 fun g1 t0 => (sqO t0 fun y1 l1 t0 => (wj (J := Unit) (X := Unit) (fun z => y1 = .inl z) (fun _ _ => []) (fun _ _ => []) ?_ ?_))))))))))
 refine wcb (wcf (X := Unit) l1 (fun k1 s1 x1l => [(0, (sl v0a)), (1, (sl v1a)), (12, iv ((a_a.length : Nat) : Int)), (13, iv ((k1 : Nat) : Int))]) (fun k1 s1 x1l => []) () (su4 R R R R) zn fun k1 s1 x1l hN1 l1 => ?_)
 by_cases hk1 : k1 < a_a.length
 refine fos l1 hk1 fun _ t1 l1 => ?_
 unfold impl_sameInts_L1 at t1
 have c1 : (decide (((k1 : Nat) : Int) < ((a_a.length : Nat) : Int))) = true := ddt (by omega)
 refine wcr (wlq (pls R R) R (wnt (wcs (wft R c1 (wck (wqt (wcs (wcb (wcr (mv R R (asg R R (wnt (wcs (wcd [] 9 mixed (aq 0 R (pom R) zn R (aq 1 R (pom R) zn R (aq 2 R (po_ixn (k := k1) (rga r0) el_25 R R hk1) zn R (aq (v := iv (gx a_a k1)) 3 R (po_ldf (rga r0) tk_3 R hk1 R) zn R (aq 4 R (pom R) zn R (aq 5 R (pom R) zn R (gdO t1 fun g2 t1 => (aq 6 R (po_ixn (k := k1) (rga r1) el_25 R R g2) zn R (aq (v := iv (gx a_b k1)) 7 R (po_ldf (rga r1) tk_3 R g2 R) zn R (aq 8 R (po_neq R R) zn R (ae (wqt (wcO t1 R (fun h2 t1 => ?_) fun h2 t1 => ?_)))))))))))))))))))))))))))
 refine wcr (asg R R (wnt (wct (wbr (wqr (wqr (wbr (wqr (wqr ?_)))))))))
 replace t0 := lpR t0 l1 t1
 obtain rfl := oi t0
 exact wq1 R R fun w hw => ⟨R, hw.weak zn⟩
 refine wck (wqb (wqt (wcg (wlq (po_inc R R (by omega)) R ?_))))
 exact mv R R (wln (wq_rnd hk1 (stpN l1 t1) () (su4 R R R R) zn))
 have c1 : (decide (((k1 : Nat) : Int) < ((a_a.length : Nat) : Int))) = false := ddf (by omega)
 have en1 := foe l1 hk1
 exact wcr (wlq (pls R R) R (wnt (wcs (wff R c1 (wcx (wqe (wqe (wbx (wjm _ () en1 yn zn)))))))))
 intro e1 _ hp
 replace t0 := sqE (j := e1) t0 hp
 refine wqt (wcr (asg R R (wnt (wct ?_))))
 obtain rfl := oi t0
 exact wq1 R R fun w hw => ⟨R, hw.weak zn⟩

theorem c_impl_IsReplay (w : World) (a_g : GGuild) (v0a : Hd) (r0 : rdF w (dm w []) (sl v0a) a_g.Members) (v1a : Hd) (r1 : rdF w (dm w []) (sl v1a) a_g.Stock) (v2a : Hd) (u2a : List Value) (r2 : RdL w (dm w []) (sl v2a) u2a a_g.Entries) (v3a : Hd) (r3 : rdF w (dm w []) (sl v3a) a_g.Books) (a_acts : List GAct) (v4a : Hd) (r4 : rdF w (dm w []) (sl v4a) a_acts) (a_numbers : List Int) (v5a : Hd) (r5 : rdF w (dm w []) (sl v5a) a_numbers) {r : Bool} (t0 : impl_IsReplay a_g a_acts a_numbers = some r) : Calls Tryz.prog 7 #[.agg #[(sl v0a), (sl v1a), (sl v2a), (sl v3a), .int .i64 a_g.Round, .int .i64 a_g.Year], (sl v4a), (sl v5a)] w fun e w' => e = .returned (.bool r) ∧ SH w [] [] w' := by
 refine cwc (args := [_, _, _]) Tryz.func7 R Tryz.ntmps7 R ?_
 unfold impl_IsReplay at t0
 refine wcr (wle (eo_box R R) R fun b1 => (asg R R (wnt (wcs (wcs (bdO t0 fun y1 t1 t0 => (wj (J := Bool) (X := Unit) (fun z => y1 = z) (fun z _ => [(1, (sl v4a)), (2, (sl v5a)), (3, ptr b1 0), (16, .bool z)]) (fun _ _ => [box b1 [(sl v0a), (sl v1a), (sl v2a), (sl v3a), iv a_g.Round, iv a_g.Year]]) ?_ ?_)))))))
 refine wcg (wlq (v := .agg #[(sl v0a), (sl v1a), (sl v2a), (sl v3a), iv a_g.Round, iv a_g.Year]) (plb tk_29 pz R R R) R (bdO t1 fun v1 hv1 t1 => (wlc (cz0 fa_13 R fun w hw => c_impl_GuildOk w a_g v0a (ra r0 hw) v1a (ra r1 hw) v2a u2a (ra r2 hw) v3a (ra r3 hw) hv1) R fun _ => (wlq (po_not R) R (mv R R (wlo (t := 12) t1 R (fun h1 t1 => ?_) fun h1 t1 => ?_))))))
 exact wgf (j := 3) R R R R R (wgf (j := 3) R R R R R (wgf (j := 3) R R R R R (wlq (pit R R) R (wln (wjm _ () (mtE t1) (su4 R R R R) so1)))))
 exact wgn (j := 3) R R R (mv R R (wgn (j := 3) R R R (wlq (pln (rga r4) el_30 R) R (wgn (j := 3) R R R (wlq (po_gtr R R) R (wlq (pif R R) R (wln (wjm _ () (mtE t1) (su4 R R R R) so1))))))))
 intro j1 _ hp
 obtain rfl : j1 = y1 := hp.symm
 refine wqt (wcO t0 R (fun h2 t0 => ?_) fun h2 t0 => ?_)
 refine wcr (asg R R (wnt (wct (wqr ?_))))
 obtain rfl := oi t0
 exact wq1 R R fun w hw => ⟨R, hw.weak zn⟩
 refine wck (wqt (wcr (wlq (v := .agg #[(sl v0a), (sl v1a), (sl v2a), (sl v3a), iv a_g.Round, iv a_g.Year]) (plb tk_29 pz R R R) R (mv R R (bdO t0 fun v2 hv2 t0 => (wlc (co_c5 fa_6 R fun w hw => c_impl_RunActs w a_g v0a (ra r0 hw) v1a (ra r1 hw) v2a u2a (ra r2 hw) v3a (ra r3 hw) a_acts v4a (ra r4 hw) hv2) R fun x2 => (mv R R (wlq (pex R R) R (wlq (pex R R) R (wle (eal (cs := [(sl hn), (sl hn), (sl hn), (sl hn), iv 0, iv 0]) za_29) R fun b2 => (wls (sbx (cs' := [(sl x2.1), (sl x2.2.1), (sl x2.2.2.1), (sl x2.2.2.2.2.1), iv v2.1.Round, iv v2.1.Year]) tk_29 pz R R R R R R R) (asg R R (wnt (wcr (mv R R (mv R R (bdO t0 fun v3 hv3 t0 => (wlc (cz0 fa_15 R fun w hw => c_impl_sameInts w v2.2 x2.2.2.2.2.2 (Rg.on (rgo pk5) hw) a_numbers v5a (ra r5 hw) hv3) R fun _ => (asg R R (wnt (wct ?_)))))))))))))))))))))
 obtain rfl := oi t0
 exact wq1 R R fun w hw => ⟨R, hw.weak zn⟩

theorem c_spec_DrawPlaces (w : World) (a_code : List UInt8) (v0a : Hd) (r0 : rdF w (dm w []) (sl v0a) a_code) {r : List Int} (t0 : spec_DrawPlaces a_code = some r) : Calls Tryz.prog 8 #[(sl v0a)] w fun e w' => ∃ x : Hd, e = .returned ((sl x)) ∧ SH w [] [ownF (sl x) r] w' := by
 refine cwc (args := [_]) Tryz.func8 R Tryz.ntmps8 R ?_
 unfold spec_DrawPlaces at t0
 refine wcr (asg R R (wnt (wcr (mv R R (bdO t0 fun v1 hv1 t0 => (wlc (cz1 fa_9 R fun w hw => c_spec_l01New w a_code v0a (ra r0 hw) hv1) R fun x1 => (asg R R (wnt (wcr (wle (ebs R sb_25_0) R fun b1 => (asg R R (wnt (wcs (wcr (asg R R (wnt (lpO_inv t0 fun y1 l1 t0 => (wj (J := (List Int) × Int × Int) (X := Hd) (fun z => y1 = z) (fun _ x => [(4, (sl x))]) (fun z x => [ownF (sl x) z.1]) ?_ ?_))))))))))))))))))
 refine wcb (wcf (X := Hd) l1 (fun k1 s1 x1l => [(3, ptr x1 0), (4, (sl x1l)), (5, iv ((k1 : Nat) : Int))]) (fun k1 s1 x1l => [box x1 [(sl v0a), iv s1.2.1, iv s1.2.2], ownF (sl x1l) s1.1]) (⟨some ⟨b1, 0, none⟩, 0, 0⟩ : Hd) (su3 R R R) (zc pk1 (zc (pbo pz (n := 0) (xs := ([] : List Int)) R R (by unfold maxLen; omega)) zn)) fun k1 s1 x1l hN1 l1 => ?_)
 by_cases hk1 : k1 < 12
 refine fos l1 hk1 fun _ t1 l1 => ?_
 unfold spec_DrawPlaces_L1 at t1
 have c1 : (decide (((k1 : Nat) : Int) < 12)) = true := ddt (by omega)
 refine wcs (wcr (mv R R (wlq (pls R R) R (wnt (wft R c1 (wck (wqt (wcs (wcb (wcg (mv R R (mv R R (bdO t1 fun v2 hv2 t1 => (wlc (co_o1 [box x1 [(sl v0a), iv s1.2.1, iv s1.2.2]] fa_16 (zc pz some_refl) R fun w fp hw => c_spec_l01Below w fp x1 a_code v0a ((rdo_arg r0) w fp hw) s1.2.1 s1.2.2 10000 hw.ow hv2) R fun _ => (wle (ebs R (sb_25_1 v2.1)) R fun b2 => (gdO t1 fun g1 t1 => (wle (eo_append (xs := s1.1) (ys := ([v2.1] : List Int)) ak_25 pk2 R R (slin_rd fun _ g => Rg.on (rgo (pbo pz (n := 1) (xs := ([v2.1] : List Int)) R R (by unfold maxLen; omega))) g) g1) R fun x3 => ?_)))))))))))))))))
 refine asg R R (wln (wqb (wqt (wcg (mv R R (wlq (po_inc R R (by omega)) R ?_))))))
 exact asg R R (wln (wq_rnd hk1 (stpN l1 t1) x3 (su3 R R R) (zc pk2 so1)))
 have c1 : (decide (((k1 : Nat) : Int) < 12)) = false := ddf (by omega)
 have en1 := foe l1 hk1
 exact wcs (wcr (mv R R (wlq (pls R R) R (wnt (wff R c1 (wcx (wqe (wqe (wbx (wjm _ x1l (Sum.inl.inj en1) (su1 R) (zc pk1 zn)))))))))))
 intro e1 x2 hp
 obtain rfl : e1 = y1 := hp.symm
 refine wqt (wcr (mv R R (asg R R (wnt (wct ?_)))))
 obtain rfl := oi t0
 exact wq1 R R fun w hw => ⟨x2, R, hw.weak so1⟩

theorem c_laws_FnReplays (w : World) (a_code : List UInt8) (v0a : Hd) (r0 : rdF w (dm w []) (sl v0a) a_code) {r : Bool} (t0 : laws_FnReplays a_code = some r) : Calls Tryz.prog 3 #[(sl v0a)] w fun e w' => e = .returned (.bool r) ∧ SH w [] [] w' := by
 refine cwc (args := [_]) Tryz.func3 R Tryz.ntmps3 R ?_
 unfold laws_FnReplays at t0
 refine wcr (asg R R (wnt (wcs (wcr (mv R R (bdO t0 fun v1 hv1 t0 => (wlc (cz0 fa_4 R fun w hw => c_laws_big w a_code v0a (ra r0 hw) hv1) R fun _ => (wnt (wcO t0 R (fun h1 t0 => ?_) fun h1 t0 => ?_)))))))))
 refine wcr (asg R R (wnt (wct (wqr ?_))))
 obtain rfl := oi t0
 exact wq1 R R fun w hw => ⟨R, hw.weak zn⟩
 refine wck (wqt (wcr (mv R R (bdO t0 fun v2 hv2 t0 => (wlc (co_c5 fa_5 R fun w hw => c_spec_DrawActs w a_code v0a (ra r0 hw) hv2) R fun x1 => (mv R R (wlq (pex R R) R (wlq (pex R R) R (wle (eal (cs := [(sl hn), (sl hn), (sl hn), (sl hn), iv 0, iv 0]) za_29) R fun b1 => (wls (sbx (cs' := [(sl x1.1), (sl x1.2.1), (sl x1.2.2.1), (sl x1.2.2.2.2.1), iv v2.1.Round, iv v2.1.Year]) tk_29 pz R R R R R R R) (asg R R (wnt (wcr (wlq (v := .agg #[(sl x1.1), (sl x1.2.1), (sl x1.2.2.1), (sl x1.2.2.2.2.1), iv v2.1.Round, iv v2.1.Year]) (plb tk_29 pz R R R) R (mv R R (bdO t0 fun v3 hv3 t0 => (wlc (co_c5 fa_6 R fun w hw => c_impl_RunActs w v2.1 x1.1 (Rg.on (rgo pk1) hw) x1.2.1 (Rg.on (rgo pk2) hw) x1.2.2.1 x1.2.2.2.1 (Rg.on (rgo pk3) hw) x1.2.2.2.2.1 (Rg.on (rgo pk4) hw) v2.2 x1.2.2.2.2.2 (Rg.on (rgo pk5) hw) hv3) R fun x2 => (mv R R (wlq (pex R R) R (wlq (pex R R) R (wle (eal (cs := [(sl hn), (sl hn), (sl hn), (sl hn), iv 0, iv 0]) za_29) R fun b2 => (wls (sbx (cs' := [(sl x2.1), (sl x2.2.1), (sl x2.2.2.1), (sl x2.2.2.2.2.1), iv v3.1.Round, iv v3.1.Year]) tk_29 pz R R R R R R R) (asg R R (wnt (wcs (wcr (wlq (v := .agg #[(sl x1.1), (sl x1.2.1), (sl x1.2.2.1), (sl x1.2.2.2.2.1), iv v2.1.Round, iv v2.1.Year]) (plb tk_29 pk6 R R R) R (mv R R (mv R R (bdO t0 fun v4 hv4 t0 => (wlc (cz0 fa_7 R fun w hw => c_impl_IsReplay w v2.1 x1.1 (Rg.on (rgo pk7) hw) x1.2.1 (Rg.on (rgo pk8) hw) x1.2.2.1 x1.2.2.2.1 (Rg.on (rgo pk9) hw) x1.2.2.2.2.1 (Rg.on (rgo pk10) hw) v2.2 x1.2.2.2.2.2 (Rg.on (rgo pk11) hw) v3.2 x2.2.2.2.2.2 (Rg.on (rgo pk5) hw) hv4) R fun _ => (wlq (po_not R) R (wnt (wcO t0 R (fun h2 t0 => ?_) fun h2 t0 => ?_))))))))))))))))))))))))))))))))))
 refine wcr (asg R R (wnt (wct (wqr ?_))))
 obtain rfl := oi t0
 exact wq1 R R fun w hw => ⟨R, hw.weak zn⟩
 refine wck (wqt (wcs (wcr (mv R R (wlq (pln (rgo pk5) el_25 R) R (wlq (pol R R) R (wnt (wcO t0 R (fun h3 t0 => ?_) fun h3 t0 => ?_))))))))
 refine wcr (wlq (v := .agg #[(sl x1.1), (sl x1.2.1), (sl x1.2.2.1), (sl x1.2.2.2.2.1), iv v2.1.Round, iv v2.1.Year]) (plb tk_29 pk6 R R R) R (mv R R (wle (ebs R (sb_25_1 1)) R fun b3 => (bdO t0 fun v5 hv5 t0 => (wlc (cz0 fa_7 R fun w hw => c_impl_IsReplay w v2.1 x1.1 (Rg.on (rgo pk8) hw) x1.2.1 (Rg.on (rgo pk9) hw) x1.2.2.1 x1.2.2.2.1 (Rg.on (rgo pk10) hw) x1.2.2.2.2.1 (Rg.on (rgo pk11) hw) v2.2 x1.2.2.2.2.2 (Rg.on (rgo pk12) hw) ([1] : List Int) (⟨some ⟨b3, 0, none⟩, 1, 1⟩ : Hd) (Rg.on (rgo (pbo pz (n := 1) (xs := ([1] : List Int)) R R (by unfold maxLen; omega))) hw) hv5) R fun _ => ?_)))))
 refine wlq (po_not R) R (asg R R (wnt (wct (wqr ?_))))
 obtain rfl := oi t0
 exact wq1 R R fun w hw => ⟨R, hw.weak zn⟩
 refine wck (wqt (wcr (mv R R (bdO t0 fun v6 hv6 t0 => (wlc (cz1 fa_8 R fun w hw => c_spec_DrawPlaces w a_code v0a (ra r0 hw) hv6) R fun x3 => (asg R R (wnt (wcr (mv R R (gdO t0 fun g1 t0 => (wlq (po_ixn (k := 0) (rgo pz) el_25 R R g1) R (wlq (v := iv (gx v6 0)) (po_ldf (rgo pz) tk_3 R g1 R) R (mv R R (wlq (pln (rgo pk6) el_25 R) R (gdO t0 fun g2 t0 => (wlq (po_rem R R g2) R (asg R R (wnt (wcr (mv R R (mv R R (mv R R (mv R R (gdO t0 fun g3 t0 => (wlq (po_ixr (rgo pk6) el_25 R R g3.1 g3.2) R (wlq (v := iv (gx v3.2 ((((gx v6 0).tmod ((v3.2.length : Nat) : Int))).toNat))) (po_ldf (rgo pk6) tk_3 R (ix_lt g3) R) R (wlq (po_add R R) R (wlq (po_ixr (rgo pk6) el_25 R R g3.1 g3.2) R (wls (so_own (x' := (wr ((gx v3.2 ((((gx v6 0).tmod ((v3.2.length : Nat) : Int))).toNat)) + 1))) tk_3 pk6 R R R R R R (ix_lt g3) R) (wnt (wcr (wlq (v := .agg #[(sl x1.1), (sl x1.2.1), (sl x1.2.2.1), (sl x1.2.2.2.2.1), iv v2.1.Round, iv v2.1.Year]) (plb tk_29 pk7 R R R) R (mv R R (mv R R (bdO t0 fun v7 hv7 t0 => (wlc (cz0 fa_7 R fun w hw => c_impl_IsReplay w v2.1 x1.1 (Rg.on (rgo pk8) hw) x1.2.1 (Rg.on (rgo pk9) hw) x1.2.2.1 x1.2.2.2.1 (Rg.on (rgo pk10) hw) x1.2.2.2.2.1 (Rg.on (rgo pk11) hw) v2.2 x1.2.2.2.2.2 (Rg.on (rgo pk12) hw) (v3.2.set ((((gx v6 0).tmod ((v3.2.length : Nat) : Int))).toNat) (wr ((gx v3.2 ((((gx v6 0).tmod ((v3.2.length : Nat) : Int))).toNat)) + 1))) x2.2.2.2.2.2 (Rg.on (rgo pz) hw) hv7) R fun _ => (wlq (po_not R) R (asg R R (wnt ?_)))))))))))))))))))))))))))))))))))))))
 refine wct ?_
 obtain rfl := oi t0
 exact wq1 R R fun w hw => ⟨R, hw.weak zn⟩

end Go.Proofs.YtgbcpjffnkiabacGreatDoor
