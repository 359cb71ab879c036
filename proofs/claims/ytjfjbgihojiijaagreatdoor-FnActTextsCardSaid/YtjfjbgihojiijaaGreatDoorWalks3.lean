/-
 Each Go function computes its Lean function (part 3).
-/
import Derived.Test.YtjfjbgihojiijaaGreatDoorWalks2
namespace Go.Proofs.YtjfjbgihojiijaaGreatDoor
open Go Go.RowKit Go.Proofs
set_option maxRecDepth 100000

theorem c_spec_Submit (w : World) (a_g : GGuild) (v0a : Hd) (r0 : rdF w (dm w []) (sl v0a) a_g.Members) (v1a : Hd) (r1 : rdF w (dm w []) (sl v1a) a_g.Stock) (v2a : Hd) (u2a : List Value) (r2 : RdL w (dm w []) (sl v2a) u2a a_g.Entries) (v3a : Hd) (r3 : rdF w (dm w []) (sl v3a) a_g.Books) (a_number : Int) (a_day : Int) (a_b : GBlock) (v4a : Hd) (r4 : rdF w (dm w []) (sl v4a) a_b.Cells) {r : GGuild × Bool} (t0 : spec_Submit a_g a_number a_day a_b = some r) : Calls Tryz.prog 30 #[.agg #[(sl v0a), (sl v1a), (sl v2a), (sl v3a), .int .i64 a_g.Round, .int .i64 a_g.Year], .int .i64 a_number, .int .i64 a_day, .agg #[.int .i64 a_b.Size, (sl v4a)]] w fun e w' => ∃ x : Hd × Hd × Hd × (List Value) × Hd, e = .returned (.tuple #[.agg #[(sl x.1), (sl x.2.1), (sl x.2.2.1), (sl x.2.2.2.2), .int .i64 r.1.Round, .int .i64 r.1.Year], .bool r.2]) ∧ SH w [] [ownF (sl x.1) r.1.Members, ownF (sl x.2.1) r.1.Stock, own (sl x.2.2.1) x.2.2.2.1 r.1.Entries, ownF (sl x.2.2.2.2) r.1.Books] w' := by
 refine cwc (args := [_, _, _, _]) Tryz.func30 R Tryz.ntmps30 R ?_
 unfold spec_Submit at t0
 refine wcr (wle (eo_box R R) R fun b1 => (wle (eo_box R R) R fun b2 => (wle (eal (cs := [(sl hn), (sl hn), (sl hn), (sl hn), iv 0, iv 0]) za_29) R fun b3 => (asg R R (wnt (wcr (wlq (v := .agg #[(sl v0a), (sl v1a), (sl v2a), (sl v3a), iv a_g.Round, iv a_g.Year]) (plb tk_29 pk2 R R R) R (bdO t0 fun v1 hv1 t0 => (wlc (co_c4 fa_40 R fun w hw => c_spec_l38Copy w a_g v0a (ra r0 hw) v1a (ra r1 hw) v2a u2a (ra r2 hw) v3a (ra r3 hw) hv1) R fun x1 => (wle (eal (cs := [(sl hn), (sl hn), (sl hn), (sl hn), iv 0, iv 0]) za_29) R fun b4 => (wls (sbx (cs' := [(sl x1.1), (sl x1.2.1), (sl x1.2.2.1), (sl x1.2.2.2.2), iv v1.Round, iv v1.Year]) tk_29 pz R R R R R R R) (wnt (wcr (mv R R (mv R R (wlq (v := .agg #[iv a_b.Size, (sl v4a)]) (plb tk_73 pk6 R R R) R (bdO t0 fun v2 hv2 t0 => (wlc (cz1 fa_45 R fun w hw => c_spec_l03Copy w a_b v4a (ra r4 hw) hv2) R fun x2 => (wlq (po_build R (bd_96_0_1_2 a_number a_day v2.Size x2)) R (wle (eal (cs := [iv 0, iv 0, iv 0, (sl hn)]) za_96) R fun b5 => (wls (sbx (cs' := [iv a_number, iv a_day, iv v2.Size, (sl x2)]) tk_96 pz R R R R R R R) (wnt (wcs (wcr (wlq (v := .agg #[(sl v0a), (sl v1a), (sl v2a), (sl v3a), iv a_g.Round, iv a_g.Year]) (plb tk_29 pk9 R R R) R (bdO t0 fun v3 hv3 t0 => (wlc (cz0 fa_39 R fun w hw => c_spec_GuildOk w a_g v0a (ra r0 hw) v1a (ra r1 hw) v2a u2a (ra r2 hw) v3a (ra r3 hw) hv3) R fun _ => (wlq (po_not R) R (wnt (wcO t0 R (fun h1 t0 => ?_) fun h1 t0 => ?_))))))))))))))))))))))))))))))
 refine wcr (wlq (v := .agg #[(sl x1.1), (sl x1.2.1), (sl x1.2.2.1), (sl x1.2.2.2.2), iv v1.Round, iv v1.Year]) (plb tk_29 pk2 R R R) R (wls (sbx (cs' := [(sl x1.1), (sl x1.2.1), (sl x1.2.2.1), (sl x1.2.2.2.2), iv v1.Round, iv v1.Year]) tk_29 pk7 R R R R R R R) (asg R R (wnt (wct (wqr ?_))))))
 obtain rfl := oi t0
 exact wq_retc1 R tk_29 R R pz R fun w hw => ⟨(x1.1, x1.2.1, x1.2.2.1, x1.2.2.2.1, x1.2.2.2.2), R, hw.weak (zc pk4 (zc pk4 (zc pk4 (zc pk4 zn))))⟩
 refine wck (wqt (wcs (wcr (asg R R (wnt (gdO t0 fun g1 t0 => (sqO t0 fun y1 l1 t0 => (wj (J := Unit) (X := Unit) (fun z => y1 = .inl z) (fun _ _ => [(4, ptr b1 0), (8, ptr b3 0), (10, ptr b4 0), (11, ptr b5 0)]) (fun _ _ => [box b5 [iv a_number, iv a_day, iv v2.Size, (sl x2)], ownF (sl x2) v2.Cells, box b4 [(sl x1.1), (sl x1.2.1), (sl x1.2.2.1), (sl x1.2.2.2.2), iv v1.Round, iv v1.Year], ownF (sl x1.1) v1.Members, ownF (sl x1.2.1) v1.Stock, own (sl x1.2.2.1) x1.2.2.2.1 v1.Entries, ownF (sl x1.2.2.2.2) v1.Books, box b3 [(sl hn), (sl hn), (sl hn), (sl hn), iv 0, iv 0], box b1 [(sl v0a), (sl v1a), (sl v2a), (sl v3a), iv a_g.Round, iv a_g.Year]]) ?_ ?_))))))))
 refine wcb (wcf (X := Unit) l1 (fun k1 s1 x1l => [(4, ptr b1 0), (8, ptr b3 0), (10, ptr b4 0), (11, ptr b5 0), (12, iv ((k1 : Nat) : Int))]) (fun k1 s1 x1l => [box b5 [iv a_number, iv a_day, iv v2.Size, (sl x2)], ownF (sl x2) v2.Cells, box b4 [(sl x1.1), (sl x1.2.1), (sl x1.2.2.1), (sl x1.2.2.2.2), iv v1.Round, iv v1.Year], ownF (sl x1.1) v1.Members, ownF (sl x1.2.1) v1.Stock, own (sl x1.2.2.1) x1.2.2.2.1 v1.Entries, ownF (sl x1.2.2.2.2) v1.Books, box b3 [(sl hn), (sl hn), (sl hn), (sl hn), iv 0, iv 0], box b1 [(sl v0a), (sl v1a), (sl v2a), (sl v3a), iv a_g.Round, iv a_g.Year]]) () (su5 R R R R R) (zc pz (zc pz (zc pz (zc pz (zc pz (zc pz (zc pz (zc pz (zc pk1 zn))))))))) fun k1 s1 x1l hN1 l1 => ?_)
 by_cases hk1 : k1 < a_g.Entries.length
 refine fos l1 hk1 fun _ t1 l1 => ?_
 unfold spec_Submit_L1 at t1
 have c1 : (decide (((k1 : Nat) : Int) < ((a_g.Entries.length : Nat) : Int))) = true := ddt (by omega)
 refine wcs (wcr (mv R R (wlq (pof fo_29_2 R) R (wlq (v := (sl v2a)) (plx tk_26 pk8 R R) R (wlq (pln (rga r2) el_26 R) R (wlq (pls R R) R (wnt (wft R c1 (wck (wqt (wcs (wcb (wcs (wcd [box b5 [iv a_number, iv a_day, iv v2.Size, (sl x2)], ownF (sl x2) v2.Cells, box b4 [(sl x1.1), (sl x1.2.1), (sl x1.2.2.1), (sl x1.2.2.2.2), iv v1.Round, iv v1.Year], ownF (sl x1.1) v1.Members, ownF (sl x1.2.1) v1.Stock, own (sl x1.2.2.1) x1.2.2.2.1 v1.Entries, ownF (sl x1.2.2.2.2) v1.Books, box b3 [(sl hn), (sl hn), (sl hn), (sl hn), iv 0, iv 0], box b1 [(sl v0a), (sl v1a), (sl v2a), (sl v3a), iv a_g.Round, iv a_g.Year]] 7 mixed (aq (v := .agg #[iv a_number, iv a_day, iv v2.Size, (sl x2)]) 0 R (plb tk_96 pz R R R) so9 R (aq 1 R (pof fo_29_2 R) so9 R (aq (v := (sl v2a)) 2 R (plx tk_26 pk8 R R) so9 R (aq 3 R (pom R) so9 R (aq 4 R (po_ixn (k := k1) (rga r2) el_26 R R hk1) so9 R (wa_elem (rga r2) hk1 ?_))))))))))))))))))))
 rintro ⟨_, _, he1⟩
 obtain ⟨w1, hc1, _⟩ := rd_GEntry.1 he1
 refine aq (v := .agg #[iv ((gx a_g.Entries k1).Owner), iv ((gx a_g.Entries k1).Day), iv (((gx a_g.Entries k1).Block).Size), (sl w1)]) 5 R (po_ldns (rga r2) tk_96 R hc1 R R R) so9 R (a1 6 (bdO t1 fun v4 hv4 t1 => (wsc R (cz0 fa_46 R fun w hw => c_spec_IsCopy w (GEntry.mk a_number a_day v2) x2 (Rg.on (rgo pk1) hw) (gx a_g.Entries k1) w1 (Rg.on (er_GEntry_0 hc1 (rga r2) hk1) hw) hv4) (fun _ => (zt so9)) R fun _ => (ae (wqt (wcO t1 R (fun h2 t1 => ?_) fun h2 t1 => ?_))))))
 refine wcr (wlq (v := .agg #[(sl x1.1), (sl x1.2.1), (sl x1.2.2.1), (sl x1.2.2.2.2), iv v1.Round, iv v1.Year]) (plb tk_29 pk2 R R R) R (wls (sbx (cs' := [(sl x1.1), (sl x1.2.1), (sl x1.2.2.1), (sl x1.2.2.2.2), iv v1.Round, iv v1.Year]) tk_29 pk7 R R R R R R R) (asg R R (wnt (wct (wbr (wqr (wqr (wbr (wqr (wqr ?_)))))))))))
 replace t0 := lpR t0 l1 t1
 obtain rfl := oi t0
 exact wq_retc1 R tk_29 R R pz R fun w hw => ⟨(x1.1, x1.2.1, x1.2.2.1, x1.2.2.2.1, x1.2.2.2.2), R, hw.weak (zc pk4 (zc pk4 (zc pk4 (zc pk4 zn))))⟩
 refine wck (wqb (wqt (wcg (mv R R (wlq (po_inc R R (by omega)) R ?_)))))
 exact asg R R (wln (wq_rnd hk1 (stpN l1 t1) () (su5 R R R R R) so9))
 have c1 : (decide (((k1 : Nat) : Int) < ((a_g.Entries.length : Nat) : Int))) = false := ddf (by omega)
 have en1 := foe l1 hk1
 exact wcs (wcr (mv R R (wlq (pof fo_29_2 R) R (wlq (v := (sl v2a)) (plx tk_26 pk8 R R) R (wlq (pln (rga r2) el_26 R) R (wlq (pls R R) R (wnt (wff R c1 (wcx (wqe (wqe (wbx (wjm _ () en1 (su4 R R R R) so9)))))))))))))
 intro e1 _ hp
 replace t0 := sqE (j := e1) t0 hp
 refine wqt (wcr (wlq (v := .agg #[(sl v0a), (sl v1a), (sl v2a), (sl v3a), iv a_g.Round, iv a_g.Year]) (plb tk_29 pk8 R R R) R (bdO t0 fun v5 hv5 t0 => (wlc (co_c4 fa_40 R fun w hw => c_spec_l38Copy w a_g v0a (ra r0 hw) v1a (ra r1 hw) v2a u2a (ra r2 hw) v3a (ra r3 hw) hv5) R fun x4 => (wle (eal (cs := [(sl hn), (sl hn), (sl hn), (sl hn), iv 0, iv 0]) za_29) R fun b6 => (wls (sbx (cs' := [(sl x4.1), (sl x4.2.1), (sl x4.2.2.1), (sl x4.2.2.2.2), iv v5.Round, iv v5.Year]) tk_29 pz R R R R R R R) (wnt (wcr (wlq (pof fo_29_2 R) R (wlq (v := (sl x4.2.2.1)) (plx tk_26 pz R R) R (wlq (v := .agg #[iv a_number, iv a_day, iv v2.Size, (sl x2)]) (plb tk_96 pk5 R R R) R (wle (ebs R (sb_26_1 a_number a_day v2.Size x2)) R fun b7 => (gdO t0 fun g2 t0 => (wle (eo_append_one (us := x4.2.2.2.1) (xs := v5.Entries) ak_26 pk4 (pow_GEntry (x := (GEntry.mk a_number a_day v2)) pk6) pz R R R g2) R fun x5 => (wlq (pof fo_29_2 R) R (wls (sbx (cs' := [(sl x4.1), (sl x4.2.1), (sl x5), (sl x4.2.2.2.2), iv v5.Round, iv v5.Year]) tk_26 pk2 R R R R R R R) (wnt (wcs (wcr (wlq (v := .agg #[(sl x4.1), (sl x4.2.1), (sl x5), (sl x4.2.2.2.2), iv v5.Round, iv v5.Year]) (plb tk_29 pz R R R) R (bdO t0 fun v6 hv6 t0 => (wlc (cz0 fa_39 R fun w hw => c_spec_GuildOk w (GGuild.mk v5.Members v5.Stock (v5.Entries ++ [(GEntry.mk a_number a_day v2)]) v5.Books v5.Round v5.Year) x4.1 (Rg.on (rgo pk3) hw) x4.2.1 (Rg.on (rgo pk4) hw) x5 (x4.2.2.2.1 ++ [iv a_number, iv a_day, iv v2.Size, (sl x2)]) (Rg.on (rgo pk1) hw) x4.2.2.2.2 (Rg.on (rgo pk5) hw) hv6) R fun _ => (wlq (po_not R) R (wnt (wcO t0 R (fun h3 t0 => ?_) fun h3 t0 => ?_)))))))))))))))))))))))))
 refine wcr (wlq (v := .agg #[(sl x1.1), (sl x1.2.1), (sl x1.2.2.1), (sl x1.2.2.2.2), iv v1.Round, iv v1.Year]) (plb tk_29 pk7 R R R) R (wls (sbx (cs' := [(sl x1.1), (sl x1.2.1), (sl x1.2.2.1), (sl x1.2.2.2.2), iv v1.Round, iv v1.Year]) tk_29 pk12 R R R R R R R) (asg R R (wnt (wct (wqr ?_))))))
 obtain rfl := oi t0
 exact wq_retc1 R tk_29 R R pz R fun w hw => ⟨(x1.1, x1.2.1, x1.2.2.1, x1.2.2.2.1, x1.2.2.2.2), R, hw.weak (zc pk9 (zc pk9 (zc pk9 (zc pk9 zn))))⟩
 refine wck (wqt (wcr (wlq (v := .agg #[(sl x4.1), (sl x4.2.1), (sl x5), (sl x4.2.2.2.2), iv v5.Round, iv v5.Year]) (plb tk_29 pz R R R) R (wls (sbx (cs' := [(sl x4.1), (sl x4.2.1), (sl x5), (sl x4.2.2.2.2), iv v5.Round, iv v5.Year]) tk_29 pk12 R R R R R R R) (asg R R (wnt (wct ?_)))))))
 obtain rfl := oi t0
 exact wq_retc1 R tk_29 R R pz R fun w hw => ⟨(x4.1, x4.2.1, x5, (x4.2.2.2.1 ++ [iv a_number, iv a_day, iv v2.Size, (sl x2)]), x4.2.2.2.2), R, hw.weak (zc pk4 (zc pk4 (zc pk2 (zc pk3 zn))))⟩

theorem c_spec_SwapRound (w : World) (a_g : GGuild) (v0a : Hd) (r0 : rdF w (dm w []) (sl v0a) a_g.Members) (v1a : Hd) (r1 : rdF w (dm w []) (sl v1a) a_g.Stock) (v2a : Hd) (u2a : List Value) (r2 : RdL w (dm w []) (sl v2a) u2a a_g.Entries) (v3a : Hd) (r3 : rdF w (dm w []) (sl v3a) a_g.Books) {r : GGuild × Bool} (t0 : spec_SwapRound a_g = some r) : Calls Tryz.prog 31 #[.agg #[(sl v0a), (sl v1a), (sl v2a), (sl v3a), .int .i64 a_g.Round, .int .i64 a_g.Year]] w fun e w' => ∃ x : Hd × Hd × Hd × (List Value) × Hd, e = .returned (.tuple #[.agg #[(sl x.1), (sl x.2.1), (sl x.2.2.1), (sl x.2.2.2.2), .int .i64 r.1.Round, .int .i64 r.1.Year], .bool r.2]) ∧ SH w [] [ownF (sl x.1) r.1.Members, ownF (sl x.2.1) r.1.Stock, own (sl x.2.2.1) x.2.2.2.1 r.1.Entries, ownF (sl x.2.2.2.2) r.1.Books] w' := by
 refine cwc (args := [_]) Tryz.func31 R Tryz.ntmps31 R ?_
 unfold spec_SwapRound at t0
 refine wcr (wle (eo_box R R) R fun b1 => (wle (eal (cs := [(sl hn), (sl hn), (sl hn), (sl hn), iv 0, iv 0]) za_29) R fun b2 => (asg R R (wnt (wcr (wlq (v := .agg #[(sl v0a), (sl v1a), (sl v2a), (sl v3a), iv a_g.Round, iv a_g.Year]) (plb tk_29 pk1 R R R) R (bdO t0 fun v1 hv1 t0 => (wlc (co_c4 fa_40 R fun w hw => c_spec_l38Copy w a_g v0a (ra r0 hw) v1a (ra r1 hw) v2a u2a (ra r2 hw) v3a (ra r3 hw) hv1) R fun x1 => (wle (eal (cs := [(sl hn), (sl hn), (sl hn), (sl hn), iv 0, iv 0]) za_29) R fun b3 => (wls (sbx (cs' := [(sl x1.1), (sl x1.2.1), (sl x1.2.2.1), (sl x1.2.2.2.2), iv v1.Round, iv v1.Year]) tk_29 pz R R R R R R R) (wnt (wcr (wlq (pof fo_29_4 R) R (wlq (v := iv v1.Round) (plx tk_3 pz R R) R (wlq (po_add R R) R (wlq (pof fo_29_4 R) R (wls (sbx (cs' := [(sl x1.1), (sl x1.2.1), (sl x1.2.2.1), (sl x1.2.2.2.2), iv (wr (v1.Round + 1)), iv v1.Year]) tk_3 pz R R R R R R R) (wnt (wcs (wcs (bdO t0 fun y1 t1 t0 => (wj (J := Bool) (X := Unit) (fun z => y1 = z) (fun z _ => [(1, ptr b1 0), (2, ptr b2 0), (4, ptr b3 0), (18, .bool z)]) (fun _ _ => [box b3 [(sl x1.1), (sl x1.2.1), (sl x1.2.2.1), (sl x1.2.2.2.2), iv (wr (v1.Round + 1)), iv v1.Year], box b2 [(sl hn), (sl hn), (sl hn), (sl hn), iv 0, iv 0], box b1 [(sl v0a), (sl v1a), (sl v2a), (sl v3a), iv a_g.Round, iv a_g.Year], ownF (sl x1.1) v1.Members, ownF (sl x1.2.1) v1.Stock, own (sl x1.2.2.1) x1.2.2.2.1 v1.Entries, ownF (sl x1.2.2.2.2) v1.Books]) ?_ ?_))))))))))))))))))))))
 refine wcg (wlq (v := .agg #[(sl v0a), (sl v1a), (sl v2a), (sl v3a), iv a_g.Round, iv a_g.Year]) (plb tk_29 pk6 R R R) R (bdO t1 fun v2 hv2 t1 => (wlc (cz0 fa_39 R fun w hw => c_spec_GuildOk w a_g v0a (ra r0 hw) v1a (ra r1 hw) v2a u2a (ra r2 hw) v3a (ra r3 hw) hv2) R fun _ => (wlq (po_not R) R (mv R R (wlo (t := 14) t1 R (fun h1 t1 => ?_) fun h1 t1 => ?_))))))
 exact wgf (j := 3) R R R R R (wgf (j := 3) R R R R R (wgf (j := 3) R R R R R (wlq (pit R R) R (wln (wjm _ () (mtE t1) (su4 R R R R) (zc pz (zc pk4 (zc pk4 so4))))))))
 exact wgn (j := 3) R R R (wlq (v := .agg #[(sl x1.1), (sl x1.2.1), (sl x1.2.2.1), (sl x1.2.2.2.2), iv (wr (v1.Round + 1)), iv v1.Year]) (plb tk_29 pz R R R) R (bdO t1 fun v3 hv3 t1 => (wgn (j := 3) R R R (wlc (cz0 fa_39 R fun w hw => c_spec_GuildOk w (GGuild.mk v1.Members v1.Stock v1.Entries v1.Books (wr (v1.Round + 1)) v1.Year) x1.1 (Rg.on (rgo pk1) hw) x1.2.1 (Rg.on (rgo pk2) hw) x1.2.2.1 x1.2.2.2.1 (Rg.on (rgo pk3) hw) x1.2.2.2.2 (Rg.on (rgo pk4) hw) hv3) R (fun _ => (wgn (j := 3) R R R (wlq (po_not R) R (wlq (pif R R) R (wln (wjm _ () (mtE t1) (su4 R R R R) (zc pz (zc pk4 (zc pk4 so4)))))))))))))
 intro j1 _ hp
 obtain rfl : j1 = y1 := hp.symm
 refine wqt (wcO t0 R (fun h2 t0 => ?_) fun h2 t0 => ?_)
 refine wcr (wlq (v := .agg #[(sl v0a), (sl v1a), (sl v2a), (sl v3a), iv a_g.Round, iv a_g.Year]) (plb tk_29 pk2 R R R) R (bdO t0 fun v4 hv4 t0 => (wlc (co_c4 fa_40 R fun w hw => c_spec_l38Copy w a_g v0a (ra r0 hw) v1a (ra r1 hw) v2a u2a (ra r2 hw) v3a (ra r3 hw) hv4) R fun x3 => (wls (sbx (cs' := [(sl x3.1), (sl x3.2.1), (sl x3.2.2.1), (sl x3.2.2.2.2), iv v4.Round, iv v4.Year]) tk_29 pk5 R R R R R R R) (asg R R (wnt (wct (wqr ?_))))))))
 obtain rfl := oi t0
 exact wq_retc1 R tk_29 R R pz R fun w hw => ⟨(x3.1, x3.2.1, x3.2.2.1, x3.2.2.2.1, x3.2.2.2.2), R, hw.weak (zc pk1 (zc pk1 (zc pk1 (zc pk1 zn))))⟩
 refine wck (wqt (wcr (wlq (v := .agg #[(sl x1.1), (sl x1.2.1), (sl x1.2.2.1), (sl x1.2.2.2.2), iv (wr (v1.Round + 1)), iv v1.Year]) (plb tk_29 pz R R R) R (wls (sbx (cs' := [(sl x1.1), (sl x1.2.1), (sl x1.2.2.1), (sl x1.2.2.2.2), iv (wr (v1.Round + 1)), iv v1.Year]) tk_29 pk1 R R R R R R R) (asg R R (wnt (wct ?_)))))))
 obtain rfl := oi t0
 exact wq_retc1 R tk_29 R R pz R fun w hw => ⟨(x1.1, x1.2.1, x1.2.2.1, x1.2.2.2.1, x1.2.2.2.2), R, hw.weak (zc pk3 (zc pk3 (zc pk3 (zc pk3 zn))))⟩

theorem c_spec_l31Stock (w : World) (fp : List Nat) (b0p : Nat) (a_c0 : List UInt8) (v0a : Hd) (r0 : rdF w (dm w fp) (sl v0a) a_c0) (a_c1 : Int) (a_c2 : Int) (a_top : Int) (o : Ow w [box b0p [(sl v0a), .int .i64 a_c1, .int .i64 a_c2]] fp) {r : (List Int) × Int × Int} (t0 : spec_l31Stock a_c0 a_c1 a_c2 a_top = some r) : Calls Tryz.prog 32 #[ptr b0p 0, .int .i64 a_top] w fun e w' => ∃ x : Hd, e = .returned ((sl x)) ∧ SH w fp [ownF (sl x) r.1, box b0p [(sl v0a), .int .i64 r.2.1, .int .i64 r.2.2]] w' := by
 refine calls_of_wc_own (args := [_, _]) o Tryz.func32 R Tryz.ntmps32 R ?_
 unfold spec_l31Stock at t0
 refine wcr (asg R R (wnt (wcr (wle (ebs R sb_25_0) R fun b1 => (asg R R (wnt (wcs (wcr (asg R R (wnt (lpO_inv t0 fun y1 l1 t0 => (wj (J := (List Int) × Int × Int) (X := Hd) (fun z => y1 = z) (fun _ x => [(5, (sl x))]) (fun z x => [box b0p [(sl v0a), iv z.2.1, iv z.2.2], ownF (sl x) z.1]) ?_ ?_))))))))))))
 refine wcb (wcf (X := Hd) l1 (fun k1 s1 x1l => [(0, ptr b0p 0), (1, iv a_top), (5, (sl x1l)), (6, iv ((k1 : Nat) : Int))]) (fun k1 s1 x1l => [box b0p [(sl v0a), iv s1.2.1, iv s1.2.2], ownF (sl x1l) s1.1]) (⟨some ⟨b1, 0, none⟩, 0, 0⟩ : Hd) (su4 R R R R) (zc pk1 (zc (pbo pz (n := 0) (xs := ([] : List Int)) R R (by unfold maxLen; omega)) zn)) fun k1 s1 x1l hN1 l1 => ?_)
 by_cases hk1 : k1 < 6
 refine fos l1 hk1 fun _ t1 l1 => ?_
 unfold spec_l31Stock_L1 at t1
 have c1 : (decide (((k1 : Nat) : Int) < 6)) = true := ddt (by omega)
 refine wcs (wcr (mv R R (wlq (pls R R) R (wnt (wft R c1 (wck (wqt (wcs (wcb (wcg (mv R R (mv R R (mv R R (bdO t1 fun v1 hv1 t1 => (wlc (co_o1 [box b0p [(sl v0a), iv s1.2.1, iv s1.2.2]] fa_20 (zc pz some_refl) R fun w fp hw => c_spec_l01Below w fp b0p a_c0 v0a ((rdo_arg r0) w fp hw) s1.2.1 s1.2.2 a_top hw.ow hv1) R fun _ => (wle (ebs R (sb_25_1 v1.1)) R fun b2 => (gdO t1 fun g1 t1 => (wle (eo_append (xs := s1.1) (ys := ([v1.1] : List Int)) ak_25 pk2 R R (slin_rd fun _ g => Rg.on (rgo (pbo pz (n := 1) (xs := ([v1.1] : List Int)) R R (by unfold maxLen; omega))) g) g1) R fun x2 => ?_))))))))))))))))))
 refine asg R R (wln (wqb (wqt (wcg (mv R R (wlq (po_inc R R (by omega)) R ?_))))))
 exact asg R R (wln (wq_rnd hk1 (stpN l1 t1) x2 (su4 R R R R) (zc pk2 so1)))
 have c1 : (decide (((k1 : Nat) : Int) < 6)) = false := ddf (by omega)
 have en1 := foe l1 hk1
 exact wcs (wcr (mv R R (wlq (pls R R) R (wnt (wff R c1 (wcx (wqe (wqe (wbx (wjm _ x1l (Sum.inl.inj en1) (su1 R) so2))))))))))
 intro e1 x1 hp
 obtain rfl : e1 = y1 := hp.symm
 refine wqt (wcr (mv R R (asg R R (wnt (wct ?_)))))
 obtain rfl := oi t0
 exact wq1 R R fun w hw => ⟨x1, R, hw.weak (zc pk1 so1)⟩

theorem c_spec_l38Guild (w : World) (fp : List Nat) (b0p : Nat) (a_c0 : List UInt8) (v0a : Hd) (r0 : rdF w (dm w fp) (sl v0a) a_c0) (a_c1 : Int) (a_c2 : Int) (o : Ow w [box b0p [(sl v0a), .int .i64 a_c1, .int .i64 a_c2]] fp) {r : GGuild × Int × Int} (t0 : spec_l38Guild a_c0 a_c1 a_c2 = some r) : Calls Tryz.prog 19 #[ptr b0p 0] w fun e w' => ∃ x : Hd × Hd × Hd × (List Value) × Hd, e = .returned (.agg #[(sl x.1), (sl x.2.1), (sl x.2.2.1), (sl x.2.2.2.2), .int .i64 r.1.Round, .int .i64 r.1.Year]) ∧ SH w fp [ownF (sl x.1) r.1.Members, ownF (sl x.2.1) r.1.Stock, own (sl x.2.2.1) x.2.2.2.1 r.1.Entries, ownF (sl x.2.2.2.2) r.1.Books, box b0p [(sl v0a), .int .i64 r.2.1, .int .i64 r.2.2]] w' := by
 refine calls_of_wc_own (args := [_]) o Tryz.func19 R Tryz.ntmps19 R ?_
 unfold spec_l38Guild at t0
 refine wcr (wle (eal (cs := [(sl hn), (sl hn), (sl hn), (sl hn), iv 0, iv 0]) za_29) R fun b1 => (wnt (wcr (mv R R (bdO t0 fun v1 hv1 t0 => (wlc (co_o1 [box b0p [(sl v0a), iv a_c1, iv a_c2]] fa_20 (zc pk1 some_refl) R fun w fp hw => c_spec_l01Below w fp b0p a_c0 v0a ((rdo_arg r0) w fp hw) a_c1 a_c2 20 hw.ow hv1) R fun _ => (wlq (po_add R R) R (bdO t0 fun v2 hv2 t0 => (wlc (co_c4 fa_27 R fun w hw => c_spec_NewGuild w (wr (2000 + v1.1)) hv2) R fun x1 => (mv R R (wlq (pex R R) R (wlq (pex R R) R (wle (eal (cs := [(sl hn), (sl hn), (sl hn), (sl hn), iv 0, iv 0]) za_29) R fun b2 => (wls (sbx (cs' := [(sl x1.1), (sl x1.2.1), (sl x1.2.2.1), (sl x1.2.2.2.2), iv v2.1.Round, iv v2.1.Year]) tk_29 pz R R R R R R R) (asg R R (wnt (wcs (wcr (mv R R (bdO t0 fun v3 hv3 t0 => (wlc (co_o1 [box b0p [(sl v0a), iv v1.2.1, iv v1.2.2]] fa_20 (zc pk5 some_refl) R fun w fp hw => c_spec_l01Below w fp b0p a_c0 v0a ((rdo_arg r0) w fp hw) v1.2.1 v1.2.2 5 hw.ow hv3) R fun _ => (asg R R (wnt (wlO_inv t0 fun y1 l1 t0 => (wj (J := Int × Int × Int × (List GMember) × (List Int) × (List GEntry) × (List GBooking) × Int × Int) (X := Hd × Hd × Hd × (List Value) × Hd) (fun z => y1 = z) (fun _ _ => [(0, ptr b0p 0), (2, ptr b1 0), (3, ptr b2 0)]) (fun z x => [box b0p [(sl v0a), iv z.2.1, iv z.2.2.1], box b2 [(sl x.1), (sl x.2.1), (sl x.2.2.1), (sl x.2.2.2.2), iv z.2.2.2.2.2.2.2.1, iv z.2.2.2.2.2.2.2.2], ownF (sl x.1) z.2.2.2.1, ownF (sl x.2.1) z.2.2.2.2.1, own (sl x.2.2.1) x.2.2.2.1 z.2.2.2.2.2.1, ownF (sl x.2.2.2.2) z.2.2.2.2.2.2.1, box b1 [(sl hn), (sl hn), (sl hn), (sl hn), iv 0, iv 0]]) ?_ ?_)))))))))))))))))))))))))
 refine wcb (wc_whO (X := Hd × Hd × Hd × (List Value) × Hd) l1 (fun s1 x1l => [(0, ptr b0p 0), (2, ptr b1 0), (3, ptr b2 0), (5, iv s1.1)]) (fun s1 x1l => [box b0p [(sl v0a), iv s1.2.1, iv s1.2.2.1], box b2 [(sl x1l.1), (sl x1l.2.1), (sl x1l.2.2.1), (sl x1l.2.2.2.2), iv s1.2.2.2.2.2.2.2.1, iv s1.2.2.2.2.2.2.2.2], ownF (sl x1l.1) s1.2.2.2.1, ownF (sl x1l.2.1) s1.2.2.2.2.1, own (sl x1l.2.2.1) x1l.2.2.2.1 s1.2.2.2.2.2.1, ownF (sl x1l.2.2.2.2) s1.2.2.2.2.2.2.1, box b1 [(sl hn), (sl hn), (sl hn), (sl hn), iv 0, iv 0]]) (x1.1, x1.2.1, x1.2.2.1, x1.2.2.2.1, x1.2.2.2.2) (su4 R R R R) so7 fun m1 s1 x1l l1 => (whO_step l1 fun _ t1 l1 => ?_))
 unfold spec_l38Guild_L1 at t1
 refine wcs (wcr (mv R R (wlq (po_gtr R R) R (wnt (wcO t1 R (fun h1 t1 => ?_) fun h1 t1 => ?_)))))
 refine wck (wqt (wcs (wcb (bdO t1 fun v4 hv4 t1 => (bdO t1 fun v5 hv5 t1 => (wcj (X := Hd × Hd × Hd × (List Value) × Hd) (fun _ => True) (fun z => [(0, ptr b0p 0), (2, ptr b1 0), (3, ptr b2 0), (5, iv s1.1)]) (fun z => [box b2 [(sl z.1), (sl z.2.1), (sl z.2.2.1), (sl z.2.2.2.2), iv v5.1.Round, iv v5.1.Year], ownF (sl z.1) v5.1.Members, ownF (sl z.2.1) v5.1.Stock, own (sl z.2.2.1) z.2.2.2.1 v5.1.Entries, ownF (sl z.2.2.2.2) v5.1.Books, box b0p [(sl v0a), iv v4.2.1, iv v4.2.2], box b1 [(sl hn), (sl hn), (sl hn), (sl hn), iv 0, iv 0]]) ?_ ?_))))))
 refine wcd [box b2 [(sl x1l.1), (sl x1l.2.1), (sl x1l.2.2.1), (sl x1l.2.2.2.2), iv s1.2.2.2.2.2.2.2.1, iv s1.2.2.2.2.2.2.2.2], ownF (sl x1l.1) s1.2.2.2.1, ownF (sl x1l.2.1) s1.2.2.2.2.1, own (sl x1l.2.2.1) x1l.2.2.2.1 s1.2.2.2.2.2.1, ownF (sl x1l.2.2.2.2) s1.2.2.2.2.2.2.1, box b1 [(sl hn), (sl hn), (sl hn), (sl hn), iv 0, iv 0]] 8 mixed (aq (v := .agg #[(sl x1l.1), (sl x1l.2.1), (sl x1l.2.2.1), (sl x1l.2.2.2.2), iv s1.2.2.2.2.2.2.2.1, iv s1.2.2.2.2.2.2.2.2]) 0 R (plb tk_29 pz R R R) (zc pk1 (zc pk1 (zc pk1 (zc pk1 (zc pk1 (zc pk1 zn)))))) R (aq 1 R (pom R) (zc pk1 (zc pk1 (zc pk1 (zc pk1 (zc pk1 (zc pk1 zn)))))) R (a1 2 (wsc R (co_o1 [box b0p [(sl v0a), iv s1.2.1, iv s1.2.2.1]] fa_20 (zc pz some_refl) R fun w fp hw => c_spec_l01Below w fp b0p a_c0 v0a ((rdo_arg r0) w fp hw) s1.2.1 s1.2.2.1 8 hw.ow hv4) (fun _ => (zt (zc pk1 (zc pk1 (zc pk1 (zc pk1 (zc pk1 (zc pk1 zn)))))))) R fun _ => (aq 3 R (po_add R R) (zc pk1 (zc pk1 (zc pk1 (zc pk1 (zc pk1 (zc pk1 zn)))))) R (a1 4 (wsc R (co_c4 fa_28 R fun w hw => c_spec_Admit w (GGuild.mk s1.2.2.2.1 s1.2.2.2.2.1 s1.2.2.2.2.2.1 s1.2.2.2.2.2.2.1 s1.2.2.2.2.2.2.2.1 s1.2.2.2.2.2.2.2.2) x1l.1 (Rg.on (rgo pk2) hw) x1l.2.1 (Rg.on (rgo pk3) hw) x1l.2.2.1 x1l.2.2.2.1 (Rg.on (rgo pk4) hw) x1l.2.2.2.2 (Rg.on (rgo pk5) hw) (wr (1 + v4.1)) hv5) (fun _ => (zt (zc pk5 (zc pk5 (zc pk5 (zc pk5 (zc pk5 (zc pk5 zn)))))))) R fun x3 => (aq 5 R (pom R) (zc pk5 (zc pk5 (zc pk5 (zc pk5 (zc pk5 (zc pk5 zn)))))) R (aq 6 R (pex R R) (zc pk5 (zc pk5 (zc pk5 (zc pk5 (zc pk5 (zc pk5 zn)))))) R (wa_2 (i := 7) (j := 8) (by kernel_rfl) ?_ ?_))))))))))
 refine ws_pure R (pex R R) (zt (zc pk5 (zc pk5 (zc pk5 (zc pk5 (zc pk5 (zc pk5 zn))))))) R (a1 8 (ws_skipop R (sbx (cs' := [(sl x3.1), (sl x3.2.1), (sl x3.2.2.1), (sl x3.2.2.2.2), iv v5.1.Round, iv v5.1.Year]) tk_29 pk5 R R R R R R R) (sts_past (by kernel_rfl)) ?_))
 exact ae (wqm x3 trivial (su4 R R R R) (zc pz (zc pz (zc pz (zc pz (zc pz (zc pz (zc pk4 zn))))))))
 refine ws_skipop R (sbx (cs' := [(sl x3.1), (sl x3.2.1), (sl x3.2.2.1), (sl x3.2.2.2.2), iv v5.1.Round, iv v5.1.Year]) tk_29 pk5 R R R R R R R) (sts_past (by kernel_rfl)) ?_
 refine a1 7 (ws_pure R (pex R R) (sts_past (by kernel_rfl)) R ?_)
 exact ae (wqm x3 trivial (su4 R R R R) (zc pz (zc pz (zc pz (zc pz (zc pz (zc pz (zc pk4 zn))))))))
 intro x4 _
 exact wqb (wqt (wcg (mv R R (wlq (po_sub R R) R (asg R R (wln (wq_rndw (stwN l1 t1) (x4.1, x4.2.1, x4.2.2.1, x4.2.2.2.1, x4.2.2.2.2) (su4 R R R R) (zc pk5 so6))))))))
 exact wcx (wqe (wqe (wbx (wjm _ (x1l.1, x1l.2.1, x1l.2.2.1, x1l.2.2.2.1, x1l.2.2.2.2) (Sum.inl.inj (stwB l1 t1)) (su3 R R R) so7))))
 intro e1 x2 hp
 obtain rfl : e1 = y1 := hp.symm
 refine wqt (wcr (asg R R (wnt (wcs (wcr (mv R R (bdO t0 fun v6 hv6 t0 => (wlc (co_o1 [box b0p [(sl v0a), iv e1.2.1, iv e1.2.2.1]] fa_20 (zc pz some_refl) R fun w fp hw => c_spec_l01Below w fp b0p a_c0 v0a ((rdo_arg r0) w fp hw) e1.2.1 e1.2.2.1 4 hw.ow hv6) R fun _ => (asg R R (wnt (wlO_inv t0 fun y1 l1 t0 => (wj (J := Int × Int × Int × Int × (List GMember) × (List Int) × (List GEntry) × (List GBooking) × Int × Int) (X := Hd × Hd × Hd × (List Value) × Hd) (fun z => y1 = z) (fun _ _ => [(0, ptr b0p 0), (2, ptr b1 0), (3, ptr b2 0)]) (fun z x => [box b0p [(sl v0a), iv z.2.2.1, iv z.2.2.2.1], box b2 [(sl x.1), (sl x.2.1), (sl x.2.2.1), (sl x.2.2.2.2), iv z.2.2.2.2.2.2.2.2.1, iv z.2.2.2.2.2.2.2.2.2], ownF (sl x.1) z.2.2.2.2.1, ownF (sl x.2.1) z.2.2.2.2.2.1, own (sl x.2.2.1) x.2.2.2.1 z.2.2.2.2.2.2.1, ownF (sl x.2.2.2.2) z.2.2.2.2.2.2.2.1, box b1 [(sl hn), (sl hn), (sl hn), (sl hn), iv 0, iv 0]]) ?_ ?_))))))))))))
 refine wcb (wc_whO (X := Hd × Hd × Hd × (List Value) × Hd) l1 (fun s2 x2l => [(0, ptr b0p 0), (2, ptr b1 0), (3, ptr b2 0), (6, iv s2.1), (7, iv s2.2.1)]) (fun s2 x2l => [box b0p [(sl v0a), iv s2.2.2.1, iv s2.2.2.2.1], box b2 [(sl x2l.1), (sl x2l.2.1), (sl x2l.2.2.1), (sl x2l.2.2.2.2), iv s2.2.2.2.2.2.2.2.2.1, iv s2.2.2.2.2.2.2.2.2.2], ownF (sl x2l.1) s2.2.2.2.2.1, ownF (sl x2l.2.1) s2.2.2.2.2.2.1, own (sl x2l.2.2.1) x2l.2.2.2.1 s2.2.2.2.2.2.2.1, ownF (sl x2l.2.2.2.2) s2.2.2.2.2.2.2.2.1, box b1 [(sl hn), (sl hn), (sl hn), (sl hn), iv 0, iv 0]]) (x2.1, x2.2.1, x2.2.2.1, x2.2.2.2.1, x2.2.2.2.2) (su5 R R R R R) so7 fun m2 s2 x2l l1 => (whO_step l1 fun _ t1 l1 => ?_))
 unfold spec_l38Guild_L2 at t1
 refine wcs (wcs (wcj (X := Unit) (fun _ => True) (fun _ => [(0, ptr b0p 0), (2, ptr b1 0), (3, ptr b2 0), (6, iv s2.1), (7, iv s2.2.1), (42, .bool ((decide (s2.2.1 > 0)) && (decide (((s2.2.2.2.2.1.length : Nat) : Int) > 0))))]) (fun _ => [box b0p [(sl v0a), iv s2.2.2.1, iv s2.2.2.2.1], box b2 [(sl x2l.1), (sl x2l.2.1), (sl x2l.2.2.1), (sl x2l.2.2.2.2), iv s2.2.2.2.2.2.2.2.2.1, iv s2.2.2.2.2.2.2.2.2.2], box b1 [(sl hn), (sl hn), (sl hn), (sl hn), iv 0, iv 0], ownF (sl x2l.1) s2.2.2.2.2.1, ownF (sl x2l.2.1) s2.2.2.2.2.2.1, own (sl x2l.2.2.1) x2l.2.2.2.1 s2.2.2.2.2.2.2.1, ownF (sl x2l.2.2.2.2) s2.2.2.2.2.2.2.2.1]) ?_ ?_))
 refine wcg (mv R R (wlq (po_gtr R R) R (mv R R (wl_fork (t := 37) R (fun h2 => ?_) fun h2 => ?_))))
 exact wgn (j := 2) R R R (wlq (pof fo_29_0 R) R (wgn (j := 2) R R R (wlq (v := (sl x2l.1)) (plx tk_24 pk1 R R) R (wgn (j := 2) R R R (wlq (pln (rgo pk2) el_24 R) R (wgn (j := 2) R R R (wlq (po_gtr R R) R (wlq (pit R R) R (wln (wqm () trivial (yc R (yc R (yc R (yc R (yc R (sub_b R (by rw [h2]; rfl) yn)))))) (zc pz (zc pz (zc pk4 so4)))))))))))))
 exact wgf (j := 2) R R R R R (wgf (j := 2) R R R R R (wgf (j := 2) R R R R R (wgf (j := 2) R R R R R (wlq (pif R R) R (wln (wqm () trivial (yc R (yc R (yc R (yc R (yc R (sub_b R (by rw [h2]; rfl) yn)))))) (zc pz (zc pz (zc pk4 so4)))))))))
 intro _ _
 refine wqt (wcO t1 R (fun h3 t1 => ?_) fun h3 t1 => ?_)
 refine wck (wqt (wcs (wcb (wcr (mv R R (mv R R (bdO t1 fun v7 hv7 t1 => (wlc (co_o1 [box b0p [(sl v0a), iv s2.2.2.1, iv s2.2.2.2.1]] fa_20 (zc pz some_refl) R fun w fp hw => c_spec_l01Below w fp b0p a_c0 v0a ((rdo_arg r0) w fp hw) s2.2.2.1 s2.2.2.2.1 3 hw.ow hv7) R fun _ => (wlq (po_add R R) R (asg R R (wnt (wcr (wlq (po_build R (bd_73_0 2)) R (wle (eal (cs := [iv 0, (sl hn)]) za_73) R fun b3 => (wls (sbx (cs' := [iv 2, (sl hn)]) tk_73 pz R R R R R R R) (wnt (wcs (wcr (asg R R (wnt (lpO_inv t1 fun y2 l2 t1 => (wj (J := (List GCell) × Int × Int) (X := Hd) (fun z => y2 = z) (fun _ _ => [(0, ptr b0p 0), (2, ptr b1 0), (3, ptr b2 0), (6, iv (wr (s2.1 + v7.1))), (7, iv s2.2.1), (8, ptr b3 0)]) (fun z x => [box b3 [iv 2, (sl x)], box b0p [(sl v0a), iv z.2.1, iv z.2.2], box b2 [(sl x2l.1), (sl x2l.2.1), (sl x2l.2.2.1), (sl x2l.2.2.2.2), iv s2.2.2.2.2.2.2.2.2.1, iv s2.2.2.2.2.2.2.2.2.2], box b1 [(sl hn), (sl hn), (sl hn), (sl hn), iv 0, iv 0], ownF (sl x2l.1) s2.2.2.2.2.1, ownF (sl x2l.2.1) s2.2.2.2.2.2.1, own (sl x2l.2.2.1) x2l.2.2.2.1 s2.2.2.2.2.2.2.1, ownF (sl x2l.2.2.2.2) s2.2.2.2.2.2.2.2.1, ownF (sl x) z.1]) ?_ ?_))))))))))))))))))))))
 refine wcb (wcf (X := Hd) l2 (fun k3 s3 x3l => [(0, ptr b0p 0), (2, ptr b1 0), (3, ptr b2 0), (6, iv (wr (s2.1 + v7.1))), (7, iv s2.2.1), (8, ptr b3 0), (9, iv ((k3 : Nat) : Int))]) (fun k3 s3 x3l => [box b3 [iv 2, (sl x3l)], box b0p [(sl v0a), iv s3.2.1, iv s3.2.2], box b2 [(sl x2l.1), (sl x2l.2.1), (sl x2l.2.2.1), (sl x2l.2.2.2.2), iv s2.2.2.2.2.2.2.2.2.1, iv s2.2.2.2.2.2.2.2.2.2], box b1 [(sl hn), (sl hn), (sl hn), (sl hn), iv 0, iv 0], ownF (sl x2l.1) s2.2.2.2.2.1, ownF (sl x2l.2.1) s2.2.2.2.2.2.1, own (sl x2l.2.2.1) x2l.2.2.2.1 s2.2.2.2.2.2.2.1, ownF (sl x2l.2.2.2.2) s2.2.2.2.2.2.2.2.1, ownF (sl x3l) s3.1]) hn (su7 R R R R R R R) (zc pz (zc pz (zc pz (zc pz (zc pz (zc pz (zc pz (zc pz (zc pick_nil zn))))))))) fun k3 s3 x3l hN3 l2 => ?_)
 by_cases hk3 : k3 < 4
 refine fos l2 hk3 fun _ t2 l2 => ?_
 unfold spec_l38Guild_L3 at t2
 have c1 : (decide (((k3 : Nat) : Int) < 4)) = true := ddt (by omega)
 refine wcs (wcr (mv R R (wlq (pls R R) R (wnt (wft R c1 (wck (wqt (wcs (wcb (wcr (mv R R (bdO t2 fun v8 hv8 t2 => (wlc (co_o1 [box b0p [(sl v0a), iv s3.2.1, iv s3.2.2]] fa_29 (zc pk1 some_refl) R fun w fp hw => c_spec_l02Cell w fp b0p a_c0 v0a ((rdo_arg r0) w fp hw) s3.2.1 s3.2.2 hw.ow hv8) R fun _ => (wle (eal (cs := [iv 0, iv 0, iv 0]) za_75) R fun b4 => (wls (sbx (cs' := [iv v8.1.Split, iv v8.1.A, iv v8.1.B]) tk_75 pz R R R R R R R) (wnt (wcg (wlq (pof fo_73_1 R) R (wlq (v := (sl x3l)) (plx tk_71 pk2 R R) R (wlq (v := .agg #[iv v8.1.Split, iv v8.1.A, iv v8.1.B]) (plb tk_75 pz R R R) R (wle (ebs R (sb_71_1 v8.1.Split v8.1.A v8.1.B)) R fun b5 => (gdO t2 fun g1 t2 => (wle (eo_append (xs := s3.1) (ys := ([v8.1] : List GCell)) ak_71 pk10 R R (slin_rd fun _ g => Rg.on (rgo (pbo pz (n := 1) (xs := ([v8.1] : List GCell)) R R (by unfold maxLen; omega))) g) g1) R fun x8 => ?_)))))))))))))))))))))))
 refine wlq (pof fo_73_1 R) R (wls (sbx (cs' := [iv 2, (sl x8)]) tk_71 pk4 R R R R R R R) (wln (wqb (wqt (wcg (mv R R (wlq (po_inc R R (by omega)) R ?_)))))))
 exact asg R R (wln (wq_rnd hk3 (stpN l2 t2) x8 (su7 R R R R R R R) (zc pz (zc pk3 (zc pk3 (zc pk3 (zc pk3 (zc pk3 (zc pk3 (zc pk3 so1))))))))))
 have c1 : (decide (((k3 : Nat) : Int) < 4)) = false := ddf (by omega)
 have en1 := foe l2 hk3
 exact wcs (wcr (mv R R (wlq (pls R R) R (wnt (wff R c1 (wcx (wqe (wqe (wbx (wjm _ x3l (Sum.inl.inj en1) (su6 R R R R R R) so9))))))))))
 intro e3 x7 hp
 obtain rfl : e3 = y2 := hp.symm
 refine wqt (bdO t1 fun v9 hv9 t1 => (gdO t1 fun g2 t1 => (bdO t1 fun v10 hv10 t1 => (wcj (X := Hd × Hd × Hd × (List Value) × Hd) (fun _ => True) (fun z => [(0, ptr b0p 0), (2, ptr b1 0), (3, ptr b2 0), (6, iv (wr (s2.1 + v7.1))), (7, iv s2.2.1)]) (fun z => [box b2 [(sl z.1), (sl z.2.1), (sl z.2.2.1), (sl z.2.2.2.2), iv v10.1.Round, iv v10.1.Year], ownF (sl z.1) v10.1.Members, ownF (sl z.2.1) v10.1.Stock, own (sl z.2.2.1) z.2.2.2.1 v10.1.Entries, ownF (sl z.2.2.2.2) v10.1.Books, box b0p [(sl v0a), iv v9.2.1, iv v9.2.2], box b1 [(sl hn), (sl hn), (sl hn), (sl hn), iv 0, iv 0]]) ?_ ?_))))
 refine wcd [box b3 [iv 2, (sl x7)], box b2 [(sl x2l.1), (sl x2l.2.1), (sl x2l.2.2.1), (sl x2l.2.2.2.2), iv s2.2.2.2.2.2.2.2.2.1, iv s2.2.2.2.2.2.2.2.2.2], box b1 [(sl hn), (sl hn), (sl hn), (sl hn), iv 0, iv 0], ownF (sl x2l.1) s2.2.2.2.2.1, ownF (sl x2l.2.1) s2.2.2.2.2.2.1, own (sl x2l.2.2.1) x2l.2.2.2.1 s2.2.2.2.2.2.2.1, ownF (sl x2l.2.2.2.2) s2.2.2.2.2.2.2.2.1, ownF (sl x7) e3.1] 17 mixed (aq (v := .agg #[(sl x2l.1), (sl x2l.2.1), (sl x2l.2.2.1), (sl x2l.2.2.2.2), iv s2.2.2.2.2.2.2.2.2.1, iv s2.2.2.2.2.2.2.2.2.2]) 0 R (plb tk_29 pk1 R R R) (zc pz (zc pk1 (zc pk1 (zc pk1 (zc pk1 (zc pk1 (zc pk1 (zc pk1 zn)))))))) R (aq 1 R (pof fo_29_0 R) (zc pz (zc pk1 (zc pk1 (zc pk1 (zc pk1 (zc pk1 (zc pk1 (zc pk1 zn)))))))) R (aq (v := (sl x2l.1)) 2 R (plx tk_24 pk1 R R) (zc pz (zc pk1 (zc pk1 (zc pk1 (zc pk1 (zc pk1 (zc pk1 (zc pk1 zn)))))))) R (aq 3 R (pom R) (zc pz (zc pk1 (zc pk1 (zc pk1 (zc pk1 (zc pk1 (zc pk1 (zc pk1 zn)))))))) R (aq 4 R (pof fo_29_0 R) (zc pz (zc pk1 (zc pk1 (zc pk1 (zc pk1 (zc pk1 (zc pk1 (zc pk1 zn)))))))) R (aq (v := (sl x2l.1)) 5 R (plx tk_24 pk1 R R) (zc pz (zc pk1 (zc pk1 (zc pk1 (zc pk1 (zc pk1 (zc pk1 (zc pk1 zn)))))))) R (aq 6 R (pln (rgo pk3) el_24 R) (zc pz (zc pk1 (zc pk1 (zc pk1 (zc pk1 (zc pk1 (zc pk1 (zc pk1 zn)))))))) R (aq 11 R (pom R) (zc pz (zc pk1 (zc pk1 (zc pk1 (zc pk1 (zc pk1 (zc pk1 (zc pk1 zn)))))))) R (aq (v := .agg #[iv 2, (sl x7)]) 12 R (plb tk_73 pz R R R) (zc pz (zc pk1 (zc pk1 (zc pk1 (zc pk1 (zc pk1 (zc pk1 (zc pk1 zn)))))))) R (a1 7 (wsc R (co_o1 [box b0p [(sl v0a), iv e3.2.1, iv e3.2.2]] fa_20 (zc pk1 some_refl) R fun w fp hw => c_spec_l01Below w fp b0p a_c0 v0a ((rdo_arg r0) w fp hw) e3.2.1 e3.2.2 ((s2.2.2.2.2.1.length : Nat) : Int) hw.ow hv9) (fun _ => (zt (zc pk1 (zc pk1 (zc pk1 (zc pk1 (zc pk1 (zc pk1 (zc pk1 (zc pk1 zn)))))))))) R fun _ => (aq 8 R (po_ixr (rgo pk3) el_24 R R g2.1 g2.2) (zc pk1 (zc pk1 (zc pk1 (zc pk1 (zc pk1 (zc pk1 (zc pk1 (zc pk1 zn)))))))) R (aq 9 R (po_sfldr (rgo pk3) (ix_lt g2) fo_79_0 R) (zc pk1 (zc pk1 (zc pk1 (zc pk1 (zc pk1 (zc pk1 (zc pk1 (zc pk1 zn)))))))) R (aq (v := iv ((gx s2.2.2.2.2.1 ((v9.1).toNat)).Number)) 10 R (po_ldf (rgo pk3) tk_3 R (ix_lt g2) R) (zc pk1 (zc pk1 (zc pk1 (zc pk1 (zc pk1 (zc pk1 (zc pk1 (zc pk1 zn)))))))) R (a1 13 (wsc R (co_c4 fa_30 R fun w hw => c_spec_Submit w (GGuild.mk s2.2.2.2.2.1 s2.2.2.2.2.2.1 s2.2.2.2.2.2.2.1 s2.2.2.2.2.2.2.2.1 s2.2.2.2.2.2.2.2.2.1 s2.2.2.2.2.2.2.2.2.2) x2l.1 (Rg.on (rgo pk4) hw) x2l.2.1 (Rg.on (rgo pk5) hw) x2l.2.2.1 x2l.2.2.2.1 (Rg.on (rgo pk6) hw) x2l.2.2.2.2 (Rg.on (rgo pk7) hw) ((gx s2.2.2.2.2.1 ((v9.1).toNat)).Number) (wr (s2.1 + v7.1)) (GBlock.mk 2 e3.1) x7 (Rg.on (rgo pk8) hw) hv10) (fun _ => (zt (zc pk5 (zc pk5 (zc pk5 (zc pk5 (zc pk5 (zc pk5 (zc pk5 (zc pk5 zn)))))))))) R fun x9 => (aq 14 R (pom R) (zc pk5 (zc pk5 (zc pk5 (zc pk5 (zc pk5 (zc pk5 (zc pk5 (zc pk5 zn)))))))) R (aq 15 R (pex R R) (zc pk5 (zc pk5 (zc pk5 (zc pk5 (zc pk5 (zc pk5 (zc pk5 (zc pk5 zn)))))))) R (wa_2 (i := 16) (j := 17) (by kernel_rfl) ?_ ?_)))))))))))))))))))
 refine ws_pure R (pex R R) (zt (zc pk5 (zc pk5 (zc pk5 (zc pk5 (zc pk5 (zc pk5 (zc pk5 (zc pk5 zn))))))))) R (a1 17 (ws_skipop R (sbx (cs' := [(sl x9.1), (sl x9.2.1), (sl x9.2.2.1), (sl x9.2.2.2.2), iv v10.1.Round, iv v10.1.Year]) tk_29 pk6 R R R R R R R) (sts_past (by kernel_rfl)) ?_))
 exact ae (wqm x9 trivial (su5 R R R R R) (zc pz (zc pz (zc pz (zc pz (zc pz (zc pz (zc pk1 zn))))))))
 refine ws_skipop R (sbx (cs' := [(sl x9.1), (sl x9.2.1), (sl x9.2.2.1), (sl x9.2.2.2.2), iv v10.1.Round, iv v10.1.Year]) tk_29 pk6 R R R R R R R) (sts_past (by kernel_rfl)) ?_
 refine a1 16 (ws_pure R (pex R R) (sts_past (by kernel_rfl)) R ?_)
 exact ae (wqm x9 trivial (su5 R R R R R) (zc pz (zc pz (zc pz (zc pz (zc pz (zc pz (zc pk1 zn))))))))
 intro x10 _
 exact wqb (wqt (wcg (mv R R (wlq (po_sub R R) R (asg R R (wln (wq_rndw (stwN l1 t1) (x10.1, x10.2.1, x10.2.2.1, x10.2.2.2.1, x10.2.2.2.2) (su5 R R R R R) (zc pk5 so6))))))))
 exact wcx (wqe (wqe (wbx (wjm _ (x2l.1, x2l.2.1, x2l.2.2.1, x2l.2.2.2.1, x2l.2.2.2.2) (Sum.inl.inj (stwB l1 t1)) (su3 R R R) (zc pz (zc pz (zc pk1 (zc pk1 (zc pk1 (zc pk1 so1))))))))))
 intro e2 x5 hp
 obtain rfl : e2 = y1 := hp.symm
 refine wqt (wcs (wcr (mv R R (bdO t0 fun v11 hv11 t0 => (wlc (co_o1 [box b0p [(sl v0a), iv e2.2.2.1, iv e2.2.2.2.1]] fa_20 (zc pz some_refl) R fun w fp hw => c_spec_l01Below w fp b0p a_c0 v0a ((rdo_arg r0) w fp hw) e2.2.2.1 e2.2.2.2.1 4 hw.ow hv11) R fun _ => (asg R R (wnt (wlO_inv t0 fun y1 l1 t0 => (wj (J := Int × (List GMember) × (List Int) × (List GEntry) × (List GBooking) × Int × Int) (X := Hd × Hd × Hd × (List Value) × Hd) (fun z => y1 = z) (fun _ _ => [(0, ptr b0p 0), (2, ptr b1 0), (3, ptr b2 0)]) (fun z x => [box b0p [(sl v0a), iv v11.2.1, iv v11.2.2], box b2 [(sl x.1), (sl x.2.1), (sl x.2.2.1), (sl x.2.2.2.2), iv z.2.2.2.2.2.1, iv z.2.2.2.2.2.2], ownF (sl x.1) z.2.1, ownF (sl x.2.1) z.2.2.1, own (sl x.2.2.1) x.2.2.2.1 z.2.2.2.1, ownF (sl x.2.2.2.2) z.2.2.2.2.1, box b1 [(sl hn), (sl hn), (sl hn), (sl hn), iv 0, iv 0]]) ?_ ?_)))))))))
 refine wcb (wc_whO (X := Hd × Hd × Hd × (List Value) × Hd) l1 (fun s4 x4l => [(0, ptr b0p 0), (2, ptr b1 0), (3, ptr b2 0), (11, iv s4.1)]) (fun s4 x4l => [box b0p [(sl v0a), iv v11.2.1, iv v11.2.2], box b2 [(sl x4l.1), (sl x4l.2.1), (sl x4l.2.2.1), (sl x4l.2.2.2.2), iv s4.2.2.2.2.2.1, iv s4.2.2.2.2.2.2], ownF (sl x4l.1) s4.2.1, ownF (sl x4l.2.1) s4.2.2.1, own (sl x4l.2.2.1) x4l.2.2.2.1 s4.2.2.2.1, ownF (sl x4l.2.2.2.2) s4.2.2.2.2.1, box b1 [(sl hn), (sl hn), (sl hn), (sl hn), iv 0, iv 0]]) (x5.1, x5.2.1, x5.2.2.1, x5.2.2.2.1, x5.2.2.2.2) (su4 R R R R) so7 fun m4 s4 x4l l1 => (whO_step l1 fun _ t1 l1 => ?_))
 unfold spec_l38Guild_L4 at t1
 refine wcs (wcr (mv R R (wlq (po_gtr R R) R (wnt (wcO t1 R (fun h4 t1 => ?_) fun h4 t1 => ?_)))))
 exact wck (wqt (wcs (wcb (wcg (wlq (v := .agg #[(sl x4l.1), (sl x4l.2.1), (sl x4l.2.2.1), (sl x4l.2.2.2.2), iv s4.2.2.2.2.2.1, iv s4.2.2.2.2.2.2]) (plb tk_29 pk1 R R R) R (bdO t1 fun v12 hv12 t1 => (wlc (co_c4 fa_31 R fun w hw => c_spec_SwapRound w (GGuild.mk s4.2.1 s4.2.2.1 s4.2.2.2.1 s4.2.2.2.2.1 s4.2.2.2.2.2.1 s4.2.2.2.2.2.2) x4l.1 (Rg.on (rgo pk2) hw) x4l.2.1 (Rg.on (rgo pk3) hw) x4l.2.2.1 x4l.2.2.2.1 (Rg.on (rgo pk4) hw) x4l.2.2.2.2 (Rg.on (rgo pk5) hw) hv12) R fun x12 => (mv R R (wlq (pex R R) R (wlq (pex R R) R (wls (sbx (cs' := [(sl x12.1), (sl x12.2.1), (sl x12.2.2.1), (sl x12.2.2.2.2), iv v12.1.Round, iv v12.1.Year]) tk_29 pk5 R R R R R R R) (wln (wqb (wqt (wcg (mv R R (wlq (po_sub R R) R (asg R R (wln (wq_rndw (stwN l1 t1) (x12.1, x12.2.1, x12.2.2.1, x12.2.2.2.1, x12.2.2.2.2) (su4 R R R R) (zc pk5 (zc pz (zc pz (zc pz (zc pz (zc pz (zc pk4 zn)))))))))))))))))))))))))))
 exact wcx (wqe (wqe (wbx (wjm _ (x4l.1, x4l.2.1, x4l.2.2.1, x4l.2.2.2.1, x4l.2.2.2.2) (Sum.inl.inj (stwB l1 t1)) (su3 R R R) so7))))
 intro e4 x11 hp
 obtain rfl : e4 = y1 := hp.symm
 refine wqt (wcs (wcr (mv R R (bdO t0 fun v13 hv13 t0 => (wlc (co_o1 [box b0p [(sl v0a), iv v11.2.1, iv v11.2.2]] fa_17 (zc pz some_refl) R fun w fp hw => c_spec_l01Once w fp b0p a_c0 v0a ((rdo_arg r0) w fp hw) v11.2.1 v11.2.2 3 hw.ow hv13) R fun _ => (wnt (bdO t0 fun y1 t1 t0 => (wj (J := (List Int) × Gl01Cur) (X := Hd) (fun z => y1 = z) (fun _ _ => [(2, ptr b1 0), (3, ptr b2 0)]) (fun z x => [box b2 [(sl x11.1), (sl x), (sl x11.2.2.1), (sl x11.2.2.2.2), iv e4.2.2.2.2.2.1, iv e4.2.2.2.2.2.2], box b0p [(sl v0a), iv ((z.2).i), iv ((z.2).h)], box b1 [(sl hn), (sl hn), (sl hn), (sl hn), iv 0, iv 0], ownF (sl x11.1) e4.2.1, ownF (sl x) z.1, own (sl x11.2.2.1) x11.2.2.2.1 e4.2.2.2.1, ownF (sl x11.2.2.2.2) e4.2.2.2.2.1]) ?_ ?_))))))))
 refine wcO t1 R (fun h5 t1 => ?_) fun h5 t1 => ?_
 exact wcg (mv R R (bdO t1 fun v14 hv14 t1 => (wlc (co_o2 [box b0p [(sl v0a), iv v13.2.1, iv v13.2.2]] fa_32 (zc pz some_refl) R fun w fp hw => c_spec_l31Stock w fp b0p a_c0 v0a ((rdo_arg r0) w fp hw) v13.2.1 v13.2.2 60 hw.ow hv14) R fun x14 => (wlq (pof fo_29_1 R) R (wls (sbx (cs' := [(sl x11.1), (sl x14), (sl x11.2.2.1), (sl x11.2.2.2.2), iv e4.2.2.2.2.2.1, iv e4.2.2.2.2.2.2]) tk_25 pk2 R R R R R R R) (wln (wjm _ x14 (mtE t1) (su2 R R) (zc pz (zc pk1 (zc pk5 (zc pk1 (zc pz (zc pk1 (zc pk1 zn))))))))))))))
 exact wck (wjm _ x11.2.1 (mtE t1) (su2 R R) (zc pk1 (zc pz (zc pk4 so4))))
 intro j2 x13 hp
 obtain rfl : j2 = y1 := hp.symm
 refine wqt (wcr (wlq (v := .agg #[(sl x11.1), (sl x13), (sl x11.2.2.1), (sl x11.2.2.2.2), iv e4.2.2.2.2.2.1, iv e4.2.2.2.2.2.2]) (plb tk_29 pz R R R) R (wls (sbx (cs' := [(sl x11.1), (sl x13), (sl x11.2.2.1), (sl x11.2.2.2.2), iv e4.2.2.2.2.2.1, iv e4.2.2.2.2.2.2]) tk_29 pk2 R R R R R R R) (wnt (wct ?_)))))
 obtain rfl := oi t0
 exact wqc R tk_29 R pz R fun w hw => ⟨(x11.1, x13, x11.2.2.1, x11.2.2.2.1, x11.2.2.2.2), R, hw.weak (zc pk3 (zc pk3 (zc pk3 (zc pk3 (zc pk2 zn)))))⟩

theorem c_spec_l39Guild (w : World) (fp : List Nat) (b0p : Nat) (a_c0 : List UInt8) (v0a : Hd) (r0 : rdF w (dm w fp) (sl v0a) a_c0) (a_c1 : Int) (a_c2 : Int) (o : Ow w [box b0p [(sl v0a), .int .i64 a_c1, .int .i64 a_c2]] fp) {r : GGuild × Int × Int} (t0 : spec_l39Guild a_c0 a_c1 a_c2 = some r) : Calls Tryz.prog 9 #[ptr b0p 0] w fun e w' => ∃ x : Hd × Hd × Hd × (List Value) × Hd, e = .returned (.agg #[(sl x.1), (sl x.2.1), (sl x.2.2.1), (sl x.2.2.2.2), .int .i64 r.1.Round, .int .i64 r.1.Year]) ∧ SH w fp [ownF (sl x.1) r.1.Members, ownF (sl x.2.1) r.1.Stock, own (sl x.2.2.1) x.2.2.2.1 r.1.Entries, ownF (sl x.2.2.2.2) r.1.Books, box b0p [(sl v0a), .int .i64 r.2.1, .int .i64 r.2.2]] w' := by
 refine calls_of_wc_own (args := [_]) o Tryz.func9 R Tryz.ntmps9 R ?_
 unfold spec_l39Guild at t0
 refine wcr (wle (eal (cs := [(sl hn), (sl hn), (sl hn), (sl hn), iv 0, iv 0]) za_29) R fun b1 => (wnt (wcs (wcr (mv R R (bdO t0 fun v1 hv1 t0 => (wlc (co_o1 [box b0p [(sl v0a), iv a_c1, iv a_c2]] fa_17 (zc pk1 some_refl) R fun w fp hw => c_spec_l01Once w fp b0p a_c0 v0a ((rdo_arg r0) w fp hw) a_c1 a_c2 2 hw.ow hv1) R fun _ => (wnt (wcO t0 R (fun h1 t0 => ?_) fun h1 t0 => ?_)))))))))
 refine wcr (bdO t0 fun v2 hv2 t0 => (wlc (co_c4 fa_18 R fun w hw => c_spec_SampleGuild w hv2) R fun x1 => (wls (sbx (cs' := [(sl x1.1), (sl x1.2.1), (sl x1.2.2.1), (sl x1.2.2.2.2), iv v2.Round, iv v2.Year]) tk_29 pk5 R R R R R R R) (wnt (wct (wqr ?_))))))
 obtain rfl := oi t0
 exact wqc R tk_29 R pz R fun w hw => ⟨(x1.1, x1.2.1, x1.2.2.1, x1.2.2.2.1, x1.2.2.2.2), R, hw.weak (zc pk1 (zc pk1 (zc pk1 (zc pk1 (zc pk1 zn)))))⟩
 refine wck (wqt (wcr (mv R R (bdO t0 fun v3 hv3 t0 => (wlc (co_o5 [box b0p [(sl v0a), iv v1.2.1, iv v1.2.2]] fa_19 (zc pz some_refl) R fun w fp hw => c_spec_l38Guild w fp b0p a_c0 v0a ((rdo_arg r0) w fp hw) v1.2.1 v1.2.2 hw.ow hv3) R fun x2 => (wls (sbx (cs' := [(sl x2.1), (sl x2.2.1), (sl x2.2.2.1), (sl x2.2.2.2.2), iv v3.1.Round, iv v3.1.Year]) tk_29 pk5 R R R R R R R) (wnt (wct ?_))))))))
 obtain rfl := oi t0
 exact wqc R tk_29 R pz R fun w hw => ⟨(x2.1, x2.2.1, x2.2.2.1, x2.2.2.2.1, x2.2.2.2.2), R, hw.weak (zc pk1 (zc pk1 (zc pk1 (zc pk1 (zc pk1 zn)))))⟩

theorem c_spec_l39Act (w : World) (fp : List Nat) (b0p : Nat) (a_c0 : List UInt8) (v0a : Hd) (r0 : rdF w (dm w fp) (sl v0a) a_c0) (a_c1 : Int) (a_c2 : Int) (o : Ow w [box b0p [(sl v0a), .int .i64 a_c1, .int .i64 a_c2]] fp) {r : GAct × Int × Int} (t0 : spec_l39Act a_c0 a_c1 a_c2 = some r) : Calls Tryz.prog 21 #[ptr b0p 0] w fun e w' => ∃ _x : Unit, e = .returned (.agg #[.int .i64 r.1.Kind, .int .i64 r.1.A, .int .i64 r.1.B]) ∧ SH w fp [box b0p [(sl v0a), .int .i64 r.2.1, .int .i64 r.2.2]] w' := by
 refine calls_of_wc_own (args := [_]) o Tryz.func21 R Tryz.ntmps21 R ?_
 unfold spec_l39Act at t0
 refine wcr (wle (eal (cs := [iv 0, iv 0, iv 0]) za_36) R fun b1 => (wnt (wcs (wcr (mv R R (bdO t0 fun v1 hv1 t0 => (wlc (co_o1 [box b0p [(sl v0a), iv a_c1, iv a_c2]] fa_20 (zc pk1 some_refl) R fun w fp hw => c_spec_l01Below w fp b0p a_c0 v0a ((rdo_arg r0) w fp hw) a_c1 a_c2 8 hw.ow hv1) R fun _ => (wnt (wcb (wcr (wlq (pol R R) R (asg R R (wnt (wcO t0 R (fun h1 t0 => ?_) fun h1 t0 => ?_))))))))))))))
 refine wcr (mv R R (bdO t0 fun v2 hv2 t0 => (wlc (co_o1 [box b0p [(sl v0a), iv v1.2.1, iv v1.2.2]] fa_20 (zc pz some_refl) R fun w fp hw => c_spec_l01Below w fp b0p a_c0 v0a ((rdo_arg r0) w fp hw) v1.2.1 v1.2.2 8 hw.ow hv2) R fun _ => (wlq (po_add R R) R (wlq (po_build R (bd_36_0_1 1 (wr (1 + v2.1)))) R (wls (sbx (cs' := [iv 1, iv (wr (1 + v2.1)), iv 0]) tk_36 pk1 R R R R R R R) (wnt (wct (wbr (wqr ?_))))))))))
 obtain rfl := oi t0
 exact wqc R tk_36 R pz R fun w hw => ⟨(), R, hw.weak (zc pk1 zn)⟩
 refine wcs (wcr (wlq (pol R R) R (asg R R (wnt (wcj (X := Unit) (fun _ => True) (fun _ => [(0, ptr b0p 0), (2, ptr b1 0), (4, iv v1.1), (11, .bool ((v1.1 == 1) || (v1.1 == 2)))]) (fun _ => [box b0p [(sl v0a), iv v1.2.1, iv v1.2.2], box b1 [iv 0, iv 0, iv 0]]) ?_ ?_)))))
 refine wc_cond R (fun h2 => ?_) fun h2 => ?_
 exact wck (wqm () trivial (yc R (yc R (yc R (sub_b R (by rw [h2]; rfl) yn)))) so2)
 exact wcg (wlq (pol R R) R (asg R R (wln (wqm () trivial (yc R (yc R (yc R (sub_b R (by rw [h2]; rfl) yn)))) so2))))
 intro _ _
 refine wqt (wcO t0 R (fun h3 t0 => ?_) fun h3 t0 => ?_)
 refine wcr (mv R R (bdO t0 fun v3 hv3 t0 => (wlc (co_o1 [box b0p [(sl v0a), iv v1.2.1, iv v1.2.2]] fa_20 (zc pz some_refl) R fun w fp hw => c_spec_l01Below w fp b0p a_c0 v0a ((rdo_arg r0) w fp hw) v1.2.1 v1.2.2 5 hw.ow hv3) R fun _ => (wlq (po_add R R) R (mv R R (bdO t0 fun v4 hv4 t0 => (wlc (co_o1 [box b0p [(sl v0a), iv v3.2.1, iv v3.2.2]] fa_20 (zc pz some_refl) R fun w fp hw => c_spec_l01Below w fp b0p a_c0 v0a ((rdo_arg r0) w fp hw) v3.2.1 v3.2.2 10 hw.ow hv4) R fun _ => (wlq (po_build R (bd_36_0_1_2 2 (wr (1 + v3.1)) v4.1)) R (wls (sbx (cs' := [iv 2, iv (wr (1 + v3.1)), iv v4.1]) tk_36 pk1 R R R R R R R) (wnt (wct (wbr (wqr ?_)))))))))))))
 obtain rfl := oi t0
 exact wqc R tk_36 R pz R fun w hw => ⟨(), R, hw.weak (zc pk1 zn)⟩
 refine wcr (wlq (pol R R) R (asg R R (wnt (wcO t0 R (fun h4 t0 => ?_) fun h4 t0 => ?_))))
 refine wcr (mv R R (bdO t0 fun v5 hv5 t0 => (wlc (co_o1 [box b0p [(sl v0a), iv v1.2.1, iv v1.2.2]] fa_20 (zc pz some_refl) R fun w fp hw => c_spec_l01Below w fp b0p a_c0 v0a ((rdo_arg r0) w fp hw) v1.2.1 v1.2.2 4 hw.ow hv5) R fun _ => (wlq (po_build R (bd_36_0_1 3 v5.1)) R (wls (sbx (cs' := [iv 3, iv v5.1, iv 0]) tk_36 pk1 R R R R R R R) (wnt (wct (wbr (wqr ?_)))))))))
 obtain rfl := oi t0
 exact wqc R tk_36 R pz R fun w hw => ⟨(), R, hw.weak (zc pk1 zn)⟩
 refine wcs (wcr (wlq (pol R R) R (asg R R (wnt (wcj (X := Unit) (fun _ => True) (fun _ => [(0, ptr b0p 0), (2, ptr b1 0), (4, iv v1.1), (25, .bool ((v1.1 == 4) || (v1.1 == 5)))]) (fun _ => [box b0p [(sl v0a), iv v1.2.1, iv v1.2.2], box b1 [iv 0, iv 0, iv 0]]) ?_ ?_)))))
 refine wc_cond R (fun h5 => ?_) fun h5 => ?_
 exact wck (wqm () trivial (yc R (yc R (yc R (sub_b R (by rw [h5]; rfl) yn)))) so2)
 exact wcg (wlq (pol R R) R (asg R R (wln (wqm () trivial (yc R (yc R (yc R (sub_b R (by rw [h5]; rfl) yn)))) so2))))
 intro _ _
 refine wqt (wcO t0 R (fun h6 t0 => ?_) fun h6 t0 => ?_)
 refine wcr (wlq (po_build R (bd_36_0 4)) R (wls (sbx (cs' := [iv 4, iv 0, iv 0]) tk_36 pk1 R R R R R R R) (wnt (wct (wbr (wqr ?_))))))
 obtain rfl := oi t0
 exact wqc R tk_36 R pz R fun w hw => ⟨(), R, hw.weak (zc pk1 zn)⟩
 refine wcr (wlq (pol R R) R (asg R R (wnt (wcO t0 R (fun h7 t0 => ?_) fun h7 t0 => ?_))))
 refine wcr (wlq (po_build R (bd_36_0 5)) R (wls (sbx (cs' := [iv 5, iv 0, iv 0]) tk_36 pk1 R R R R R R R) (wnt (wct (wbr (wqr ?_))))))
 obtain rfl := oi t0
 exact wqc R tk_36 R pz R fun w hw => ⟨(), R, hw.weak (zc pk1 zn)⟩
 refine wck (wqb (wqt (wcr (mv R R (bdO t0 fun v6 hv6 t0 => (wlc (co_o1 [box b0p [(sl v0a), iv v1.2.1, iv v1.2.2]] fa_20 (zc pz some_refl) R fun w fp hw => c_spec_l01Below w fp b0p a_c0 v0a ((rdo_arg r0) w fp hw) v1.2.1 v1.2.2 4 hw.ow hv6) R fun _ => (wlq (po_build R (bd_36_0_1 6 v6.1)) R (wls (sbx (cs' := [iv 6, iv v6.1, iv 0]) tk_36 pk1 R R R R R R R) (wnt (wct ?_))))))))))
 obtain rfl := oi t0
 exact wqc R tk_36 R pz R fun w hw => ⟨(), R, hw.weak (zc pk1 zn)⟩

theorem c_spec_l39List (w : World) (fp : List Nat) (b0p : Nat) (a_c0 : List UInt8) (v0a : Hd) (r0 : rdF w (dm w fp) (sl v0a) a_c0) (a_c1 : Int) (a_c2 : Int) (o : Ow w [box b0p [(sl v0a), .int .i64 a_c1, .int .i64 a_c2]] fp) {r : (List GAct) × Int × Int} (t0 : spec_l39List a_c0 a_c1 a_c2 = some r) : Calls Tryz.prog 10 #[ptr b0p 0] w fun e w' => ∃ x : Hd, e = .returned ((sl x)) ∧ SH w fp [ownF (sl x) r.1, box b0p [(sl v0a), .int .i64 r.2.1, .int .i64 r.2.2]] w' := by
 refine calls_of_wc_own (args := [_]) o Tryz.func10 R Tryz.ntmps10 R ?_
 unfold spec_l39List at t0
 refine wcr (asg R R (wnt (wcr (wle (ebs R sb_30_0) R fun b1 => (asg R R (wnt (wcr (mv R R (bdO t0 fun v1 hv1 t0 => (wlc (co_o1 [box b0p [(sl v0a), iv a_c1, iv a_c2]] fa_20 (zc pk1 some_refl) R fun w fp hw => c_spec_l01Below w fp b0p a_c0 v0a ((rdo_arg r0) w fp hw) a_c1 a_c2 14 hw.ow hv1) R fun _ => (asg R R (wnt (wcs (wcr (asg R R (wnt (gdO t0 fun g1 t0 => (lpO_inv t0 fun y1 l1 t0 => (wj (J := (List GAct) × Int × Int) (X := Hd) (fun z => y1 = z) (fun _ x => [(3, (sl x))]) (fun z x => [box b0p [(sl v0a), iv z.2.1, iv z.2.2], ownF (sl x) z.1]) ?_ ?_)))))))))))))))))))
 refine wcb (wcf (X := Hd) l1 (fun k1 s1 x1l => [(0, ptr b0p 0), (3, (sl x1l)), (4, iv v1.1), (5, iv ((k1 : Nat) : Int))]) (fun k1 s1 x1l => [box b0p [(sl v0a), iv s1.2.1, iv s1.2.2], ownF (sl x1l) s1.1]) (⟨some ⟨b1, 0, none⟩, 0, 0⟩ : Hd) (su4 R R R R) (zc pz (zc (pbo pz (n := 0) (xs := ([] : List GAct)) R R (by unfold maxLen; omega)) zn)) fun k1 s1 x1l hN1 l1 => ?_)
 by_cases hk1 : k1 < (v1.1).toNat
 refine fos l1 hk1 fun _ t1 l1 => ?_
 unfold spec_l39List_L1 at t1
 have c1 : (decide (((k1 : Nat) : Int) < v1.1)) = true := ddt (by omega)
 refine wcs (wcr (mv R R (mv R R (wlq (pls R R) R (wnt (wft R c1 (wck (wqt (wcs (wcb (wcr (mv R R (bdO t1 fun v2 hv2 t1 => (wlc (co_o1 [box b0p [(sl v0a), iv s1.2.1, iv s1.2.2]] fa_21 (zc pz some_refl) R fun w fp hw => c_spec_l39Act w fp b0p a_c0 v0a ((rdo_arg r0) w fp hw) s1.2.1 s1.2.2 hw.ow hv2) R fun _ => (wle (eal (cs := [iv 0, iv 0, iv 0]) za_36) R fun b2 => (wls (sbx (cs' := [iv v2.1.Kind, iv v2.1.A, iv v2.1.B]) tk_36 pz R R R R R R R) (wnt (wcg (mv R R (wlq (v := .agg #[iv v2.1.Kind, iv v2.1.A, iv v2.1.B]) (plb tk_36 pz R R R) R (wle (ebs R (sb_30_1 v2.1.Kind v2.1.A v2.1.B)) R fun b3 => (gdO t1 fun g2 t1 => (wle (eo_append (xs := s1.1) (ys := ([v2.1] : List GAct)) ak_30 pk3 R R (slin_rd fun _ g => Rg.on (rgo (pbo pz (n := 1) (xs := ([v2.1] : List GAct)) R R (by unfold maxLen; omega))) g) g2) R fun x2 => ?_)))))))))))))))))))))))
 refine asg R R (wln (wqb (wqt (wcg (mv R R (wlq (po_inc R R (by omega)) R ?_))))))
 exact asg R R (wln (wq_rnd hk1 (stpN l1 t1) x2 (su4 R R R R) (zc pk3 so1)))
 have c1 : (decide (((k1 : Nat) : Int) < v1.1)) = false := ddf (by omega)
 have en1 := foe l1 hk1
 exact wcs (wcr (mv R R (mv R R (wlq (pls R R) R (wnt (wff R c1 (wcx (wqe (wqe (wbx (wjm _ x1l (Sum.inl.inj en1) (su1 R) so2)))))))))))
 intro e1 x1 hp
 obtain rfl : e1 = y1 := hp.symm
 refine wqt (wcr (mv R R (asg R R (wnt (wct ?_)))))
 obtain rfl := oi t0
 exact wq1 R R fun w hw => ⟨x1, R, hw.weak (zc pk1 so1)⟩

theorem c_spec_DrawActs (w : World) (a_code : List UInt8) (v0a : Hd) (r0 : rdF w (dm w []) (sl v0a) a_code) {r : GGuild × (List GAct)} (t0 : spec_DrawActs a_code = some r) : Calls Tryz.prog 5 #[(sl v0a)] w fun e w' => ∃ x : Hd × Hd × Hd × (List Value) × Hd × Hd, e = .returned (.tuple #[.agg #[(sl x.1), (sl x.2.1), (sl x.2.2.1), (sl x.2.2.2.2.1), .int .i64 r.1.Round, .int .i64 r.1.Year], (sl x.2.2.2.2.2)]) ∧ SH w [] [ownF (sl x.1) r.1.Members, ownF (sl x.2.1) r.1.Stock, own (sl x.2.2.1) x.2.2.2.1 r.1.Entries, ownF (sl x.2.2.2.2.1) r.1.Books, ownF (sl x.2.2.2.2.2) r.2] w' := by
 refine cwc (args := [_]) Tryz.func5 R Tryz.ntmps5 R ?_
 unfold spec_DrawActs at t0
 refine wcr (wle (eal (cs := [(sl hn), (sl hn), (sl hn), (sl hn), iv 0, iv 0]) za_29) R fun b1 => (asg R R (wnt (wcr (mv R R (bdO t0 fun v1 hv1 t0 => (wlc (cz1 fa_8 R fun w hw => c_spec_l01New w a_code v0a (ra r0 hw) hv1) R fun x1 => (asg R R (wnt (wcr (mv R R (bdO t0 fun v2 hv2 t0 => (wlc (co_o5 [box x1 [(sl v0a), iv v1.1, iv v1.2]] fa_9 (zc pz some_refl) R fun w fp hw => c_spec_l39Guild w fp x1 a_code v0a ((rdo_arg r0) w fp hw) v1.1 v1.2 hw.ow hv2) R fun x2 => (wle (eal (cs := [(sl hn), (sl hn), (sl hn), (sl hn), iv 0, iv 0]) za_29) R fun b2 => (wls (sbx (cs' := [(sl x2.1), (sl x2.2.1), (sl x2.2.2.1), (sl x2.2.2.2.2), iv v2.1.Round, iv v2.1.Year]) tk_29 pz R R R R R R R) (wnt (wcs (wcd [box b2 [(sl x2.1), (sl x2.2.1), (sl x2.2.2.1), (sl x2.2.2.2.2), iv v2.1.Round, iv v2.1.Year], ownF (sl x2.1) v2.1.Members, ownF (sl x2.2.1) v2.1.Stock, own (sl x2.2.2.1) x2.2.2.2.1 v2.1.Entries, ownF (sl x2.2.2.2.2) v2.1.Books] 5 mixed (aq (v := .agg #[(sl x2.1), (sl x2.2.1), (sl x2.2.2.1), (sl x2.2.2.2.2), iv v2.1.Round, iv v2.1.Year]) 0 R (plb tk_29 pz R R R) so5 R (aq 1 R (pom R) so5 R (a1 2 (bdO t0 fun v3 hv3 t0 => (wsc R (co_o2 [box x1 [(sl v0a), iv v2.2.1, iv v2.2.2]] fa_10 (zc pk5 some_refl) R fun w fp hw => c_spec_l39List w fp x1 a_code v0a ((rdo_arg r0) w fp hw) v2.2.1 v2.2.2 hw.ow hv3) (fun _ => (zt (zc pk2 (zc pk2 (zc pk2 (zc pk2 (zc pk2 zn))))))) R fun x3 => (a1 3 (ws_skipop R (sbx (cs' := [(sl x2.1), (sl x2.2.1), (sl x2.2.2.1), (sl x2.2.2.2.2), iv v2.1.Round, iv v2.1.Year]) tk_29 pk7 R R R R R R R) (zt (zc pk3 (zc pk3 (zc pk3 (zc pk3 (zc pk3 zn)))))) (aq 4 R (po_assign R) (zc pk3 (zc pk3 (zc pk3 (zc pk3 (zc pk3 zn))))) R (ae (wqt (wct ?_)))))))))))))))))))))))))))))
 obtain rfl := oi t0
 exact wq_retc1 R tk_29 R R pz R fun w hw => ⟨(x2.1, x2.2.1, x2.2.2.1, x2.2.2.2.1, x2.2.2.2.2, x3), R, hw.weak (zc pk4 (zc pk4 (zc pk4 (zc pk4 (zc pk1 zn)))))⟩

theorem c_impl_within (w : World) (a_n : Int) (a_a : Int) (a_b : Int) {r : Bool} (t0 : impl_within a_n a_a a_b = some r) : Calls Tryz.prog 14 #[.int .i64 a_n, .int .i64 a_a, .int .i64 a_b] w fun e w' => e = .returned (.bool r) ∧ SH w [] [] w' := by
 refine cwc (args := [_, _, _]) Tryz.func14 R Tryz.ntmps14 R ?_
 unfold impl_within at t0
 refine wcr (asg R R (wnt (wcs (wcj (X := Unit) (fun _ => True) (fun _ => [(6, .bool ((decide (a_n ≥ a_a)) && (decide (a_n ≤ a_b))))]) (fun _ => []) ?_ ?_))))
 refine wcg (mv R R (mv R R (wlq (po_geq R R) R (mv R R (wl_fork (t := 10) R (fun h1 => ?_) fun h1 => ?_)))))
 exact wgn (j := 3) R R R (mv R R (wgn (j := 3) R R R (mv R R (wgn (j := 3) R R R (wlq (po_leq R R) R (wlq (pit R R) R (asg R R (wln (wqm () trivial (sub_b R (by rw [h1]; rfl) yn) zn)))))))))
 exact wgf (j := 3) R R R R R (wgf (j := 3) R R R R R (wgf (j := 3) R R R R R (wlq (pif R R) R (asg R R (wln (wqm () trivial (sub_b R (by rw [h1]; rfl) yn) zn))))))
 intro _ _
 refine wqt (wct ?_)
 obtain rfl := oi t0
 exact wq1 R R fun w hw => ⟨R, hw.weak zn⟩

theorem c_impl_ActOk (w : World) (a_a : GAct) {r : Bool} (t0 : impl_ActOk a_a = some r) : Calls Tryz.prog 11 #[.agg #[.int .i64 a_a.Kind, .int .i64 a_a.A, .int .i64 a_a.B]] w fun e w' => e = .returned (.bool r) ∧ SH w [] [] w' := by
 refine cwc (args := [_]) Tryz.func11 R Tryz.ntmps11 R ?_
 unfold impl_ActOk at t0
 refine wcr (wle (eo_box R R) R fun b1 => (asg R R (wnt (wcs (wcr (wlq (pof fo_36_0 R) R (wlq (v := iv a_a.Kind) (plx tk_3 pz R R) R (wnt (wcb (wcr (wlq (pol R R) R (asg R R (wnt (wcO t0 R (fun h1 t0 => ?_) fun h1 t0 => ?_))))))))))))))
 refine wcs (bdO t0 fun y1 t1 t0 => (wj (J := Bool) (X := Unit) (fun z => y1 = z) (fun z _ => [(2, .bool z)]) (fun _ _ => []) ?_ ?_))
 refine wcg (wlq (pof fo_36_1 R) R (wlq (v := iv a_a.A) (plx tk_3 pz R R) R (bdO t1 fun v1 hv1 t1 => (wlc (cz0 fa_14 R fun w hw => c_impl_within w a_a.A 1 999 hv1) R fun _ => (mv R R (wlo (t := 10) t1 R (fun h2 t1 => ?_) fun h2 t1 => ?_))))))
 exact wgn (j := 3) R R R (wlq (pof fo_36_2 R) R (wgn (j := 3) R R R (wlq (v := iv a_a.B) (plx tk_3 pz R R) R (wgn (j := 3) R R R (wlq (pol R R) R (wlq (pit R R) R (asg R R (wln (wjm _ () (mtE t1) (su1 R) zn)))))))))
 exact wgf (j := 3) R R R R R (wgf (j := 3) R R R R R (wgf (j := 3) R R R R R (wlq (pif R R) R (asg R R (wln (wjm _ () (mtE t1) (su1 R) zn))))))
 intro j1 _ hp
 obtain rfl : j1 = y1 := hp.symm
 refine wqt (wct (wbr (wqr ?_)))
 obtain rfl := oi t0
 exact wq1 R R fun w hw => ⟨R, hw.weak zn⟩
 refine wcr (wlq (pol R R) R (asg R R (wnt (wcO t0 R (fun h3 t0 => ?_) fun h3 t0 => ?_))))
 refine wcs (bdO t0 fun y1 t1 t0 => (wj (J := Bool) (X := Unit) (fun z => y1 = z) (fun z _ => [(2, .bool z)]) (fun _ _ => []) ?_ ?_))
 refine wcg (wlq (pof fo_36_1 R) R (wlq (v := iv a_a.A) (plx tk_3 pz R R) R (bdO t1 fun v2 hv2 t1 => (wlc (cz0 fa_14 R fun w hw => c_impl_within w a_a.A 1 999 hv2) R fun _ => (mv R R (wlo (t := 20) t1 R (fun h4 t1 => ?_) fun h4 t1 => ?_))))))
 exact wgn (j := 3) R R R (wlq (pof fo_36_2 R) R (wgn (j := 3) R R R (wlq (v := iv a_a.B) (plx tk_3 pz R R) R (bdO t1 fun v3 hv3 t1 => (wgn (j := 3) R R R (wlc (cz0 fa_14 R fun w hw => c_impl_within w a_a.B 0 9 hv3) R (fun _ => (wlq (pit R R) R (asg R R (wln (wjm _ () (mtE t1) (su1 R) zn)))))))))))
 exact wgf (j := 3) R R R R R (wgf (j := 3) R R R R R (wgf (j := 3) R R R R R (wlq (pif R R) R (asg R R (wln (wjm _ () (mtE t1) (su1 R) zn))))))
 intro j2 _ hp
 obtain rfl : j2 = y1 := hp.symm
 refine wqt (wct (wbr (wqr ?_)))
 obtain rfl := oi t0
 exact wq1 R R fun w hw => ⟨R, hw.weak zn⟩
 refine wcs (wcr (wlq (pol R R) R (asg R R (wnt (wcj (X := Unit) (fun _ => True) (fun _ => [(1, ptr b1 0), (25, .bool ((a_a.Kind == 3) || (a_a.Kind == 6)))]) (fun _ => [box b1 [iv a_a.Kind, iv a_a.A, iv a_a.B]]) ?_ ?_)))))
 refine wc_cond R (fun h5 => ?_) fun h5 => ?_
 exact wck (wqm () trivial (yc R (sub_b R (by rw [h5]; rfl) yn)) so1)
 exact wcg (wlq (pol R R) R (asg R R (wln (wqm () trivial (yc R (sub_b R (by rw [h5]; rfl) yn)) so1))))
 intro _ _
 refine wqt (wcO t0 R (fun h6 t0 => ?_) fun h6 t0 => ?_)
 refine wcs (bdO t0 fun y1 t1 t0 => (wj (J := Bool) (X := Unit) (fun z => y1 = z) (fun z _ => [(2, .bool z)]) (fun _ _ => []) ?_ ?_))
 refine wcg (wlq (pof fo_36_1 R) R (wlq (v := iv a_a.A) (plx tk_3 pz R R) R (bdO t1 fun v4 hv4 t1 => (wlc (cz0 fa_14 R fun w hw => c_impl_within w a_a.A 0 9 hv4) R fun _ => (mv R R (wlo (t := 31) t1 R (fun h7 t1 => ?_) fun h7 t1 => ?_))))))
 exact wgn (j := 3) R R R (wlq (pof fo_36_2 R) R (wgn (j := 3) R R R (wlq (v := iv a_a.B) (plx tk_3 pz R R) R (wgn (j := 3) R R R (wlq (pol R R) R (wlq (pit R R) R (asg R R (wln (wjm _ () (mtE t1) (su1 R) zn)))))))))
 exact wgf (j := 3) R R R R R (wgf (j := 3) R R R R R (wgf (j := 3) R R R R R (wlq (pif R R) R (asg R R (wln (wjm _ () (mtE t1) (su1 R) zn))))))
 intro j4 _ hp
 obtain rfl : j4 = y1 := hp.symm
 refine wqt (wct (wbr (wqr ?_)))
 obtain rfl := oi t0
 exact wq1 R R fun w hw => ⟨R, hw.weak zn⟩
 refine wck (wqb (wqt (wcs (wcj (X := Unit) (fun _ => True) (fun _ => [(2, .bool (bif (a_a.Kind == 4) then ((a_a.A == 0) && (a_a.B == 0)) else ((a_a.Kind == 5) && ((a_a.A == 0) && (a_a.B == 0)))))]) (fun _ => []) ?_ ?_))))
 refine wcg (wlq (pof fo_36_0 R) R (wlq (v := iv a_a.Kind) (plx tk_3 pz R R) R (wlq (pol R R) R (mv R R (wl_fork (t := 39) R (fun h8 => ?_) fun h8 => ?_)))))
 refine wgf (j := 3) R R R R R (wgf (j := 3) R R R R R (wgf (j := 3) R R R R R (wlq (pit R R) R (mv R R (wgn (j := 8) R R R (wlq (pof fo_36_1 R) R (wgn (j := 8) R R R (wlq (v := iv a_a.A) (plx tk_3 pz R R) R (wgn (j := 8) R R R (wlq (pol R R) R (wlq (pit R R) R (mv R R (wl_fork (t := 49) R (fun h9 => ?_) fun h9 => ?_)))))))))))))
 exact wgn (j := 13) R R R (wlq (pof fo_36_2 R) R (wgn (j := 13) R R R (wlq (v := iv a_a.B) (plx tk_3 pz R R) R (wgn (j := 13) R R R (wlq (pol R R) R (wlq (pit R R) R (asg R R (wln (wqm () trivial (sub_b R (by rw [h8, h9]; rfl) yn) zn)))))))))
 exact wgf (j := 13) R R R R R (wgf (j := 13) R R R R R (wgf (j := 13) R R R R R (wlq (pif R R) R (asg R R (wln (wqm () trivial (sub_b R (by rw [h8, h9]; rfl) yn) zn))))))
 refine wgn (j := 3) R R R (wlq (pof fo_36_0 R) R (wgn (j := 3) R R R (wlq (v := iv a_a.Kind) (plx tk_3 pz R R) R (wgn (j := 3) R R R (wlq (pol R R) R (wlq (pif R R) R (mv R R (wl_fork (t := 44) R (fun h10 => ?_) fun h10 => ?_))))))))
 refine wgn (j := 8) R R R (wlq (pof fo_36_1 R) R (wgn (j := 8) R R R (wlq (v := iv a_a.A) (plx tk_3 pz R R) R (wgn (j := 8) R R R (wlq (pol R R) R (wlq (pit R R) R (mv R R (wl_fork (t := 49) R (fun h11 => ?_) fun h11 => ?_))))))))
 exact wgn (j := 13) R R R (wlq (pof fo_36_2 R) R (wgn (j := 13) R R R (wlq (v := iv a_a.B) (plx tk_3 pz R R) R (wgn (j := 13) R R R (wlq (pol R R) R (wlq (pit R R) R (asg R R (wln (wqm () trivial (sub_b R (by rw [h8, h10, h11]; rfl) yn) zn)))))))))
 exact wgf (j := 13) R R R R R (wgf (j := 13) R R R R R (wgf (j := 13) R R R R R (wlq (pif R R) R (asg R R (wln (wqm () trivial (sub_b R (by rw [h8, h10, h11]; rfl) yn) zn))))))
 exact wgf (j := 8) R R R R R (wgf (j := 8) R R R R R (wgf (j := 8) R R R R R (wlq (pif R R) R (mv R R (wgf (j := 13) R R R R R (wgf (j := 13) R R R R R (wgf (j := 13) R R R R R (wlq (pif R R) R (asg R R (wln (wqm () trivial (sub_b R (by rw [h8, h10]; rfl) yn) zn)))))))))))
 intro _ _
 refine wqt (wct ?_)
 obtain rfl := oi t0
 exact wq1 R R fun w hw => ⟨R, hw.weak zn⟩



theorem c_impl_FormatInt (w : World) (a_n : Int) {r : Str} (t0 : impl_FormatInt a_n = some r) : Calls Tryz.prog 22 #[.int .i64 a_n] w fun e w' => e = .returned (bs r) ∧ SH w [] [] w' := by
 refine cwc (args := [_]) Tryz.func22 R Tryz.ntmps22 R ?_
 unfold impl_FormatInt at t0
 refine wcr (asg R R (wnt (wcr (mv R R (bdO t0 fun v1 hv1 t0 => (wlc (cz0 fa_34 R fun w hw => c_strconv_Itoa w a_n hv1) R fun _ => (asg R R (wnt (wct ?_)))))))))
 obtain rfl := oi t0
 exact wq1 R R fun w hw => ⟨R, hw.weak zn⟩

theorem c_impl_FormatInt_b (w : World) (ht : Tb w) (a_n : Int) {r : Str} (t0 : impl_FormatInt_b a_n = some r) : Calls Tryz.prog 22 #[.int .i64 a_n] w fun e w' => e = .returned (bs r) ∧ SH w [] [] w' := by
 refine cwc (args := [_]) Tryz.func22 R Tryz.ntmps22 R ?_
 unfold impl_FormatInt_b at t0
 refine wcr (asg R R (wnt (wcr (mv R R (bdO t0 fun v1 hv1 t0 => (wlc (cz0 fa_34 R fun w hw => c_strconv_Itoa_b w (hw.tab ht) a_n hv1) R fun _ => (asg R R (wnt (wct ?_)))))))))
 obtain rfl := oi t0
 exact wq1 R R fun w hw => ⟨R, hw.weak zn⟩


theorem c_impl_lineOf (w : World) (ht : Tb w) (a_word : Str) (a_list : List Int) (v0a : Hd) (r0 : rdF w (dm w []) (sl v0a) a_list) {r : Str} (t0 : impl_lineOf a_word a_list = some r) : Calls Tryz.prog 12 #[bs a_word, (sl v0a)] w fun e w' => e = .returned (bs r) ∧ SH w [] [] w' := by
 refine cwc (args := [_, _]) Tryz.func12 R Tryz.ntmps12 R ?_
 unfold impl_lineOf at t0
 refine wcr (asg R R (wnt (wcr (mv R R (wle (ebs R (sb_45_1 a_word)) R fun b1 => (asg R R (wnt (wcs (wcr (mv R R (wlq (pln (rga r0) el_25 R) R (mv R R (wnt (gdO t0 fun g1 t0 => (lpO_inv t0 fun y1 l1 t0 => (wj (J := List Str) (X := Hd) (fun z => y1 = z) (fun _ x => [(5, (sl x))]) (fun z x => [ownF (sl x) z]) ?_ ?_))))))))))))))))
 refine wcb (wcf (X := Hd) l1 (fun k1 s1 x1l => [(5, (sl x1l)), (10, (sl v0a)), (11, iv ((a_list.length : Nat) : Int)), (12, iv ((k1 : Nat) : Int))]) (fun k1 s1 x1l => [ownF (sl x1l) s1]) (⟨some ⟨b1, 0, none⟩, 1, 1⟩ : Hd) (su4 R R R R) (zc (pbo pz (n := 1) (xs := ([a_word] : List Str)) R R (by unfold maxLen; omega)) zn) fun k1 s1 x1l hN1 l1 => ?_)
 by_cases hk1 : k1 < a_list.length
 refine fos l1 hk1 fun _ t1 l1 => ?_
 unfold impl_lineOf_L1 at t1
 have c1 : (decide (((k1 : Nat) : Int) < ((a_list.length : Nat) : Int))) = true := ddt (by omega)
 refine wcr (wlq (pls R R) R (wnt (wcs (wft R c1 (wck (wqt (wcs (wcb (wcr (wlq (po_ixn (k := k1) (rga r0) el_25 R R hk1) R (wlq (v := iv (gx a_list k1)) (po_ldf (rga r0) tk_3 R hk1 R) R (asg R R (wnt (wcg (mv R R (mv R R (bdO t1 fun v1 hv1 t1 => (wlc (cz0 fa_22 R fun w hw => c_impl_FormatInt_b w (hw.tab ht) (gx a_list k1) hv1) R fun _ => (wle (ebs R (sb_45_1 v1)) R fun b2 => (gdO t1 fun g2 t1 => (wle (eo_append (xs := s1) (ys := ([v1] : List Str)) ak_45 pk1 R R (slin_rd fun _ g => Rg.on (rgo (pbo pz (n := 1) (xs := ([v1] : List Str)) R R (by unfold maxLen; omega))) g) g2) R fun x2 => ?_)))))))))))))))))))))
 refine asg R R (wln (wqb (wqt (wcg (wlq (po_inc R R (by omega)) R ?_)))))
 exact mv R R (wln (wq_rnd hk1 (stpN l1 t1) x2 (su4 R R R R) so1))
 have c1 : (decide (((k1 : Nat) : Int) < ((a_list.length : Nat) : Int))) = false := ddf (by omega)
 have en1 := foe l1 hk1
 exact wcr (wlq (pls R R) R (wnt (wcs (wff R c1 (wcx (wqe (wqe (wbx (wjm _ x1l (Sum.inl.inj en1) (su1 R) so1)))))))))
 intro e1 x1 hp
 obtain rfl : e1 = y1 := hp.symm
 refine wqt (wcr (mv R R (bdO t0 fun v2 hv2 t0 => (wlc (cz0 fa_16 R fun w hw => c_strings_Join w e1 x1 (Rg.on (rgo pz) hw) (⟨[32]⟩ : Str) hv2) R fun _ => (asg R R (wnt (wct ?_)))))))
 obtain rfl := oi t0
 exact wq1 R R fun w hw => ⟨R, hw.weak zn⟩

theorem c_impl_FormatAct (w : World) (ht : Tb w) (a_a : GAct) {r : Str × Bool} (t0 : impl_FormatAct a_a = some r) : Calls Tryz.prog 6 #[.agg #[.int .i64 a_a.Kind, .int .i64 a_a.A, .int .i64 a_a.B]] w fun e w' => e = .returned (.tuple #[bs r.1, .bool r.2]) ∧ SH w [] [] w' := by
 refine cwc (args := [_]) Tryz.func6 R Tryz.ntmps6 R ?_
 unfold impl_FormatAct at t0
 refine wcr (wle (eo_box R R) R fun b1 => (asg R R (asg R R (wnt (wcs (wcr (wlq (v := .agg #[iv a_a.Kind, iv a_a.A, iv a_a.B]) (plb tk_36 pz R R R) R (bdO t0 fun v1 hv1 t0 => (wlc (cz0 fa_11 R fun w hw => c_impl_ActOk w a_a hv1) R fun _ => (wlq (po_not R) R (wnt (wcO t0 R (fun h1 t0 => ?_) fun h1 t0 => ?_))))))))))))
 refine wcr (asg R R (asg R R (wnt (wct (wqr ?_)))))
 obtain rfl := oi t0
 exact wq_ret2 R R R fun w hw => ⟨R, hw.weak zn⟩
 refine wck (wqt (wcs (wcr (wlq (pof fo_36_0 R) R (wlq (v := iv a_a.Kind) (plx tk_3 pz R R) R (wnt (wcb (wcr (wlq (pol R R) R (asg R R (wnt (wcO t0 R (fun h2 t0 => ?_) fun h2 t0 => ?_))))))))))))
 refine wcr (wlq (pof fo_36_1 R) R (wlq (v := iv a_a.A) (plx tk_3 pz R R) R (wle (ebs R (sb_25_1 a_a.A)) R fun b2 => (bdO t0 fun v2 hv2 t0 => (wlc (cz0 fa_12 R fun w hw => c_impl_lineOf w (hw.tab ht) (⟨[97, 100, 109, 105, 116]⟩ : Str) ([a_a.A] : List Int) (⟨some ⟨b2, 0, none⟩, 1, 1⟩ : Hd) (Rg.on (rgo (pbo pz (n := 1) (xs := ([a_a.A] : List Int)) R R (by unfold maxLen; omega))) hw) hv2) R fun _ => ?_)))))
 refine asg R R (asg R R (wnt (wct (wbr (wqr ?_)))))
 obtain rfl := oi t0
 exact wq_ret2 R R R fun w hw => ⟨R, hw.weak zn⟩
 refine wcr (wlq (pol R R) R (asg R R (wnt (wcO t0 R (fun h3 t0 => ?_) fun h3 t0 => ?_))))
 refine wcr (wlq (pof fo_36_1 R) R (wlq (v := iv a_a.A) (plx tk_3 pz R R) R (wlq (pof fo_36_2 R) R (wlq (v := iv a_a.B) (plx tk_3 pz R R) R (wle (ebs R (sb_25_2 a_a.A a_a.B)) R fun b3 => (bdO t0 fun v3 hv3 t0 => (wlc (cz0 fa_12 R fun w hw => c_impl_lineOf w (hw.tab ht) (⟨[115, 117, 98, 109, 105, 116]⟩ : Str) ([a_a.A, a_a.B] : List Int) (⟨some ⟨b3, 0, none⟩, 2, 2⟩ : Hd) (Rg.on (rgo (pbo pz (n := 2) (xs := ([a_a.A, a_a.B] : List Int)) R R (by unfold maxLen; omega))) hw) hv3) R fun _ => ?_)))))))
 refine asg R R (asg R R (wnt (wct (wbr (wqr ?_)))))
 obtain rfl := oi t0
 exact wq_ret2 R R R fun w hw => ⟨R, hw.weak zn⟩
 refine wcr (wlq (pol R R) R (asg R R (wnt (wcO t0 R (fun h4 t0 => ?_) fun h4 t0 => ?_))))
 refine wcr (wlq (pof fo_36_1 R) R (wlq (v := iv a_a.A) (plx tk_3 pz R R) R (wle (ebs R (sb_25_1 a_a.A)) R fun b4 => (bdO t0 fun v4 hv4 t0 => (wlc (cz0 fa_12 R fun w hw => c_impl_lineOf w (hw.tab ht) (⟨[115, 101, 119]⟩ : Str) ([a_a.A] : List Int) (⟨some ⟨b4, 0, none⟩, 1, 1⟩ : Hd) (Rg.on (rgo (pbo pz (n := 1) (xs := ([a_a.A] : List Int)) R R (by unfold maxLen; omega))) hw) hv4) R fun _ => ?_)))))
 refine asg R R (asg R R (wnt (wct (wbr (wqr ?_)))))
 obtain rfl := oi t0
 exact wq_ret2 R R R fun w hw => ⟨R, hw.weak zn⟩
 refine wcr (wlq (pol R R) R (asg R R (wnt (wcO t0 R (fun h5 t0 => ?_) fun h5 t0 => ?_))))
 refine wcr (wlq (pof fo_36_1 R) R (wlq (v := iv a_a.A) (plx tk_3 pz R R) R (wle (ebs R (sb_25_1 a_a.A)) R fun b5 => (bdO t0 fun v5 hv5 t0 => (wlc (cz0 fa_12 R fun w hw => c_impl_lineOf w (hw.tab ht) (⟨[108, 97, 99, 107]⟩ : Str) ([a_a.A] : List Int) (⟨some ⟨b5, 0, none⟩, 1, 1⟩ : Hd) (Rg.on (rgo (pbo pz (n := 1) (xs := ([a_a.A] : List Int)) R R (by unfold maxLen; omega))) hw) hv5) R fun _ => ?_)))))
 refine asg R R (asg R R (wnt (wct (wbr (wqr ?_)))))
 obtain rfl := oi t0
 exact wq_ret2 R R R fun w hw => ⟨R, hw.weak zn⟩
 refine wcr (wlq (pol R R) R (asg R R (wnt (wcO t0 R (fun h6 t0 => ?_) fun h6 t0 => ?_))))
 refine wcr (asg R R (asg R R (wnt (wct (wbr (wqr ?_))))))
 obtain rfl := oi t0
 exact wq_ret2 R R R fun w hw => ⟨R, hw.weak zn⟩
 refine wck (wqb (wqt (wcr (asg R R (asg R R (wnt (wct ?_)))))))
 obtain rfl := oi t0
 exact wq_ret2 R R R fun w hw => ⟨R, hw.weak zn⟩

theorem c_impl_SplitFields (w : World) (a_line : Str) {r : (List Str) × Bool} (t0 : impl_SplitFields a_line = some r) : Calls Tryz.prog 13 #[bs a_line] w fun e w' => ∃ x : Hd, e = .returned (.tuple #[(sl x), .bool r.2]) ∧ SH w [] [ownF (sl x) r.1] w' := by
 refine cwc (args := [_]) Tryz.func13 R Tryz.ntmps13 R ?_
 unfold impl_SplitFields at t0
 refine wcr (asg R R (asg R R (wnt (wcs (wcr (mv R R (wlq (po_slen isStr_9 R) R (wlq (po_gtr R R) R (wnt (wcO t0 R (fun h1 t0 => ?_) fun h1 t0 => ?_))))))))))
 refine wcr (asg R R (asg R R (wnt (wct (wqr ?_)))))
 obtain rfl := oi t0
 exact wq_ret2 R R R fun w hw => ⟨hn, R, hw.weak (zc pick_nil zn)⟩
 refine wck (wqt (wcr (wle (ebs R sb_45_0) R fun b1 => (asg R R (asg R R (wnt (wcs (wcr (mv R R (wlq (po_slen isStr_9 R) R (mv R R (wnt (gdO t0 fun g1 t0 => (sqO t0 fun y1 l1 t0 => (wj (J := (List Str) × Int) (X := Hd) (fun z => y1 = .inl z) (fun z x => [(0, bs a_line), (4, (sl x)), (5, iv z.2)]) (fun z x => [ownF (sl x) z.1]) ?_ ?_)))))))))))))))
 refine wcb (wcf (X := Hd) l1 (fun k1 s1 x1l => [(0, bs a_line), (4, (sl x1l)), (5, iv s1.2), (12, iv ((a_line.b.length : Nat) : Int)), (13, iv ((k1 : Nat) : Int))]) (fun k1 s1 x1l => [ownF (sl x1l) s1.1]) (⟨some ⟨b1, 0, none⟩, 0, 0⟩ : Hd) (su5 R R R R R) (zc (pbo pz (n := 0) (xs := ([] : List Str)) R R (by unfold maxLen; omega)) zn) fun k1 s1 x1l hN1 l1 => ?_)
 by_cases hk1 : k1 < a_line.b.length
 refine fos l1 hk1 fun _ t1 l1 => ?_
 unfold impl_SplitFields_L1 at t1
 have c1 : (decide (((k1 : Nat) : Int) < ((a_line.b.length : Nat) : Int))) = true := ddt (by omega)
 refine wcr (wlq (pls R R) R (wnt (wcs (wft R c1 (wck (wqt (wcs (wcb (wcr (mv R R (asg R R (wnt (wcs (wcs (wcj (X := Unit) (fun _ => True) (fun _ => [(0, bs a_line), (4, (sl x1l)), (5, iv s1.2), (6, iv ((k1 : Nat) : Int)), (12, iv ((a_line.b.length : Nat) : Int)), (13, iv ((k1 : Nat) : Int)), (25, .bool ((decide ((((sat_ a_line k1)).toNat : Int) < 32)) || (decide ((((sat_ a_line k1)).toNat : Int) > 126))))]) (fun _ => [ownF (sl x1l) s1.1]) ?_ ?_)))))))))))))))
 refine wcg (mv R R (mv R R (wlq (po_sixn (k := k1) isStr_9 R R hk1) R (wlq (pls R R) R (mv R R (wl_fork (t := 20) R (fun h2 => ?_) fun h2 => ?_))))))
 exact wgf (j := 4) R R R R R (wgf (j := 4) R R R R R (wgf (j := 4) R R R R R (wgf (j := 4) R R R R R (wlq (pit R R) R (wln (wqm () trivial (yc R (yc R (yc R (yc R (yc R (yc R (sub_b R (by rw [h2]; rfl) yn))))))) so1))))))
 exact wgn (j := 4) R R R (mv R R (wgn (j := 4) R R R (mv R R (wgn (j := 4) R R R (wlq (po_sixn (k := k1) isStr_9 R R hk1) R (wgn (j := 4) R R R (wlq (po_gtr R R) R (wlq (pif R R) R (wln (wqm () trivial (yc R (yc R (yc R (yc R (yc R (yc R (sub_b R (by rw [h2]; rfl) yn))))))) so1))))))))))
 intro _ _
 refine wqt (wcO t1 R (fun h3 t1 => ?_) fun h3 t1 => ?_)
 refine wcr (asg R R (asg R R (wnt (wct (wqr (wbr (wqr (wqr (wbr (wqr (wqr ?_)))))))))))
 replace t0 := lpR t0 l1 t1
 obtain rfl := oi t0
 exact wq_ret2 R R R fun w hw => ⟨hn, R, hw.weak (zc pick_nil zn)⟩
 refine wck (wqt (wcr (mv R R (mv R R (wlq (po_sixn (k := k1) isStr_9 R R hk1) R (wlq (pol R R) R (wnt (bdO t1 fun y2 t2 t1 => (wj (J := (List Str) × Int) (X := Hd) (fun z => y2 = z) (fun z x => [(0, bs a_line), (4, (sl x)), (5, iv z.2), (12, iv ((a_line.b.length : Nat) : Int)), (13, iv ((k1 : Nat) : Int))]) (fun z x => [ownF (sl x) z.1]) ?_ ?_)))))))))
 refine wcO t2 R (fun h4 t2 => ?_) fun h4 t2 => ?_
 refine wcs (wcr (mv R R (wlq (po_geq R R) R (wnt (bdO t2 fun y3 t3 t2 => (wj (J := List Str) (X := Hd) (fun z => y3 = z) (fun _ x => [(0, bs a_line), (4, (sl x)), (12, iv ((a_line.b.length : Nat) : Int)), (13, iv ((k1 : Nat) : Int))]) (fun z x => [ownF (sl x) z]) ?_ ?_))))))
 refine wcO t3 R (fun h5 t3 => ?_) fun h5 t3 => ?_
 refine wcg (mv R R (mv R R (mv R R (mv R R (gdO t3 fun g2 t3 => (wlq (po_ssub (l := (s1.2).toNat) (h := k1) isStr_9 R (.inr ⟨_, R, ixn g2.1⟩) (.inr ⟨_, R, R⟩) g2.2.1 g2.2.2) R (wle (ebs R (sb_45_1 (ssub a_line ((s1.2).toNat) k1))) R fun b2 => (gdO t3 fun g3 t3 => (wle (eo_append (xs := s1.1) (ys := ([(ssub a_line ((s1.2).toNat) k1)] : List Str)) ak_45 pk1 R R (slin_rd fun _ g => Rg.on (rgo (pbo pz (n := 1) (xs := ([(ssub a_line ((s1.2).toNat) k1)] : List Str)) R R (by unfold maxLen; omega))) g) g3) R fun x5 => ?_)))))))))
 exact asg R R (wln (wjm _ x5 (mtE t3) (su4 R R R R) so1))
 exact wck (wjm _ x1l (mtE t3) (su4 R R R R) so1)
 intro j3 x4 hp
 obtain rfl : j3 = y3 := hp.symm
 exact wqt (wcg (asg R R (wln (wjm _ x4 (mtE t2) (su5 R R R R R) so1))))
 refine wcr (mv R R (wlq (pls R R) R (wnt (wcO t2 R (fun h6 t2 => ?_) fun h6 t2 => ?_))))
 exact wcg (mv R R (asg R R (wln (wjm _ x1l (mtE t2) (su5 R R R R R) so1))))
 exact wck (wjm _ x1l (mtE t2) (su5 R R R R R) so1)
 intro j2 x3 hp
 obtain rfl : j2 = y2 := hp.symm
 refine wqb (wqt (wcg (wlq (po_inc R R (by omega)) R ?_)))
 exact mv R R (wln (wq_rnd hk1 (stpN l1 t1) x3 (su5 R R R R R) so1))
 have c1 : (decide (((k1 : Nat) : Int) < ((a_line.b.length : Nat) : Int))) = false := ddf (by omega)
 have en1 := foe l1 hk1
 exact wcr (wlq (pls R R) R (wnt (wcs (wff R c1 (wcx (wqe (wqe (wbx (wjm _ x1l en1 (su3 R R R) so1)))))))))
 intro e1 x1 hp
 replace t0 := sqE (j := e1) t0 hp
 refine wqt (wcs (wcr (mv R R (wlq (po_geq R R) R (wnt (bdO t0 fun y1 t1 t0 => (wj (J := List Str) (X := Hd) (fun z => y1 = z) (fun _ x => [(4, (sl x))]) (fun z x => [ownF (sl x) z]) ?_ ?_)))))))
 refine wcO t1 R (fun h7 t1 => ?_) fun h7 t1 => ?_
 refine wcg (mv R R (mv R R (mv R R (gdO t1 fun g4 t1 => (wlq (po_ssub (l := (e1.2).toNat) (h := a_line.b.length) isStr_9 R (.inr ⟨_, R, ixn g4.1⟩) (.inl ⟨R, R⟩) g4.2.1 g4.2.2) R (wle (ebs R (sb_45_1 (ssub a_line ((e1.2).toNat) a_line.b.length))) R fun b3 => (gdO t1 fun g5 t1 => (wle (eo_append (xs := e1.1) (ys := ([(ssub a_line ((e1.2).toNat) a_line.b.length)] : List Str)) ak_45 pk1 R R (slin_rd fun _ g => Rg.on (rgo (pbo pz (n := 1) (xs := ([(ssub a_line ((e1.2).toNat) a_line.b.length)] : List Str)) R R (by unfold maxLen; omega))) g) g5) R fun x7 => ?_))))))))
 exact asg R R (wln (wjm _ x7 (mtE t1) (su1 R) so1))
 exact wck (wjm _ x1 (mtE t1) (su1 R) so1)
 intro j4 x6 hp
 obtain rfl : j4 = y1 := hp.symm
 refine wqt (wcs (wcr (mv R R (wlq (pln (rgo pz) el_45 R) R (wlq (po_gtr R R) R (wnt (wcO t0 R (fun h8 t0 => ?_) fun h8 t0 => ?_)))))))
 refine wcr (asg R R (asg R R (wnt (wct (wqr ?_)))))
 obtain rfl := oi t0
 exact wq_ret2 R R R fun w hw => ⟨hn, R, hw.weak (zc pick_nil zn)⟩
 refine wck (wqt (wcr (mv R R (asg R R (asg R R (wnt (wct ?_)))))))
 obtain rfl := oi t0
 exact wq_ret2 R R R fun w hw => ⟨x6, R, hw.weak so1⟩


theorem c_impl_ParseUint (w : World) (ht : Tb w) (a_s : Str) {r : Int × Bool} (t0 : impl_ParseUint a_s = some r) : Calls Tryz.prog 15 #[bs a_s] w fun e w' => e = .returned (.tuple #[.int .i64 r.1, .bool r.2]) ∧ SH w [] [] w' := by
 refine cwc (args := [_]) Tryz.func15 R Tryz.ntmps15 R ?_
 unfold impl_ParseUint at t0
 refine wcr (asg R R (asg R R (wnt (wcs (wcr (mv R R (wlq (po_slen isStr_9 R) R (wlq (po_gtr R R) R (wnt (wcO t0 R (fun h1 t0 => ?_) fun h1 t0 => ?_))))))))))
 refine wcr (asg R R (asg R R (wnt (wct (wqr ?_)))))
 obtain rfl := oi t0
 exact wq_ret2 R R R fun w hw => ⟨R, hw.weak zn⟩
 refine wck (wqt (wcr (mv R R (bdO t0 fun v1 hv1 t0 => (wlc (co_c0x fa_23 R fun w hw => c_strconv_Atoi w (hw.tab ht) a_s hv1) R fun x1 => (mv R R (wlq (pex R R) R (wlq (pex R R) R (asg R R (asg R R (wnt (wcs (wcs (bdO t0 fun y1 t1 t0 => (wj (J := Bool) (X := Unit) (fun z => y1 = z) (fun z _ => [(4, iv v1.1), (26, .bool z)]) (fun _ _ => []) ?_ ?_)))))))))))))))
 refine wcg (mv R R (wlq (po_errneq if_60 R) R (mv R R (wlo (t := 16) t1 R (fun h2 t1 => ?_) fun h2 t1 => ?_))))
 exact wgf (j := 2) R R R R R (wgf (j := 2) R R R R R (wgf (j := 2) R R R R R (wlq (pit R R) R (mv R R (wgf (j := 7) R R R R R (wgf (j := 7) R R R R R (wgf (j := 7) R R R R R (wgf (j := 7) R R R R R (wlq (pit R R) R (wln (wjm _ () (mtE t1) (su2 R R) zn)))))))))))
 refine wgn (j := 2) R R R (mv R R (bdO t1 fun v2 hv2 t1 => (wgn (j := 2) R R R (wlc (cz0 fa_14 R fun w hw => c_impl_within w v1.1 0 1000000000 hv2) R (fun _ => (wgn (j := 2) R R R (wlq (po_not R) R (wlq (pif R R) R (mv R R (wlo (t := 21) t1 R (fun h3 t1 => ?_) fun h3 t1 => ?_))))))))))
 exact wgf (j := 7) R R R R R (wgf (j := 7) R R R R R (wgf (j := 7) R R R R R (wgf (j := 7) R R R R R (wlq (pit R R) R (wln (wjm _ () (mtE t1) (su2 R R) zn))))))
 exact wgn (j := 7) R R R (mv R R (bdO t1 fun v3 hv3 t1 => (wgn (j := 7) R R R (wlc (cz0 fa_22 R fun w hw => c_impl_FormatInt_b w (hw.tab ht) v1.1 hv3) R (fun _ => (wgn (j := 7) R R R (mv R R (wgn (j := 7) R R R (wlq (po_sneq R R) R (wlq (pif R R) R (wln (wjm _ () (mtE t1) (su2 R R) zn))))))))))))
 intro j1 _ hp
 obtain rfl : j1 = y1 := hp.symm
 refine wqt (wcO t0 R (fun h4 t0 => ?_) fun h4 t0 => ?_)
 refine wcr (asg R R (asg R R (wnt (wct (wqr ?_)))))
 obtain rfl := oi t0
 exact wq_ret2 R R R fun w hw => ⟨R, hw.weak zn⟩
 refine wck (wqt (wcr (mv R R (asg R R (asg R R (wnt (wct ?_)))))))
 obtain rfl := oi t0
 exact wq_ret2 R R R fun w hw => ⟨R, hw.weak zn⟩

theorem c_impl_ParseAct (w : World) (ht : Tb w) (a_line : Str) {r : GAct × Bool} (t0 : impl_ParseAct a_line = some r) : Calls Tryz.prog 7 #[bs a_line] w fun e w' => e = .returned (.tuple #[.agg #[.int .i64 r.1.Kind, .int .i64 r.1.A, .int .i64 r.1.B], .bool r.2]) ∧ SH w [] [] w' := by
 refine cwc (args := [_]) Tryz.func7 R Tryz.ntmps7 R ?_
 unfold impl_ParseAct at t0
 refine wcr (wle (eal (cs := [iv 0, iv 0, iv 0]) za_36) R fun b1 => (asg R R (wnt (wcr (mv R R (bdO t0 fun v1 hv1 t0 => (wlc (cz1 fa_13 R fun w hw => c_impl_SplitFields w a_line hv1) R fun x1 => (mv R R (wlq (pex R R) R (wlq (pex R R) R (asg R R (asg R R (wnt (wcs (wcs (bdO t0 fun y1 t1 t0 => (wj (J := Bool) (X := Unit) (fun z => y1 = z) (fun z _ => [(2, ptr b1 0), (4, (sl x1)), (28, .bool z)]) (fun _ _ => [box b1 [iv 0, iv 0, iv 0], ownF (sl x1) v1.1]) ?_ ?_)))))))))))))))))
 refine wcg (mv R R (wlq (po_not R) R (mv R R (wlo (t := 23) t1 R (fun h1 t1 => ?_) fun h1 t1 => ?_))))
 exact wgf (j := 2) R R R R R (wgf (j := 2) R R R R R (wgf (j := 2) R R R R R (wgf (j := 2) R R R R R (wlq (pit R R) R (wln (wjm _ () (mtE t1) (su3 R R R) (zc pk1 so1)))))))
 exact wgn (j := 2) R R R (mv R R (wgn (j := 2) R R R (wlq (pln (rgo pz) el_45 R) R (bdO t1 fun v2 hv2 t1 => (wgn (j := 2) R R R (wlc (cz0 fa_14 R fun w hw => c_impl_within w ((v1.1.length : Nat) : Int) 1 3 hv2) R (fun _ => (wgn (j := 2) R R R (wlq (po_not R) R (wlq (pif R R) R (wln (wjm _ () (mtE t1) (su3 R R R) (zc pk1 so1)))))))))))))
 intro j1 _ hp
 obtain rfl : j1 = y1 := hp.symm
 refine wqt (wcO t0 R (fun h2 t0 => ?_) fun h2 t0 => ?_)
 refine wcr (wlq (po_build R bd_36) R (wls (sbx (cs' := [iv 0, iv 0, iv 0]) tk_36 pz R R R R R R R) (asg R R (wnt (wct (wqr ?_))))))
 obtain rfl := oi t0
 exact wq_retc1 R tk_36 R R pz R fun w hw => ⟨R, hw.weak zn⟩
 refine wck (wqt (wcr (wle (ebs (qs := [(0, bs (⟨[]⟩ : Str)), (1, bs (⟨[97, 100, 109, 105, 116]⟩ : Str)), (2, bs (⟨[115, 117, 98, 109, 105, 116]⟩ : Str)), (3, bs (⟨[115, 101, 119]⟩ : Str)), (4, bs (⟨[114, 111, 117, 110, 100]⟩ : Str)), (5, bs (⟨[121, 101, 97, 114]⟩ : Str)), (6, bs (⟨[108, 97, 99, 107]⟩ : Str))]) R (sb_45_7 (⟨[]⟩ : Str) (⟨[97, 100, 109, 105, 116]⟩ : Str) (⟨[115, 117, 98, 109, 105, 116]⟩ : Str) (⟨[115, 101, 119]⟩ : Str) (⟨[114, 111, 117, 110, 100]⟩ : Str) (⟨[121, 101, 97, 114]⟩ : Str) (⟨[108, 97, 99, 107]⟩ : Str))) R fun b2 => (asg R R (wnt (wcr (wlq (po_build R bd_36) R (wle (eal (cs := [iv 0, iv 0, iv 0]) za_36) R fun b3 => (wls (sbx (cs' := [iv 0, iv 0, iv 0]) tk_36 pz R R R R R R R) (wnt (wcs (wcr (mv R R (wlq (pln (rgo (pbo pk1 (n := 7) (xs := ([(⟨[]⟩ : Str), (⟨[97, 100, 109, 105, 116]⟩ : Str), (⟨[115, 117, 98, 109, 105, 116]⟩ : Str), (⟨[115, 101, 119]⟩ : Str), (⟨[114, 111, 117, 110, 100]⟩ : Str), (⟨[121, 101, 97, 114]⟩ : Str), (⟨[108, 97, 99, 107]⟩ : Str)] : List Str)) R R (by unfold maxLen; omega))) el_45 R) R ?_))))))))))))))
 refine mv R R (wnt (gdO t0 fun g1 t0 => (lpO_inv t0 fun y1 l1 t0 => (wj (J := Int) (X := Unit) (fun z => y1 = z) (fun _ _ => [(2, ptr b1 0), (4, (sl x1)), (7, ptr b3 0)]) (fun z _ => [box b3 [iv z, iv 0, iv 0], box b1 [iv 0, iv 0, iv 0], ownF (sl x1) v1.1]) ?_ ?_))))
 refine wcb (wcf (X := Unit) l1 (fun k1 s1 x1l => [(2, ptr b1 0), (4, (sl x1)), (7, ptr b3 0), (32, (sl (⟨some ⟨b2, 0, none⟩, 7, 7⟩ : Hd))), (33, iv ((([(⟨[]⟩ : Str), (⟨[97, 100, 109, 105, 116]⟩ : Str), (⟨[115, 117, 98, 109, 105, 116]⟩ : Str), (⟨[115, 101, 119]⟩ : Str), (⟨[114, 111, 117, 110, 100]⟩ : Str), (⟨[121, 101, 97, 114]⟩ : Str), (⟨[108, 97, 99, 107]⟩ : Str)] : List Str).length : Nat) : Int)), (34, iv ((k1 : Nat) : Int))]) (fun k1 s1 x1l => [box b3 [iv s1, iv 0, iv 0], box b2 [bs (⟨[]⟩ : Str), bs (⟨[97, 100, 109, 105, 116]⟩ : Str), bs (⟨[115, 117, 98, 109, 105, 116]⟩ : Str), bs (⟨[115, 101, 119]⟩ : Str), bs (⟨[114, 111, 117, 110, 100]⟩ : Str), bs (⟨[121, 101, 97, 114]⟩ : Str), bs (⟨[108, 97, 99, 107]⟩ : Str)], box b1 [iv 0, iv 0, iv 0], ownF (sl x1) v1.1]) () (su6 R R R R R R) so4 fun k1 s1 x1l hN1 l1 => ?_)
 by_cases hk1 : k1 < ([(⟨[]⟩ : Str), (⟨[97, 100, 109, 105, 116]⟩ : Str), (⟨[115, 117, 98, 109, 105, 116]⟩ : Str), (⟨[115, 101, 119]⟩ : Str), (⟨[114, 111, 117, 110, 100]⟩ : Str), (⟨[121, 101, 97, 114]⟩ : Str), (⟨[108, 97, 99, 107]⟩ : Str)] : List Str).length
 refine fos l1 hk1 fun _ t1 l1 => ?_
 unfold impl_ParseAct_L1 at t1
 have c1 : (decide (((k1 : Nat) : Int) < ((([(⟨[]⟩ : Str), (⟨[97, 100, 109, 105, 116]⟩ : Str), (⟨[115, 117, 98, 109, 105, 116]⟩ : Str), (⟨[115, 101, 119]⟩ : Str), (⟨[114, 111, 117, 110, 100]⟩ : Str), (⟨[121, 101, 97, 114]⟩ : Str), (⟨[108, 97, 99, 107]⟩ : Str)] : List Str).length : Nat) : Int))) = true := ddt (by omega)
 refine wcr (wlq (pls R R) R (wnt (wcs (wft R c1 (wck (wqt (wcs (wcb (wcr (mv R R (wlq (po_ixn (k := k1) (rgo (pbo pk1 (n := 7) (xs := ([(⟨[]⟩ : Str), (⟨[97, 100, 109, 105, 116]⟩ : Str), (⟨[115, 117, 98, 109, 105, 116]⟩ : Str), (⟨[115, 101, 119]⟩ : Str), (⟨[114, 111, 117, 110, 100]⟩ : Str), (⟨[121, 101, 97, 114]⟩ : Str), (⟨[108, 97, 99, 107]⟩ : Str)] : List Str)) R R (by unfold maxLen; omega))) el_45 R R hk1) R ?_)))))))))))
 refine wlq (v := bs (gx ([(⟨[]⟩ : Str), (⟨[97, 100, 109, 105, 116]⟩ : Str), (⟨[115, 117, 98, 109, 105, 116]⟩ : Str), (⟨[115, 101, 119]⟩ : Str), (⟨[114, 111, 117, 110, 100]⟩ : Str), (⟨[121, 101, 97, 114]⟩ : Str), (⟨[108, 97, 99, 107]⟩ : Str)] : List Str) k1)) (po_ldf (rgo (pbo pk1 (n := 7) (xs := ([(⟨[]⟩ : Str), (⟨[97, 100, 109, 105, 116]⟩ : Str), (⟨[115, 117, 98, 109, 105, 116]⟩ : Str), (⟨[115, 101, 119]⟩ : Str), (⟨[114, 111, 117, 110, 100]⟩ : Str), (⟨[121, 101, 97, 114]⟩ : Str), (⟨[108, 97, 99, 107]⟩ : Str)] : List Str)) R R (by unfold maxLen; omega))) tk_9 R hk1 R) R ?_
 refine asg R R (asg R R (wnt (wcr (mv R R (mv R R (gdO t1 fun g2 t1 => (wlq (po_ixn (k := 0) (rgo pk3) el_45 R R g2) R (wlq (v := bs (gx v1.1 0)) (po_ldf (rgo pk3) tk_9 R g2 R) R (wlq (po_seql R R) R (wnt (wcj (X := Unit) (fun _ => True) (fun _ => [(2, ptr b1 0), (4, (sl x1)), (7, ptr b3 0), (32, (sl (⟨some ⟨b2, 0, none⟩, 7, 7⟩ : Hd))), (33, iv ((([(⟨[]⟩ : Str), (⟨[97, 100, 109, 105, 116]⟩ : Str), (⟨[115, 117, 98, 109, 105, 116]⟩ : Str), (⟨[115, 101, 119]⟩ : Str), (⟨[114, 111, 117, 110, 100]⟩ : Str), (⟨[121, 101, 97, 114]⟩ : Str), (⟨[108, 97, 99, 107]⟩ : Str)] : List Str).length : Nat) : Int)), (34, iv ((k1 : Nat) : Int))]) (fun _ => [box b3 [iv (bif (seq (gx ([(⟨[]⟩ : Str), (⟨[97, 100, 109, 105, 116]⟩ : Str), (⟨[115, 117, 98, 109, 105, 116]⟩ : Str), (⟨[115, 101, 119]⟩ : Str), (⟨[114, 111, 117, 110, 100]⟩ : Str), (⟨[121, 101, 97, 114]⟩ : Str), (⟨[108, 97, 99, 107]⟩ : Str)] : List Str) k1) (gx v1.1 0)) then ((k1 : Nat) : Int) else s1), iv 0, iv 0], box b1 [iv 0, iv 0, iv 0], box b2 [bs (⟨[]⟩ : Str), bs (⟨[97, 100, 109, 105, 116]⟩ : Str), bs (⟨[115, 117, 98, 109, 105, 116]⟩ : Str), bs (⟨[115, 101, 119]⟩ : Str), bs (⟨[114, 111, 117, 110, 100]⟩ : Str), bs (⟨[121, 101, 97, 114]⟩ : Str), bs (⟨[108, 97, 99, 107]⟩ : Str)], ownF (sl x1) v1.1]) ?_ ?_)))))))))))
 refine wc_cond R (fun h3 => ?_) fun h3 => ?_
 exact wcg (mv R R (wlq (pof fo_36_0 R) R (wls (sbx (cs' := [iv ((k1 : Nat) : Int), iv 0, iv 0]) tk_3 pz R R R R R R R) (wln (wqm () trivial (su6 R R R R R R) (zc (by simp only [h3, cond_true]; exact pz) (zc pk1 so2)))))))
 exact wck (wqm () trivial (su6 R R R R R R) (zc (by simp only [h3, cond_false]; exact pz) (zc pk1 so2)))
 intro _ _
 refine wqb (wqt (wcg (wlq (po_inc R R (by omega)) R ?_)))
 exact mv R R (wln (wq_rnd hk1 (stpN l1 t1) () (su6 R R R R R R) (zc pz (zc pk1 so2))))
 have c1 : (decide (((k1 : Nat) : Int) < ((([(⟨[]⟩ : Str), (⟨[97, 100, 109, 105, 116]⟩ : Str), (⟨[115, 117, 98, 109, 105, 116]⟩ : Str), (⟨[115, 101, 119]⟩ : Str), (⟨[114, 111, 117, 110, 100]⟩ : Str), (⟨[121, 101, 97, 114]⟩ : Str), (⟨[108, 97, 99, 107]⟩ : Str)] : List Str).length : Nat) : Int))) = false := ddf (by omega)
 have en1 := foe l1 hk1
 exact wcr (wlq (pls R R) R (wnt (wcs (wff R c1 (wcx (wqe (wqe (wbx (wjm _ () (Sum.inl.inj en1) (su3 R R R) (zc pz (zc pk1 (zc pk1 zn))))))))))))
 intro e1 _ hp
 obtain rfl : e1 = y1 := hp.symm
 refine wqt (wcs (wcr (mv R R (gdO t0 fun g3 t0 => (wlq (po_cutr (l := 1) (h := v1.1.length) (rgo pk2) el_45 R (.inr ⟨_, R, R⟩) (.inl ⟨R, R⟩) g3.1 g3.2) R (wlq (pln (rds_cut (rgo pk2) g3.1 g3.2) el_45 R) R (mv R R (wnt (gdO t0 fun g4 t0 => (sqO t0 fun y1 l1 t0 => (wj (J := Int × Int × Int) (X := Unit) (fun z => y1 = .inl z) (fun _ _ => [(2, ptr b1 0), (4, (sl x1)), (7, ptr b3 0)]) (fun z _ => [box b3 [iv z.1, iv z.2.1, iv z.2.2], box b1 [iv 0, iv 0, iv 0], ownF (sl x1) v1.1]) ?_ ?_)))))))))))
 refine wcb (wcf (X := Unit) l1 (fun k2 s2 x2l => [(2, ptr b1 0), (4, (sl x1)), (7, ptr b3 0), (48, (sl (slh x1 1 v1.1.length (Rep.sz Str)))), (49, iv ((((v1.1.drop 1).take (v1.1.length - 1)).length : Nat) : Int)), (50, iv ((k2 : Nat) : Int))]) (fun k2 s2 x2l => [box b3 [iv s2.1, iv s2.2.1, iv s2.2.2], box b1 [iv 0, iv 0, iv 0], ownF (sl x1) v1.1]) () (su6 R R R R R R) so3 fun k2 s2 x2l hN2 l1 => ?_)
 by_cases hk2 : k2 < ((v1.1.drop 1).take (v1.1.length - 1)).length
 refine fos l1 hk2 fun _ t1 l1 => ?_
 unfold impl_ParseAct_L2 at t1
 have c2 : (decide (((k2 : Nat) : Int) < ((((v1.1.drop 1).take (v1.1.length - 1)).length : Nat) : Int))) = true := ddt (by omega)
 refine wcr (wlq (pls R R) R (wnt (wcs (wft R c2 (wck (wqt (wcs (wcb (wcr (mv R R (wlq (po_ixn (k := k2) (rds_cut (rgo pk2) g3.1 g3.2) el_45 R R hk2) R (wlq (v := bs (gx ((v1.1.drop 1).take (v1.1.length - 1)) k2)) (po_ldf (rds_cut (rgo pk2) g3.1 g3.2) tk_9 R hk2 R) R (asg R R (asg R R (wnt (wcr (mv R R (bdO t1 fun v3 hv3 t1 => (wlc (cz0 fa_15 R fun w hw => c_impl_ParseUint w (hw.tab ht) (gx ((v1.1.drop 1).take (v1.1.length - 1)) k2) hv3) R fun _ => (mv R R (wlq (pex R R) R (wlq (pex R R) R (asg R R (asg R R (wnt (wcs (wcr (mv R R (wlq (po_not R) R (wnt (wcO t1 R (fun h4 t1 => ?_) fun h4 t1 => ?_)))))))))))))))))))))))))))))))
 refine wcr (wlq (po_build R bd_36) R (wls (sbx (cs' := [iv 0, iv 0, iv 0]) tk_36 pk1 R R R R R R R) (asg R R (wnt (wct (wqr (wbr (wqr (wqr (wbr (wqr (wqr ?_))))))))))))
 replace t0 := lpR t0 l1 t1
 obtain rfl := oi t0
 exact wq_retc1 R tk_36 R R pz R fun w hw => ⟨R, hw.weak zn⟩
 refine wck (wqt (wcr (mv R R (wlq (pol R R) R (wnt (wcj (X := Unit) (fun _ => True) (fun _ => [(2, ptr b1 0), (4, (sl x1)), (7, ptr b3 0), (48, (sl (slh x1 1 v1.1.length (Rep.sz Str)))), (49, iv ((((v1.1.drop 1).take (v1.1.length - 1)).length : Nat) : Int)), (50, iv ((k2 : Nat) : Int))]) (fun _ => [box b3 [iv ((bif (((k2 : Nat) : Int) == 0) then (GAct.mk s2.1 v3.1 s2.2.2) else (GAct.mk s2.1 s2.2.1 v3.1)).Kind), iv ((bif (((k2 : Nat) : Int) == 0) then (GAct.mk s2.1 v3.1 s2.2.2) else (GAct.mk s2.1 s2.2.1 v3.1)).A), iv ((bif (((k2 : Nat) : Int) == 0) then (GAct.mk s2.1 v3.1 s2.2.2) else (GAct.mk s2.1 s2.2.1 v3.1)).B)], box b1 [iv 0, iv 0, iv 0], ownF (sl x1) v1.1]) ?_ ?_))))))
 refine wc_cond R (fun h5 => ?_) fun h5 => ?_
 exact wcg (mv R R (wlq (pof fo_36_1 R) R (wls (sbx (cs' := [iv s2.1, iv v3.1, iv s2.2.2]) tk_3 pz R R R R R R R) (wln (wqm () trivial (su6 R R R R R R) (zc (by simp only [h5, cond_true]; exact pz) so2))))))
 exact wcg (mv R R (wlq (pof fo_36_2 R) R (wls (sbx (cs' := [iv s2.1, iv s2.2.1, iv v3.1]) tk_3 pz R R R R R R R) (wln (wqm () trivial (su6 R R R R R R) (zc (by simp only [h5, cond_false]; exact pz) so2))))))
 intro _ _
 refine wqb (wqt (wcg (wlq (po_inc R R (by omega)) R ?_)))
 exact mv R R (wln (wq_rnd hk2 (stpN l1 t1) () (su6 R R R R R R) so3))
 have c2 : (decide (((k2 : Nat) : Int) < ((((v1.1.drop 1).take (v1.1.length - 1)).length : Nat) : Int))) = false := ddf (by omega)
 have en2 := foe l1 hk2
 exact wcr (wlq (pls R R) R (wnt (wcs (wff R c2 (wcx (wqe (wqe (wbx (wjm _ () en2 (su3 R R R) so3)))))))))
 intro e2 _ hp
 replace t0 := sqE (j := e2) t0 hp
 refine wqt (wcs (wcr (wlq (v := .agg #[iv e2.1, iv e2.2.1, iv e2.2.2]) (plb tk_36 pz R R R) R (bdO t0 fun v4 hv4 t0 => (wlc (cz0 fa_6 R fun w hw => c_impl_FormatAct w (hw.tab ht) (GAct.mk e2.1 e2.2.1 e2.2.2) hv4) R fun _ => (mv R R (wlq (pex R R) R (wlq (pex R R) R (asg R R (asg R R (wnt (wcs (bdO t0 fun y1 t1 t0 => (wj (J := Bool) (X := Unit) (fun z => y1 = z) (fun z _ => [(2, ptr b1 0), (7, ptr b3 0), (82, .bool z)]) (fun _ _ => [box b3 [iv e2.1, iv e2.2.1, iv e2.2.2], box b1 [iv 0, iv 0, iv 0]]) ?_ ?_))))))))))))))
 refine wcg (mv R R (wlq (po_not R) R (mv R R (wlo (t := 77) t1 R (fun h6 t1 => ?_) fun h6 t1 => ?_))))
 exact wgf (j := 2) R R R R R (wgf (j := 2) R R R R R (wgf (j := 2) R R R R R (wgf (j := 2) R R R R R (wlq (pit R R) R (wln (wjm _ () (mtE t1) (su3 R R R) so2))))))
 exact wgn (j := 2) R R R (mv R R (wgn (j := 2) R R R (mv R R (bdO t1 fun v5 hv5 t1 => (wgn (j := 2) R R R (wlc (cz0 fa_16 R fun w hw => c_strings_Join w v1.1 x1 (Rg.on (rgo pk2) hw) (⟨[32]⟩ : Str) hv5) R (fun _ => (wgn (j := 2) R R R (wlq (po_sneq R R) R (wlq (pif R R) R (wln (wjm _ () (mtE t1) (su3 R R R) so2))))))))))))
 intro j4 _ hp
 obtain rfl : j4 = y1 := hp.symm
 refine wqt (wcO t0 R (fun h7 t0 => ?_) fun h7 t0 => ?_)
 refine wcr (wlq (po_build R bd_36) R (wls (sbx (cs' := [iv 0, iv 0, iv 0]) tk_36 pk1 R R R R R R R) (asg R R (wnt (wct (wqr ?_))))))
 obtain rfl := oi t0
 exact wq_retc1 R tk_36 R R pz R fun w hw => ⟨R, hw.weak zn⟩
 refine wck (wqt (wcr (wlq (v := .agg #[iv e2.1, iv e2.2.1, iv e2.2.2]) (plb tk_36 pz R R R) R (wls (sbx (cs' := [iv e2.1, iv e2.2.1, iv e2.2.2]) tk_36 pk1 R R R R R R R) (asg R R (wnt (wct ?_)))))))
 obtain rfl := oi t0
 exact wq_retc1 R tk_36 R R pz R fun w hw => ⟨R, hw.weak zn⟩

theorem c_laws_FnActTexts (w : World) (ht : Tb w) (a_code : List UInt8) (v0a : Hd) (r0 : rdF w (dm w []) (sl v0a) a_code) {r : Bool} (t0 : laws_FnActTexts a_code = some r) : Calls Tryz.prog 3 #[(sl v0a)] w fun e w' => e = .returned (.bool r) ∧ SH w [] [] w' := by
 refine cwc (args := [_]) Tryz.func3 R Tryz.ntmps3 R ?_
 unfold laws_FnActTexts at t0
 refine wcr (asg R R (wnt (wcs (wcr (mv R R (bdO t0 fun v1 hv1 t0 => (wlc (cz0 fa_4 R fun w hw => c_laws_big w a_code v0a (ra r0 hw) hv1) R fun _ => (wnt (wcO t0 R (fun h1 t0 => ?_) fun h1 t0 => ?_)))))))))
 refine wcr (asg R R (wnt (wct (wqr ?_))))
 obtain rfl := oi t0
 exact wq1 R R fun w hw => ⟨R, hw.weak zn⟩
 refine wck (wqt (wcr (mv R R (bdO t0 fun v2 hv2 t0 => (wlc (co_c5 fa_5 R fun w hw => c_spec_DrawActs w a_code v0a (ra r0 hw) hv2) R fun x1 => (mv R R (wlq (pex R R) R (wlq (pex R R) R (wle (eal (cs := [(sl hn), (sl hn), (sl hn), (sl hn), iv 0, iv 0]) za_29) R fun b1 => (wls (sbx (cs' := [(sl x1.1), (sl x1.2.1), (sl x1.2.2.1), (sl x1.2.2.2.2.1), iv v2.1.Round, iv v2.1.Year]) tk_29 pz R R R R R R R) (asg R R (wnt (wcs (wcr (asg R R (wnt (gdO t0 fun g1 t0 => (sqO t0 fun y1 l1 t0 => (wj (J := Unit) (X := Unit) (fun z => y1 = .inl z) (fun _ _ => []) (fun _ _ => []) ?_ ?_)))))))))))))))))))
 refine wcb (wcf (X := Unit) l1 (fun k1 s1 x1l => [(4, (sl x1.2.2.2.2.2)), (5, iv ((k1 : Nat) : Int))]) (fun k1 s1 x1l => [ownF (sl x1.2.2.2.2.2) v2.2]) () (su2 R R) (zc pk5 zn) fun k1 s1 x1l hN1 l1 => ?_)
 by_cases hk1 : k1 < v2.2.length
 refine fos l1 hk1 fun _ t1 l1 => ?_
 unfold laws_FnActTexts_L1 at t1
 have c1 : (decide (((k1 : Nat) : Int) < ((v2.2.length : Nat) : Int))) = true := ddt (by omega)
 refine wcs (wcr (mv R R (mv R R (wlq (pln (rgo pz) el_30 R) R (wlq (pls R R) R (wnt (wft R c1 (wck (wqt (wcs (wcb (wcr (mv R R (mv R R (wlq (po_ixn (k := k1) (rgo pz) el_30 R R hk1) R (wlq (v := .agg #[iv ((gx v2.2 k1).Kind), iv ((gx v2.2 k1).A), iv ((gx v2.2 k1).B)]) (po_ldfs (rgo pz) tk_36 R hk1 R R R) R (bdO t1 fun v3 hv3 t1 => (wlc (cz0 fa_6 R fun w hw => c_impl_FormatAct w (hw.tab ht) (gx v2.2 k1) hv3) R fun _ => (mv R R (wlq (pex R R) R (wlq (pex R R) R (asg R R (asg R R (wnt (wcr (mv R R (gdO t1 fun g2 t1 => (wlq (po_sadd R R g2) R (gdO t1 fun g3 t1 => (wlq (po_sadd R R g3) R (bdO t1 fun v4 hv4 t1 => (wlc (cz0 fa_7 R fun w hw => c_impl_ParseAct w (hw.tab ht) (sadd (sadd (⟨[32, 32]⟩ : Str) v3.1) (⟨[32]⟩ : Str)) hv4) R fun _ => (mv R R (wlq (pex R R) R (wlq (pex R R) R (wle (eal (cs := [iv 0, iv 0, iv 0]) za_36) R fun b2 => (wls (sbx (cs' := [iv v4.1.Kind, iv v4.1.A, iv v4.1.B]) tk_36 pz R R R R R R R) (asg R R (wnt ?_)))))))))))))))))))))))))))))))))))))))
 refine wcs (wcj (X := Unit) (fun _ => True) (fun _ => [(4, (sl x1.2.2.2.2.2)), (5, iv ((k1 : Nat) : Int)), (51, .bool ((!v3.2) || ((!v4.2) || (!(beqs [v4.1.Kind, v4.1.A, v4.1.B] [(gx v2.2 k1).Kind, (gx v2.2 k1).A, (gx v2.2 k1).B])))))]) (fun _ => [ownF (sl x1.2.2.2.2.2) v2.2]) ?_ ?_)
 refine wcd [box b2 [iv v4.1.Kind, iv v4.1.A, iv v4.1.B], ownF (sl x1.2.2.2.2.2) v2.2] 14 mixed (aq 0 R (pom R) so2 R (aq 1 R (po_not R) so2 R (aq 2 R (pom R) so2 R (wa_fork (t := 40) R (fun h2 => ?_) fun h2 => ?_))))
 exact af 3 2 R R R R R so2 R (af 4 2 R R R R R so2 R (aq 5 R (pit R R) so2 R (aq 6 R (pom R) so2 R (af 7 6 R R R R R so2 R (af 8 6 R R R R R so2 R (af 9 6 R R R R R so2 R (af 10 6 R R R R R so2 R (af 11 6 R R R R R so2 R (af 12 6 R R R R R so2 R (aq 13 R (pit R R) so2 R (ae (wqm () trivial (yc R (yc R (sub_b R (by rw [h2]; rfl) yn))) (zc pk1 zn)))))))))))))
 refine an 3 2 R R R R (pom R) so2 R (an 4 2 R R R R (po_not R) so2 R (aq 5 R (pif R R) so2 R (aq 6 R (pom R) so2 R (wa_fork (t := 44) R (fun h3 => ?_) fun h3 => ?_))))
 exact af 7 6 R R R R R so2 R (af 8 6 R R R R R so2 R (af 9 6 R R R R R so2 R (af 10 6 R R R R R so2 R (af 11 6 R R R R R so2 R (af 12 6 R R R R R so2 R (aq 13 R (pit R R) so2 R (ae (wqm () trivial (yc R (yc R (sub_b R (by rw [h2, h3]; rfl) yn))) (zc pk1 zn)))))))))
 exact an (v := .agg #[iv v4.1.Kind, iv v4.1.A, iv v4.1.B]) 7 6 R R R R (plb tk_36 pz R R R) so2 R (an 8 6 R R R R (pom R) so2 R (an 9 6 R R R R (pom R) so2 R (an 10 6 R R R R (po_ixn (k := k1) (rgo pk1) el_30 R R hk1) so2 R (an (v := .agg #[iv ((gx v2.2 k1).Kind), iv ((gx v2.2 k1).A), iv ((gx v2.2 k1).B)]) 11 6 R R R R (po_ldfs (rgo pk1) tk_36 R hk1 R R R) so2 R (an 12 6 R R R R (po_neq_struct (ps := [v4.1.Kind, v4.1.A, v4.1.B]) (qs := [(gx v2.2 k1).Kind, (gx v2.2 k1).A, (gx v2.2 k1).B]) sq_36 R R R R) so2 R (aq 13 R (pif R R) so2 R (ae (wqm () trivial (yc R (yc R (sub_b R (by rw [h2, h3]; rfl) yn))) (zc pk1 zn)))))))))
 intro _ _
 refine wqt (wcO t1 R (fun h4 t1 => ?_) fun h4 t1 => ?_)
 refine wcr (asg R R (wnt (wct (wbr (wqr (wqr (wbr (wqr (wqr ?_)))))))))
 replace t0 := lpR t0 l1 t1
 obtain rfl := oi t0
 exact wq1 R R fun w hw => ⟨R, hw.weak zn⟩
 refine wck (wqb (wqt (wcg (mv R R (wlq (po_inc R R (by omega)) R ?_)))))
 exact asg R R (wln (wq_rnd hk1 (stpN l1 t1) () (su2 R R) so1))
 have c1 : (decide (((k1 : Nat) : Int) < ((v2.2.length : Nat) : Int))) = false := ddf (by omega)
 have en1 := foe l1 hk1
 exact wcs (wcr (mv R R (mv R R (wlq (pln (rgo pz) el_30 R) R (wlq (pls R R) R (wnt (wff R c1 (wcx (wqe (wqe (wbx (wjm _ () en1 yn zn))))))))))))
 intro e1 _ hp
 replace t0 := sqE (j := e1) t0 hp
 refine wqt (wcr (asg R R (wnt (wct ?_))))
 obtain rfl := oi t0
 exact wq1 R R fun w hw => ⟨R, hw.weak zn⟩

end Go.Proofs.YtjfjbgihojiijaaGreatDoor
