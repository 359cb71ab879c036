/-
 Each Go function computes its Lean function (part 3).
-/
import Derived.Test.YtkahnmhkfmjomaaGreatDoorWalks2
namespace Go.Proofs.YtkahnmhkfmjomaaGreatDoor
open Go Go.RowKit Go.Proofs
set_option maxRecDepth 100000

theorem c_spec_Submit (w : World) (a_g : GGuild) (v0a : Hd) (r0 : rdF w (dm w []) (sl v0a) a_g.Members) (v1a : Hd) (r1 : rdF w (dm w []) (sl v1a) a_g.Stock) (v2a : Hd) (u2a : List Value) (r2 : RdL w (dm w []) (sl v2a) u2a a_g.Entries) (v3a : Hd) (r3 : rdF w (dm w []) (sl v3a) a_g.Books) (a_number : Int) (a_day : Int) (a_b : GBlock) (v4a : Hd) (r4 : rdF w (dm w []) (sl v4a) a_b.Cells) {r : GGuild × Bool} (t0 : spec_Submit a_g a_number a_day a_b = some r) : Calls Tryz.prog 53 #[.agg #[(sl v0a), (sl v1a), (sl v2a), (sl v3a), .int .i64 a_g.Round, .int .i64 a_g.Year], .int .i64 a_number, .int .i64 a_day, .agg #[.int .i64 a_b.Size, (sl v4a)]] w fun e w' => ∃ x : Hd × Hd × Hd × (List Value) × Hd, e = .returned (.tuple #[.agg #[(sl x.1), (sl x.2.1), (sl x.2.2.1), (sl x.2.2.2.2), .int .i64 r.1.Round, .int .i64 r.1.Year], .bool r.2]) ∧ SH w [] [ownF (sl x.1) r.1.Members, ownF (sl x.2.1) r.1.Stock, own (sl x.2.2.1) x.2.2.2.1 r.1.Entries, ownF (sl x.2.2.2.2) r.1.Books] w' := by
 refine cwc (args := [_, _, _, _]) Tryz.func53 R Tryz.ntmps53 R ?_
 unfold spec_Submit at t0
 refine wcr (wle (eo_box R R) R fun b1 => (wle (eo_box R R) R fun b2 => (wle (eal (cs := [(sl hn), (sl hn), (sl hn), (sl hn), iv 0, iv 0]) za_29) R fun b3 => (asg R R (wnt (wcr (wlq (v := .agg #[(sl v0a), (sl v1a), (sl v2a), (sl v3a), iv a_g.Round, iv a_g.Year]) (plb tk_29 pk2 R R R) R (bdO t0 fun v1 hv1 t0 => (wlc (co_c4 fa_77 R fun w hw => c_spec_l38Copy w a_g v0a (ra r0 hw) v1a (ra r1 hw) v2a u2a (ra r2 hw) v3a (ra r3 hw) hv1) R fun x1 => (wle (eal (cs := [(sl hn), (sl hn), (sl hn), (sl hn), iv 0, iv 0]) za_29) R fun b4 => (wls (sbx (cs' := [(sl x1.1), (sl x1.2.1), (sl x1.2.2.1), (sl x1.2.2.2.2), iv v1.Round, iv v1.Year]) tk_29 pz R R R R R R R) (wnt (wcr (mv R R (mv R R (wlq (v := .agg #[iv a_b.Size, (sl v4a)]) (plb tk_56 pk6 R R R) R (bdO t0 fun v2 hv2 t0 => (wlc (cz1 fa_82 R fun w hw => c_spec_l03Copy w a_b v4a (ra r4 hw) hv2) R fun x2 => (wlq (po_build R (bd_58_0_1_2 a_number a_day v2.Size x2)) R (wle (eal (cs := [iv 0, iv 0, iv 0, (sl hn)]) za_58) R fun b5 => (wls (sbx (cs' := [iv a_number, iv a_day, iv v2.Size, (sl x2)]) tk_58 pz R R R R R R R) (wnt (wcs (wcr (wlq (v := .agg #[(sl v0a), (sl v1a), (sl v2a), (sl v3a), iv a_g.Round, iv a_g.Year]) (plb tk_29 pk9 R R R) R (bdO t0 fun v3 hv3 t0 => (wlc (cz0 fa_76 R fun w hw => c_spec_GuildOk w a_g v0a (ra r0 hw) v1a (ra r1 hw) v2a u2a (ra r2 hw) v3a (ra r3 hw) hv3) R fun _ => (wlq (po_not R) R (wnt (wcO t0 R (fun h1 t0 => ?_) fun h1 t0 => ?_))))))))))))))))))))))))))))))
 refine wcr (wlq (v := .agg #[(sl x1.1), (sl x1.2.1), (sl x1.2.2.1), (sl x1.2.2.2.2), iv v1.Round, iv v1.Year]) (plb tk_29 pk2 R R R) R (wls (sbx (cs' := [(sl x1.1), (sl x1.2.1), (sl x1.2.2.1), (sl x1.2.2.2.2), iv v1.Round, iv v1.Year]) tk_29 pk7 R R R R R R R) (asg R R (wnt (wct (wqr ?_))))))
 obtain rfl := oi t0
 exact wq_retc1 R tk_29 R R pz R fun w hw => ⟨(x1.1, x1.2.1, x1.2.2.1, x1.2.2.2.1, x1.2.2.2.2), R, hw.weak (zc pk4 (zc pk4 (zc pk4 (zc pk4 zn))))⟩
 refine wck (wqt (wcs (wcr (asg R R (wnt (gdO t0 fun g1 t0 => (sqO t0 fun y1 l1 t0 => (wj (J := Unit) (X := Unit) (fun z => y1 = .inl z) (fun _ _ => [(4, ptr b1 0), (8, ptr b3 0), (10, ptr b4 0), (11, ptr b5 0)]) (fun _ _ => [box b5 [iv a_number, iv a_day, iv v2.Size, (sl x2)], ownF (sl x2) v2.Cells, box b4 [(sl x1.1), (sl x1.2.1), (sl x1.2.2.1), (sl x1.2.2.2.2), iv v1.Round, iv v1.Year], ownF (sl x1.1) v1.Members, ownF (sl x1.2.1) v1.Stock, own (sl x1.2.2.1) x1.2.2.2.1 v1.Entries, ownF (sl x1.2.2.2.2) v1.Books, box b3 [(sl hn), (sl hn), (sl hn), (sl hn), iv 0, iv 0], box b1 [(sl v0a), (sl v1a), (sl v2a), (sl v3a), iv a_g.Round, iv a_g.Year]]) ?_ ?_))))))))
 refine wcb (wcf (X := Unit) l1 (fun k1 s1 x1l => [(4, ptr b1 0), (8, ptr b3 0), (10, ptr b4 0), (11, ptr b5 0), (12, iv ((k1 : Nat) : Int))]) (fun k1 s1 x1l => [box b5 [iv a_number, iv a_day, iv v2.Size, (sl x2)], ownF (sl x2) v2.Cells, box b4 [(sl x1.1), (sl x1.2.1), (sl x1.2.2.1), (sl x1.2.2.2.2), iv v1.Round, iv v1.Year], ownF (sl x1.1) v1.Members, ownF (sl x1.2.1) v1.Stock, own (sl x1.2.2.1) x1.2.2.2.1 v1.Entries, ownF (sl x1.2.2.2.2) v1.Books, box b3 [(sl hn), (sl hn), (sl hn), (sl hn), iv 0, iv 0], box b1 [(sl v0a), (sl v1a), (sl v2a), (sl v3a), iv a_g.Round, iv a_g.Year]]) () (su5 R R R R R) (zc pz (zc pz (zc pz (zc pz (zc pz (zc pz (zc pz (zc pz (zc pk1 zn))))))))) fun k1 s1 x1l hN1 l1 => ?_)
 by_cases hk1 : k1 < a_g.Entries.length
 refine fos l1 hk1 fun _ t1 l1 => ?_
 unfold spec_Submit_L1 at t1
 have c1 : (decide (((k1 : Nat) : Int) < ((a_g.Entries.length : Nat) : Int))) = true := ddt (by omega)
 refine wcs (wcr (mv R R (wlq (pof fo_29_2 R) R (wlq (v := (sl v2a)) (plx tk_26 pk8 R R) R (wlq (pln (rga r2) el_26 R) R (wlq (pls R R) R (wnt (wft R c1 (wck (wqt (wcs (wcb (wcs (wcd [box b5 [iv a_number, iv a_day, iv v2.Size, (sl x2)], ownF (sl x2) v2.Cells, box b4 [(sl x1.1), (sl x1.2.1), (sl x1.2.2.1), (sl x1.2.2.2.2), iv v1.Round, iv v1.Year], ownF (sl x1.1) v1.Members, ownF (sl x1.2.1) v1.Stock, own (sl x1.2.2.1) x1.2.2.2.1 v1.Entries, ownF (sl x1.2.2.2.2) v1.Books, box b3 [(sl hn), (sl hn), (sl hn), (sl hn), iv 0, iv 0], box b1 [(sl v0a), (sl v1a), (sl v2a), (sl v3a), iv a_g.Round, iv a_g.Year]] 7 mixed (aq (v := .agg #[iv a_number, iv a_day, iv v2.Size, (sl x2)]) 0 R (plb tk_58 pz R R R) so9 R (aq 1 R (pof fo_29_2 R) so9 R (aq (v := (sl v2a)) 2 R (plx tk_26 pk8 R R) so9 R (aq 3 R (pom R) so9 R (aq 4 R (po_ixn (k := k1) (rga r2) el_26 R R hk1) so9 R (wa_elem (rga r2) hk1 ?_))))))))))))))))))))
 rintro ⟨_, _, he1⟩
 obtain ⟨w1, hc1, _⟩ := rd_GEntry.1 he1
 refine aq (v := .agg #[iv ((gx a_g.Entries k1).Owner), iv ((gx a_g.Entries k1).Day), iv (((gx a_g.Entries k1).Block).Size), (sl w1)]) 5 R (po_ldns (rga r2) tk_58 R hc1 R R R) so9 R (a1 6 (bdO t1 fun v4 hv4 t1 => (wsc R (cz0 fa_83 R fun w hw => c_spec_IsCopy w (GEntry.mk a_number a_day v2) x2 (Rg.on (rgo pk1) hw) (gx a_g.Entries k1) w1 (Rg.on (er_GEntry_0 hc1 (rga r2) hk1) hw) hv4) (fun _ => (zt so9)) R fun _ => (ae (wqt (wcO t1 R (fun h2 t1 => ?_) fun h2 t1 => ?_))))))
 refine wcr (wlq (v := .agg #[(sl x1.1), (sl x1.2.1), (sl x1.2.2.1), (sl x1.2.2.2.2), iv v1.Round, iv v1.Year]) (plb tk_29 pk2 R R R) R (wls (sbx (cs' := [(sl x1.1), (sl x1.2.1), (sl x1.2.2.1), (sl x1.2.2.2.2), iv v1.Round, iv v1.Year]) tk_29 pk7 R R R R R R R) (asg R R (wnt (wct (wbr (wqr (wqr (wbr (wqr (wqr ?_)))))))))))
 replace t0 := lpR t0 l1 t1
 obtain rfl := oi t0
 exact wq_retc1 R tk_29 R R pz R fun w hw => ⟨(x1.1, x1.2.1, x1.2.2.1, x1.2.2.2.1, x1.2.2.2.2), R, hw.weak (zc pk4 (zc pk4 (zc pk4 (zc pk4 zn))))⟩
 refine wck (wqb (wqt (wcg (mv R R (wlq (po_inc R R (by omega)) R ?_)))))
 exact asg R R (wln (wq_rnd hk1 (stpN l1 t1) () (su5 R R R R R) so9))
 have c1 : (decide (((k1 : Nat) : Int) < ((a_g.Entries.length : Nat) : Int))) = false := ddf (by omega)
 have en1 := foe l1 hk1
 exact wcs (wcr (mv R R (wlq (pof fo_29_2 R) R (wlq (v := (sl v2a)) (plx tk_26 pk8 R R) R (wlq (pln (rga r2) el_26 R) R (wlq (pls R R) R (wnt (wff R c1 (wcx (wqe (wqe (wbx (wjm _ () en1 (su4 R R R R) so9)))))))))))))
 intro e1 _ hp
 replace t0 := sqE (j := e1) t0 hp
 refine wqt (wcr (wlq (v := .agg #[(sl v0a), (sl v1a), (sl v2a), (sl v3a), iv a_g.Round, iv a_g.Year]) (plb tk_29 pk8 R R R) R (bdO t0 fun v5 hv5 t0 => (wlc (co_c4 fa_77 R fun w hw => c_spec_l38Copy w a_g v0a (ra r0 hw) v1a (ra r1 hw) v2a u2a (ra r2 hw) v3a (ra r3 hw) hv5) R fun x4 => (wle (eal (cs := [(sl hn), (sl hn), (sl hn), (sl hn), iv 0, iv 0]) za_29) R fun b6 => (wls (sbx (cs' := [(sl x4.1), (sl x4.2.1), (sl x4.2.2.1), (sl x4.2.2.2.2), iv v5.Round, iv v5.Year]) tk_29 pz R R R R R R R) (wnt (wcr (wlq (pof fo_29_2 R) R (wlq (v := (sl x4.2.2.1)) (plx tk_26 pz R R) R (wlq (v := .agg #[iv a_number, iv a_day, iv v2.Size, (sl x2)]) (plb tk_58 pk5 R R R) R (wle (ebs R (sb_26_1 a_number a_day v2.Size x2)) R fun b7 => (gdO t0 fun g2 t0 => (wle (eo_append_one (us := x4.2.2.2.1) (xs := v5.Entries) ak_26 pk4 (pow_GEntry (x := (GEntry.mk a_number a_day v2)) pk6) pz R R R g2) R fun x5 => (wlq (pof fo_29_2 R) R (wls (sbx (cs' := [(sl x4.1), (sl x4.2.1), (sl x5), (sl x4.2.2.2.2), iv v5.Round, iv v5.Year]) tk_26 pk2 R R R R R R R) (wnt (wcs (wcr (wlq (v := .agg #[(sl x4.1), (sl x4.2.1), (sl x5), (sl x4.2.2.2.2), iv v5.Round, iv v5.Year]) (plb tk_29 pz R R R) R (bdO t0 fun v6 hv6 t0 => (wlc (cz0 fa_76 R fun w hw => c_spec_GuildOk w (GGuild.mk v5.Members v5.Stock (v5.Entries ++ [(GEntry.mk a_number a_day v2)]) v5.Books v5.Round v5.Year) x4.1 (Rg.on (rgo pk3) hw) x4.2.1 (Rg.on (rgo pk4) hw) x5 (x4.2.2.2.1 ++ [iv a_number, iv a_day, iv v2.Size, (sl x2)]) (Rg.on (rgo pk1) hw) x4.2.2.2.2 (Rg.on (rgo pk5) hw) hv6) R fun _ => (wlq (po_not R) R (wnt (wcO t0 R (fun h3 t0 => ?_) fun h3 t0 => ?_)))))))))))))))))))))))))
 refine wcr (wlq (v := .agg #[(sl x1.1), (sl x1.2.1), (sl x1.2.2.1), (sl x1.2.2.2.2), iv v1.Round, iv v1.Year]) (plb tk_29 pk7 R R R) R (wls (sbx (cs' := [(sl x1.1), (sl x1.2.1), (sl x1.2.2.1), (sl x1.2.2.2.2), iv v1.Round, iv v1.Year]) tk_29 pk12 R R R R R R R) (asg R R (wnt (wct (wqr ?_))))))
 obtain rfl := oi t0
 exact wq_retc1 R tk_29 R R pz R fun w hw => ⟨(x1.1, x1.2.1, x1.2.2.1, x1.2.2.2.1, x1.2.2.2.2), R, hw.weak (zc pk9 (zc pk9 (zc pk9 (zc pk9 zn))))⟩
 refine wck (wqt (wcr (wlq (v := .agg #[(sl x4.1), (sl x4.2.1), (sl x5), (sl x4.2.2.2.2), iv v5.Round, iv v5.Year]) (plb tk_29 pz R R R) R (wls (sbx (cs' := [(sl x4.1), (sl x4.2.1), (sl x5), (sl x4.2.2.2.2), iv v5.Round, iv v5.Year]) tk_29 pk12 R R R R R R R) (asg R R (wnt (wct ?_)))))))
 obtain rfl := oi t0
 exact wq_retc1 R tk_29 R R pz R fun w hw => ⟨(x4.1, x4.2.1, x5, (x4.2.2.2.1 ++ [iv a_number, iv a_day, iv v2.Size, (sl x2)]), x4.2.2.2.2), R, hw.weak (zc pk4 (zc pk4 (zc pk2 (zc pk3 zn))))⟩

theorem c_spec_SwapRound (w : World) (a_g : GGuild) (v0a : Hd) (r0 : rdF w (dm w []) (sl v0a) a_g.Members) (v1a : Hd) (r1 : rdF w (dm w []) (sl v1a) a_g.Stock) (v2a : Hd) (u2a : List Value) (r2 : RdL w (dm w []) (sl v2a) u2a a_g.Entries) (v3a : Hd) (r3 : rdF w (dm w []) (sl v3a) a_g.Books) {r : GGuild × Bool} (t0 : spec_SwapRound a_g = some r) : Calls Tryz.prog 54 #[.agg #[(sl v0a), (sl v1a), (sl v2a), (sl v3a), .int .i64 a_g.Round, .int .i64 a_g.Year]] w fun e w' => ∃ x : Hd × Hd × Hd × (List Value) × Hd, e = .returned (.tuple #[.agg #[(sl x.1), (sl x.2.1), (sl x.2.2.1), (sl x.2.2.2.2), .int .i64 r.1.Round, .int .i64 r.1.Year], .bool r.2]) ∧ SH w [] [ownF (sl x.1) r.1.Members, ownF (sl x.2.1) r.1.Stock, own (sl x.2.2.1) x.2.2.2.1 r.1.Entries, ownF (sl x.2.2.2.2) r.1.Books] w' := by
 refine cwc (args := [_]) Tryz.func54 R Tryz.ntmps54 R ?_
 unfold spec_SwapRound at t0
 refine wcr (wle (eo_box R R) R fun b1 => (wle (eal (cs := [(sl hn), (sl hn), (sl hn), (sl hn), iv 0, iv 0]) za_29) R fun b2 => (asg R R (wnt (wcr (wlq (v := .agg #[(sl v0a), (sl v1a), (sl v2a), (sl v3a), iv a_g.Round, iv a_g.Year]) (plb tk_29 pk1 R R R) R (bdO t0 fun v1 hv1 t0 => (wlc (co_c4 fa_77 R fun w hw => c_spec_l38Copy w a_g v0a (ra r0 hw) v1a (ra r1 hw) v2a u2a (ra r2 hw) v3a (ra r3 hw) hv1) R fun x1 => (wle (eal (cs := [(sl hn), (sl hn), (sl hn), (sl hn), iv 0, iv 0]) za_29) R fun b3 => (wls (sbx (cs' := [(sl x1.1), (sl x1.2.1), (sl x1.2.2.1), (sl x1.2.2.2.2), iv v1.Round, iv v1.Year]) tk_29 pz R R R R R R R) (wnt (wcr (wlq (pof fo_29_4 R) R (wlq (v := iv v1.Round) (plx tk_3 pz R R) R (wlq (po_add R R) R (wlq (pof fo_29_4 R) R (wls (sbx (cs' := [(sl x1.1), (sl x1.2.1), (sl x1.2.2.1), (sl x1.2.2.2.2), iv (wr (v1.Round + 1)), iv v1.Year]) tk_3 pz R R R R R R R) (wnt (wcs (wcs (bdO t0 fun y1 t1 t0 => (wj (J := Bool) (X := Unit) (fun z => y1 = z) (fun z _ => [(1, ptr b1 0), (2, ptr b2 0), (4, ptr b3 0), (18, .bool z)]) (fun _ _ => [box b3 [(sl x1.1), (sl x1.2.1), (sl x1.2.2.1), (sl x1.2.2.2.2), iv (wr (v1.Round + 1)), iv v1.Year], box b2 [(sl hn), (sl hn), (sl hn), (sl hn), iv 0, iv 0], box b1 [(sl v0a), (sl v1a), (sl v2a), (sl v3a), iv a_g.Round, iv a_g.Year], ownF (sl x1.1) v1.Members, ownF (sl x1.2.1) v1.Stock, own (sl x1.2.2.1) x1.2.2.2.1 v1.Entries, ownF (sl x1.2.2.2.2) v1.Books]) ?_ ?_))))))))))))))))))))))
 refine wcg (wlq (v := .agg #[(sl v0a), (sl v1a), (sl v2a), (sl v3a), iv a_g.Round, iv a_g.Year]) (plb tk_29 pk6 R R R) R (bdO t1 fun v2 hv2 t1 => (wlc (cz0 fa_76 R fun w hw => c_spec_GuildOk w a_g v0a (ra r0 hw) v1a (ra r1 hw) v2a u2a (ra r2 hw) v3a (ra r3 hw) hv2) R fun _ => (wlq (po_not R) R (mv R R (wlo (t := 14) t1 R (fun h1 t1 => ?_) fun h1 t1 => ?_))))))
 exact wgf (j := 3) R R R R R (wgf (j := 3) R R R R R (wgf (j := 3) R R R R R (wlq (pit R R) R (wln (wjm _ () (mtE t1) (su4 R R R R) (zc pz (zc pk4 (zc pk4 so4))))))))
 exact wgn (j := 3) R R R (wlq (v := .agg #[(sl x1.1), (sl x1.2.1), (sl x1.2.2.1), (sl x1.2.2.2.2), iv (wr (v1.Round + 1)), iv v1.Year]) (plb tk_29 pz R R R) R (bdO t1 fun v3 hv3 t1 => (wgn (j := 3) R R R (wlc (cz0 fa_76 R fun w hw => c_spec_GuildOk w (GGuild.mk v1.Members v1.Stock v1.Entries v1.Books (wr (v1.Round + 1)) v1.Year) x1.1 (Rg.on (rgo pk1) hw) x1.2.1 (Rg.on (rgo pk2) hw) x1.2.2.1 x1.2.2.2.1 (Rg.on (rgo pk3) hw) x1.2.2.2.2 (Rg.on (rgo pk4) hw) hv3) R (fun _ => (wgn (j := 3) R R R (wlq (po_not R) R (wlq (pif R R) R (wln (wjm _ () (mtE t1) (su4 R R R R) (zc pz (zc pk4 (zc pk4 so4)))))))))))))
 intro j1 _ hp
 obtain rfl : j1 = y1 := hp.symm
 refine wqt (wcO t0 R (fun h2 t0 => ?_) fun h2 t0 => ?_)
 refine wcr (wlq (v := .agg #[(sl v0a), (sl v1a), (sl v2a), (sl v3a), iv a_g.Round, iv a_g.Year]) (plb tk_29 pk2 R R R) R (bdO t0 fun v4 hv4 t0 => (wlc (co_c4 fa_77 R fun w hw => c_spec_l38Copy w a_g v0a (ra r0 hw) v1a (ra r1 hw) v2a u2a (ra r2 hw) v3a (ra r3 hw) hv4) R fun x3 => (wls (sbx (cs' := [(sl x3.1), (sl x3.2.1), (sl x3.2.2.1), (sl x3.2.2.2.2), iv v4.Round, iv v4.Year]) tk_29 pk5 R R R R R R R) (asg R R (wnt (wct (wqr ?_))))))))
 obtain rfl := oi t0
 exact wq_retc1 R tk_29 R R pz R fun w hw => ⟨(x3.1, x3.2.1, x3.2.2.1, x3.2.2.2.1, x3.2.2.2.2), R, hw.weak (zc pk1 (zc pk1 (zc pk1 (zc pk1 zn))))⟩
 refine wck (wqt (wcr (wlq (v := .agg #[(sl x1.1), (sl x1.2.1), (sl x1.2.2.1), (sl x1.2.2.2.2), iv (wr (v1.Round + 1)), iv v1.Year]) (plb tk_29 pz R R R) R (wls (sbx (cs' := [(sl x1.1), (sl x1.2.1), (sl x1.2.2.1), (sl x1.2.2.2.2), iv (wr (v1.Round + 1)), iv v1.Year]) tk_29 pk1 R R R R R R R) (asg R R (wnt (wct ?_)))))))
 obtain rfl := oi t0
 exact wq_retc1 R tk_29 R R pz R fun w hw => ⟨(x1.1, x1.2.1, x1.2.2.1, x1.2.2.2.1, x1.2.2.2.2), R, hw.weak (zc pk3 (zc pk3 (zc pk3 (zc pk3 zn))))⟩

theorem c_spec_l31Stock (w : World) (fp : List Nat) (b0p : Nat) (a_c0 : List UInt8) (v0a : Hd) (r0 : rdF w (dm w fp) (sl v0a) a_c0) (a_c1 : Int) (a_c2 : Int) (a_top : Int) (o : Ow w [box b0p [(sl v0a), .int .i64 a_c1, .int .i64 a_c2]] fp) {r : (List Int) × Int × Int} (t0 : spec_l31Stock a_c0 a_c1 a_c2 a_top = some r) : Calls Tryz.prog 55 #[ptr b0p 0, .int .i64 a_top] w fun e w' => ∃ x : Hd, e = .returned ((sl x)) ∧ SH w fp [ownF (sl x) r.1, box b0p [(sl v0a), .int .i64 r.2.1, .int .i64 r.2.2]] w' := by
 refine calls_of_wc_own (args := [_, _]) o Tryz.func55 R Tryz.ntmps55 R ?_
 unfold spec_l31Stock at t0
 refine wcr (asg R R (wnt (wcr (wle (ebs R sb_25_0) R fun b1 => (asg R R (wnt (wcs (wcr (asg R R (wnt (lpO_inv t0 fun y1 l1 t0 => (wj (J := (List Int) × Int × Int) (X := Hd) (fun z => y1 = z) (fun _ x => [(5, (sl x))]) (fun z x => [box b0p [(sl v0a), iv z.2.1, iv z.2.2], ownF (sl x) z.1]) ?_ ?_))))))))))))
 refine wcb (wcf (X := Hd) l1 (fun k1 s1 x1l => [(0, ptr b0p 0), (1, iv a_top), (5, (sl x1l)), (6, iv ((k1 : Nat) : Int))]) (fun k1 s1 x1l => [box b0p [(sl v0a), iv s1.2.1, iv s1.2.2], ownF (sl x1l) s1.1]) (⟨some ⟨b1, 0, none⟩, 0, 0⟩ : Hd) (su4 R R R R) (zc pk1 (zc (pbo pz (n := 0) (xs := ([] : List Int)) R R (by unfold maxLen; omega)) zn)) fun k1 s1 x1l hN1 l1 => ?_)
 by_cases hk1 : k1 < 6
 refine fos l1 hk1 fun _ t1 l1 => ?_
 unfold spec_l31Stock_L1 at t1
 have c1 : (decide (((k1 : Nat) : Int) < 6)) = true := ddt (by omega)
 refine wcs (wcr (mv R R (wlq (pls R R) R (wnt (wft R c1 (wck (wqt (wcs (wcb (wcg (mv R R (mv R R (mv R R (bdO t1 fun v1 hv1 t1 => (wlc (co_o1 [box b0p [(sl v0a), iv s1.2.1, iv s1.2.2]] fa_14 (zc pz some_refl) R fun w fp hw => c_spec_l01Below w fp b0p a_c0 v0a ((rdo_arg r0) w fp hw) s1.2.1 s1.2.2 a_top hw.ow hv1) R fun _ => (wle (ebs R (sb_25_1 v1.1)) R fun b2 => (gdO t1 fun g1 t1 => (wle (eo_append (xs := s1.1) (ys := ([v1.1] : List Int)) ak_25 pk2 R R (slin_rd fun _ g => Rg.on (rgo (pbo pz (n := 1) (xs := ([v1.1] : List Int)) R R (by unfold maxLen; omega))) g) g1) R fun x2 => ?_))))))))))))))))))
 refine asg R R (wln (wqb (wqt (wcg (mv R R (wlq (po_inc R R (by omega)) R ?_))))))
 exact asg R R (wln (wq_rnd hk1 (stpN l1 t1) x2 (su4 R R R R) (zc pk2 so1)))
 have c1 : (decide (((k1 : Nat) : Int) < 6)) = false := ddf (by omega)
 have en1 := foe l1 hk1
 exact wcs (wcr (mv R R (wlq (pls R R) R (wnt (wff R c1 (wcx (wqe (wqe (wbx (wjm _ x1l (Sum.inl.inj en1) (su1 R) so2))))))))))
 intro e1 x1 hp
 obtain rfl : e1 = y1 := hp.symm
 refine wqt (wcr (mv R R (asg R R (wnt (wct ?_)))))
 obtain rfl := oi t0
 exact wq1 R R fun w hw => ⟨x1, R, hw.weak (zc pk1 so1)⟩

theorem c_spec_l38Guild (w : World) (fp : List Nat) (b0p : Nat) (a_c0 : List UInt8) (v0a : Hd) (r0 : rdF w (dm w fp) (sl v0a) a_c0) (a_c1 : Int) (a_c2 : Int) (o : Ow w [box b0p [(sl v0a), .int .i64 a_c1, .int .i64 a_c2]] fp) {r : GGuild × Int × Int} (t0 : spec_l38Guild a_c0 a_c1 a_c2 = some r) : Calls Tryz.prog 24 #[ptr b0p 0] w fun e w' => ∃ x : Hd × Hd × Hd × (List Value) × Hd, e = .returned (.agg #[(sl x.1), (sl x.2.1), (sl x.2.2.1), (sl x.2.2.2.2), .int .i64 r.1.Round, .int .i64 r.1.Year]) ∧ SH w fp [ownF (sl x.1) r.1.Members, ownF (sl x.2.1) r.1.Stock, own (sl x.2.2.1) x.2.2.2.1 r.1.Entries, ownF (sl x.2.2.2.2) r.1.Books, box b0p [(sl v0a), .int .i64 r.2.1, .int .i64 r.2.2]] w' := by
 refine calls_of_wc_own (args := [_]) o Tryz.func24 R Tryz.ntmps24 R ?_
 unfold spec_l38Guild at t0
 refine wcr (wle (eal (cs := [(sl hn), (sl hn), (sl hn), (sl hn), iv 0, iv 0]) za_29) R fun b1 => (wnt (wcr (mv R R (bdO t0 fun v1 hv1 t0 => (wlc (co_o1 [box b0p [(sl v0a), iv a_c1, iv a_c2]] fa_14 (zc pk1 some_refl) R fun w fp hw => c_spec_l01Below w fp b0p a_c0 v0a ((rdo_arg r0) w fp hw) a_c1 a_c2 20 hw.ow hv1) R fun _ => (wlq (po_add R R) R (bdO t0 fun v2 hv2 t0 => (wlc (co_c4 fa_50 R fun w hw => c_spec_NewGuild w (wr (2000 + v1.1)) hv2) R fun x1 => (mv R R (wlq (pex R R) R (wlq (pex R R) R (wle (eal (cs := [(sl hn), (sl hn), (sl hn), (sl hn), iv 0, iv 0]) za_29) R fun b2 => (wls (sbx (cs' := [(sl x1.1), (sl x1.2.1), (sl x1.2.2.1), (sl x1.2.2.2.2), iv v2.1.Round, iv v2.1.Year]) tk_29 pz R R R R R R R) (asg R R (wnt (wcs (wcr (mv R R (bdO t0 fun v3 hv3 t0 => (wlc (co_o1 [box b0p [(sl v0a), iv v1.2.1, iv v1.2.2]] fa_14 (zc pk5 some_refl) R fun w fp hw => c_spec_l01Below w fp b0p a_c0 v0a ((rdo_arg r0) w fp hw) v1.2.1 v1.2.2 5 hw.ow hv3) R fun _ => (asg R R (wnt (wlO_inv t0 fun y1 l1 t0 => (wj (J := Int × Int × Int × (List GMember) × (List Int) × (List GEntry) × (List GBooking) × Int × Int) (X := Hd × Hd × Hd × (List Value) × Hd) (fun z => y1 = z) (fun _ _ => [(0, ptr b0p 0), (2, ptr b1 0), (3, ptr b2 0)]) (fun z x => [box b0p [(sl v0a), iv z.2.1, iv z.2.2.1], box b2 [(sl x.1), (sl x.2.1), (sl x.2.2.1), (sl x.2.2.2.2), iv z.2.2.2.2.2.2.2.1, iv z.2.2.2.2.2.2.2.2], ownF (sl x.1) z.2.2.2.1, ownF (sl x.2.1) z.2.2.2.2.1, own (sl x.2.2.1) x.2.2.2.1 z.2.2.2.2.2.1, ownF (sl x.2.2.2.2) z.2.2.2.2.2.2.1, box b1 [(sl hn), (sl hn), (sl hn), (sl hn), iv 0, iv 0]]) ?_ ?_)))))))))))))))))))))))))
 refine wcb (wc_whO (X := Hd × Hd × Hd × (List Value) × Hd) l1 (fun s1 x1l => [(0, ptr b0p 0), (2, ptr b1 0), (3, ptr b2 0), (5, iv s1.1)]) (fun s1 x1l => [box b0p [(sl v0a), iv s1.2.1, iv s1.2.2.1], box b2 [(sl x1l.1), (sl x1l.2.1), (sl x1l.2.2.1), (sl x1l.2.2.2.2), iv s1.2.2.2.2.2.2.2.1, iv s1.2.2.2.2.2.2.2.2], ownF (sl x1l.1) s1.2.2.2.1, ownF (sl x1l.2.1) s1.2.2.2.2.1, own (sl x1l.2.2.1) x1l.2.2.2.1 s1.2.2.2.2.2.1, ownF (sl x1l.2.2.2.2) s1.2.2.2.2.2.2.1, box b1 [(sl hn), (sl hn), (sl hn), (sl hn), iv 0, iv 0]]) (x1.1, x1.2.1, x1.2.2.1, x1.2.2.2.1, x1.2.2.2.2) (su4 R R R R) so7 fun m1 s1 x1l l1 => (whO_step l1 fun _ t1 l1 => ?_))
 unfold spec_l38Guild_L1 at t1
 refine wcs (wcr (mv R R (wlq (po_gtr R R) R (wnt (wcO t1 R (fun h1 t1 => ?_) fun h1 t1 => ?_)))))
 refine wck (wqt (wcs (wcb (bdO t1 fun v4 hv4 t1 => (bdO t1 fun v5 hv5 t1 => (wcj (X := Hd × Hd × Hd × (List Value) × Hd) (fun _ => True) (fun z => [(0, ptr b0p 0), (2, ptr b1 0), (3, ptr b2 0), (5, iv s1.1)]) (fun z => [box b2 [(sl z.1), (sl z.2.1), (sl z.2.2.1), (sl z.2.2.2.2), iv v5.1.Round, iv v5.1.Year], ownF (sl z.1) v5.1.Members, ownF (sl z.2.1) v5.1.Stock, own (sl z.2.2.1) z.2.2.2.1 v5.1.Entries, ownF (sl z.2.2.2.2) v5.1.Books, box b0p [(sl v0a), iv v4.2.1, iv v4.2.2], box b1 [(sl hn), (sl hn), (sl hn), (sl hn), iv 0, iv 0]]) ?_ ?_))))))
 refine wcd [box b2 [(sl x1l.1), (sl x1l.2.1), (sl x1l.2.2.1), (sl x1l.2.2.2.2), iv s1.2.2.2.2.2.2.2.1, iv s1.2.2.2.2.2.2.2.2], ownF (sl x1l.1) s1.2.2.2.1, ownF (sl x1l.2.1) s1.2.2.2.2.1, own (sl x1l.2.2.1) x1l.2.2.2.1 s1.2.2.2.2.2.1, ownF (sl x1l.2.2.2.2) s1.2.2.2.2.2.2.1, box b1 [(sl hn), (sl hn), (sl hn), (sl hn), iv 0, iv 0]] 8 mixed (aq (v := .agg #[(sl x1l.1), (sl x1l.2.1), (sl x1l.2.2.1), (sl x1l.2.2.2.2), iv s1.2.2.2.2.2.2.2.1, iv s1.2.2.2.2.2.2.2.2]) 0 R (plb tk_29 pz R R R) (zc pk1 (zc pk1 (zc pk1 (zc pk1 (zc pk1 (zc pk1 zn)))))) R (aq 1 R (pom R) (zc pk1 (zc pk1 (zc pk1 (zc pk1 (zc pk1 (zc pk1 zn)))))) R (a1 2 (wsc R (co_o1 [box b0p [(sl v0a), iv s1.2.1, iv s1.2.2.1]] fa_14 (zc pz some_refl) R fun w fp hw => c_spec_l01Below w fp b0p a_c0 v0a ((rdo_arg r0) w fp hw) s1.2.1 s1.2.2.1 8 hw.ow hv4) (fun _ => (zt (zc pk1 (zc pk1 (zc pk1 (zc pk1 (zc pk1 (zc pk1 zn)))))))) R fun _ => (aq 3 R (po_add R R) (zc pk1 (zc pk1 (zc pk1 (zc pk1 (zc pk1 (zc pk1 zn)))))) R (a1 4 (wsc R (co_c4 fa_51 R fun w hw => c_spec_Admit w (GGuild.mk s1.2.2.2.1 s1.2.2.2.2.1 s1.2.2.2.2.2.1 s1.2.2.2.2.2.2.1 s1.2.2.2.2.2.2.2.1 s1.2.2.2.2.2.2.2.2) x1l.1 (Rg.on (rgo pk2) hw) x1l.2.1 (Rg.on (rgo pk3) hw) x1l.2.2.1 x1l.2.2.2.1 (Rg.on (rgo pk4) hw) x1l.2.2.2.2 (Rg.on (rgo pk5) hw) (wr (1 + v4.1)) hv5) (fun _ => (zt (zc pk5 (zc pk5 (zc pk5 (zc pk5 (zc pk5 (zc pk5 zn)))))))) R fun x3 => (aq 5 R (pom R) (zc pk5 (zc pk5 (zc pk5 (zc pk5 (zc pk5 (zc pk5 zn)))))) R (aq 6 R (pex R R) (zc pk5 (zc pk5 (zc pk5 (zc pk5 (zc pk5 (zc pk5 zn)))))) R (wa_2 (i := 7) (j := 8) (by kernel_rfl) ?_ ?_))))))))))
 refine ws_pure R (pex R R) (zt (zc pk5 (zc pk5 (zc pk5 (zc pk5 (zc pk5 (zc pk5 zn))))))) R (a1 8 (ws_skipop R (sbx (cs' := [(sl x3.1), (sl x3.2.1), (sl x3.2.2.1), (sl x3.2.2.2.2), iv v5.1.Round, iv v5.1.Year]) tk_29 pk5 R R R R R R R) (sts_past (by kernel_rfl)) ?_))
 exact ae (wqm x3 trivial (su4 R R R R) (zc pz (zc pz (zc pz (zc pz (zc pz (zc pz (zc pk4 zn))))))))
 refine ws_skipop R (sbx (cs' := [(sl x3.1), (sl x3.2.1), (sl x3.2.2.1), (sl x3.2.2.2.2), iv v5.1.Round, iv v5.1.Year]) tk_29 pk5 R R R R R R R) (sts_past (by kernel_rfl)) ?_
 refine a1 7 (ws_pure R (pex R R) (sts_past (by kernel_rfl)) R ?_)
 exact ae (wqm x3 trivial (su4 R R R R) (zc pz (zc pz (zc pz (zc pz (zc pz (zc pz (zc pk4 zn))))))))
 intro x4 _
 exact wqb (wqt (wcg (mv R R (wlq (po_sub R R) R (asg R R (wln (wq_rndw (stwN l1 t1) (x4.1, x4.2.1, x4.2.2.1, x4.2.2.2.1, x4.2.2.2.2) (su4 R R R R) (zc pk5 so6))))))))
 exact wcx (wqe (wqe (wbx (wjm _ (x1l.1, x1l.2.1, x1l.2.2.1, x1l.2.2.2.1, x1l.2.2.2.2) (Sum.inl.inj (stwB l1 t1)) (su3 R R R) so7))))
 intro e1 x2 hp
 obtain rfl : e1 = y1 := hp.symm
 refine wqt (wcr (asg R R (wnt (wcs (wcr (mv R R (bdO t0 fun v6 hv6 t0 => (wlc (co_o1 [box b0p [(sl v0a), iv e1.2.1, iv e1.2.2.1]] fa_14 (zc pz some_refl) R fun w fp hw => c_spec_l01Below w fp b0p a_c0 v0a ((rdo_arg r0) w fp hw) e1.2.1 e1.2.2.1 4 hw.ow hv6) R fun _ => (asg R R (wnt (wlO_inv t0 fun y1 l1 t0 => (wj (J := Int × Int × Int × Int × (List GMember) × (List Int) × (List GEntry) × (List GBooking) × Int × Int) (X := Hd × Hd × Hd × (List Value) × Hd) (fun z => y1 = z) (fun _ _ => [(0, ptr b0p 0), (2, ptr b1 0), (3, ptr b2 0)]) (fun z x => [box b0p [(sl v0a), iv z.2.2.1, iv z.2.2.2.1], box b2 [(sl x.1), (sl x.2.1), (sl x.2.2.1), (sl x.2.2.2.2), iv z.2.2.2.2.2.2.2.2.1, iv z.2.2.2.2.2.2.2.2.2], ownF (sl x.1) z.2.2.2.2.1, ownF (sl x.2.1) z.2.2.2.2.2.1, own (sl x.2.2.1) x.2.2.2.1 z.2.2.2.2.2.2.1, ownF (sl x.2.2.2.2) z.2.2.2.2.2.2.2.1, box b1 [(sl hn), (sl hn), (sl hn), (sl hn), iv 0, iv 0]]) ?_ ?_))))))))))))
 refine wcb (wc_whO (X := Hd × Hd × Hd × (List Value) × Hd) l1 (fun s2 x2l => [(0, ptr b0p 0), (2, ptr b1 0), (3, ptr b2 0), (6, iv s2.1), (7, iv s2.2.1)]) (fun s2 x2l => [box b0p [(sl v0a), iv s2.2.2.1, iv s2.2.2.2.1], box b2 [(sl x2l.1), (sl x2l.2.1), (sl x2l.2.2.1), (sl x2l.2.2.2.2), iv s2.2.2.2.2.2.2.2.2.1, iv s2.2.2.2.2.2.2.2.2.2], ownF (sl x2l.1) s2.2.2.2.2.1, ownF (sl x2l.2.1) s2.2.2.2.2.2.1, own (sl x2l.2.2.1) x2l.2.2.2.1 s2.2.2.2.2.2.2.1, ownF (sl x2l.2.2.2.2) s2.2.2.2.2.2.2.2.1, box b1 [(sl hn), (sl hn), (sl hn), (sl hn), iv 0, iv 0]]) (x2.1, x2.2.1, x2.2.2.1, x2.2.2.2.1, x2.2.2.2.2) (su5 R R R R R) so7 fun m2 s2 x2l l1 => (whO_step l1 fun _ t1 l1 => ?_))
 unfold spec_l38Guild_L2 at t1
 refine wcs (wcs (wcj (X := Unit) (fun _ => True) (fun _ => [(0, ptr b0p 0), (2, ptr b1 0), (3, ptr b2 0), (6, iv s2.1), (7, iv s2.2.1), (42, .bool ((decide (s2.2.1 > 0)) && (decide (((s2.2.2.2.2.1.length : Nat) : Int) > 0))))]) (fun _ => [box b0p [(sl v0a), iv s2.2.2.1, iv s2.2.2.2.1], box b2 [(sl x2l.1), (sl x2l.2.1), (sl x2l.2.2.1), (sl x2l.2.2.2.2), iv s2.2.2.2.2.2.2.2.2.1, iv s2.2.2.2.2.2.2.2.2.2], box b1 [(sl hn), (sl hn), (sl hn), (sl hn), iv 0, iv 0], ownF (sl x2l.1) s2.2.2.2.2.1, ownF (sl x2l.2.1) s2.2.2.2.2.2.1, own (sl x2l.2.2.1) x2l.2.2.2.1 s2.2.2.2.2.2.2.1, ownF (sl x2l.2.2.2.2) s2.2.2.2.2.2.2.2.1]) ?_ ?_))
 refine wcg (mv R R (wlq (po_gtr R R) R (mv R R (wl_fork (t := 37) R (fun h2 => ?_) fun h2 => ?_))))
 exact wgn (j := 2) R R R (wlq (pof fo_29_0 R) R (wgn (j := 2) R R R (wlq (v := (sl x2l.1)) (plx tk_24 pk1 R R) R (wgn (j := 2) R R R (wlq (pln (rgo pk2) el_24 R) R (wgn (j := 2) R R R (wlq (po_gtr R R) R (wlq (pit R R) R (wln (wqm () trivial (yc R (yc R (yc R (yc R (yc R (sub_b R (by rw [h2]; rfl) yn)))))) (zc pz (zc pz (zc pk4 so4)))))))))))))
 exact wgf (j := 2) R R R R R (wgf (j := 2) R R R R R (wgf (j := 2) R R R R R (wgf (j := 2) R R R R R (wlq (pif R R) R (wln (wqm () trivial (yc R (yc R (yc R (yc R (yc R (sub_b R (by rw [h2]; rfl) yn)))))) (zc pz (zc pz (zc pk4 so4)))))))))
 intro _ _
 refine wqt (wcO t1 R (fun h3 t1 => ?_) fun h3 t1 => ?_)
 refine wck (wqt (wcs (wcb (wcr (mv R R (mv R R (bdO t1 fun v7 hv7 t1 => (wlc (co_o1 [box b0p [(sl v0a), iv s2.2.2.1, iv s2.2.2.2.1]] fa_14 (zc pz some_refl) R fun w fp hw => c_spec_l01Below w fp b0p a_c0 v0a ((rdo_arg r0) w fp hw) s2.2.2.1 s2.2.2.2.1 3 hw.ow hv7) R fun _ => (wlq (po_add R R) R (asg R R (wnt (wcr (wlq (po_build R (bd_56_0 2)) R (wle (eal (cs := [iv 0, (sl hn)]) za_56) R fun b3 => (wls (sbx (cs' := [iv 2, (sl hn)]) tk_56 pz R R R R R R R) (wnt (wcs (wcr (asg R R (wnt (lpO_inv t1 fun y2 l2 t1 => (wj (J := (List GCell) × Int × Int) (X := Hd) (fun z => y2 = z) (fun _ _ => [(0, ptr b0p 0), (2, ptr b1 0), (3, ptr b2 0), (6, iv (wr (s2.1 + v7.1))), (7, iv s2.2.1), (8, ptr b3 0)]) (fun z x => [box b3 [iv 2, (sl x)], box b0p [(sl v0a), iv z.2.1, iv z.2.2], box b2 [(sl x2l.1), (sl x2l.2.1), (sl x2l.2.2.1), (sl x2l.2.2.2.2), iv s2.2.2.2.2.2.2.2.2.1, iv s2.2.2.2.2.2.2.2.2.2], box b1 [(sl hn), (sl hn), (sl hn), (sl hn), iv 0, iv 0], ownF (sl x2l.1) s2.2.2.2.2.1, ownF (sl x2l.2.1) s2.2.2.2.2.2.1, own (sl x2l.2.2.1) x2l.2.2.2.1 s2.2.2.2.2.2.2.1, ownF (sl x2l.2.2.2.2) s2.2.2.2.2.2.2.2.1, ownF (sl x) z.1]) ?_ ?_))))))))))))))))))))))
 refine wcb (wcf (X := Hd) l2 (fun k3 s3 x3l => [(0, ptr b0p 0), (2, ptr b1 0), (3, ptr b2 0), (6, iv (wr (s2.1 + v7.1))), (7, iv s2.2.1), (8, ptr b3 0), (9, iv ((k3 : Nat) : Int))]) (fun k3 s3 x3l => [box b3 [iv 2, (sl x3l)], box b0p [(sl v0a), iv s3.2.1, iv s3.2.2], box b2 [(sl x2l.1), (sl x2l.2.1), (sl x2l.2.2.1), (sl x2l.2.2.2.2), iv s2.2.2.2.2.2.2.2.2.1, iv s2.2.2.2.2.2.2.2.2.2], box b1 [(sl hn), (sl hn), (sl hn), (sl hn), iv 0, iv 0], ownF (sl x2l.1) s2.2.2.2.2.1, ownF (sl x2l.2.1) s2.2.2.2.2.2.1, own (sl x2l.2.2.1) x2l.2.2.2.1 s2.2.2.2.2.2.2.1, ownF (sl x2l.2.2.2.2) s2.2.2.2.2.2.2.2.1, ownF (sl x3l) s3.1]) hn (su7 R R R R R R R) (zc pz (zc pz (zc pz (zc pz (zc pz (zc pz (zc pz (zc pz (zc pick_nil zn))))))))) fun k3 s3 x3l hN3 l2 => ?_)
 by_cases hk3 : k3 < 4
 refine fos l2 hk3 fun _ t2 l2 => ?_
 unfold spec_l38Guild_L3 at t2
 have c1 : (decide (((k3 : Nat) : Int) < 4)) = true := ddt (by omega)
 refine wcs (wcr (mv R R (wlq (pls R R) R (wnt (wft R c1 (wck (wqt (wcs (wcb (wcr (mv R R (bdO t2 fun v8 hv8 t2 => (wlc (co_o1 [box b0p [(sl v0a), iv s3.2.1, iv s3.2.2]] fa_52 (zc pk1 some_refl) R fun w fp hw => c_spec_l02Cell w fp b0p a_c0 v0a ((rdo_arg r0) w fp hw) s3.2.1 s3.2.2 hw.ow hv8) R fun _ => (wle (eal (cs := [iv 0, iv 0, iv 0]) za_87) R fun b4 => (wls (sbx (cs' := [iv v8.1.Split, iv v8.1.A, iv v8.1.B]) tk_87 pz R R R R R R R) (wnt (wcg (wlq (pof fo_56_1 R) R (wlq (v := (sl x3l)) (plx tk_54 pk2 R R) R (wlq (v := .agg #[iv v8.1.Split, iv v8.1.A, iv v8.1.B]) (plb tk_87 pz R R R) R (wle (ebs R (sb_54_1 v8.1.Split v8.1.A v8.1.B)) R fun b5 => (gdO t2 fun g1 t2 => (wle (eo_append (xs := s3.1) (ys := ([v8.1] : List GCell)) ak_54 pk10 R R (slin_rd fun _ g => Rg.on (rgo (pbo pz (n := 1) (xs := ([v8.1] : List GCell)) R R (by unfold maxLen; omega))) g) g1) R fun x8 => ?_)))))))))))))))))))))))
 refine wlq (pof fo_56_1 R) R (wls (sbx (cs' := [iv 2, (sl x8)]) tk_54 pk4 R R R R R R R) (wln (wqb (wqt (wcg (mv R R (wlq (po_inc R R (by omega)) R ?_)))))))
 exact asg R R (wln (wq_rnd hk3 (stpN l2 t2) x8 (su7 R R R R R R R) (zc pz (zc pk3 (zc pk3 (zc pk3 (zc pk3 (zc pk3 (zc pk3 (zc pk3 so1))))))))))
 have c1 : (decide (((k3 : Nat) : Int) < 4)) = false := ddf (by omega)
 have en1 := foe l2 hk3
 exact wcs (wcr (mv R R (wlq (pls R R) R (wnt (wff R c1 (wcx (wqe (wqe (wbx (wjm _ x3l (Sum.inl.inj en1) (su6 R R R R R R) so9))))))))))
 intro e3 x7 hp
 obtain rfl : e3 = y2 := hp.symm
 refine wqt (bdO t1 fun v9 hv9 t1 => (gdO t1 fun g2 t1 => (bdO t1 fun v10 hv10 t1 => (wcj (X := Hd × Hd × Hd × (List Value) × Hd) (fun _ => True) (fun z => [(0, ptr b0p 0), (2, ptr b1 0), (3, ptr b2 0), (6, iv (wr (s2.1 + v7.1))), (7, iv s2.2.1)]) (fun z => [box b2 [(sl z.1), (sl z.2.1), (sl z.2.2.1), (sl z.2.2.2.2), iv v10.1.Round, iv v10.1.Year], ownF (sl z.1) v10.1.Members, ownF (sl z.2.1) v10.1.Stock, own (sl z.2.2.1) z.2.2.2.1 v10.1.Entries, ownF (sl z.2.2.2.2) v10.1.Books, box b0p [(sl v0a), iv v9.2.1, iv v9.2.2], box b1 [(sl hn), (sl hn), (sl hn), (sl hn), iv 0, iv 0]]) ?_ ?_))))
 refine wcd [box b3 [iv 2, (sl x7)], box b2 [(sl x2l.1), (sl x2l.2.1), (sl x2l.2.2.1), (sl x2l.2.2.2.2), iv s2.2.2.2.2.2.2.2.2.1, iv s2.2.2.2.2.2.2.2.2.2], box b1 [(sl hn), (sl hn), (sl hn), (sl hn), iv 0, iv 0], ownF (sl x2l.1) s2.2.2.2.2.1, ownF (sl x2l.2.1) s2.2.2.2.2.2.1, own (sl x2l.2.2.1) x2l.2.2.2.1 s2.2.2.2.2.2.2.1, ownF (sl x2l.2.2.2.2) s2.2.2.2.2.2.2.2.1, ownF (sl x7) e3.1] 17 mixed (aq (v := .agg #[(sl x2l.1), (sl x2l.2.1), (sl x2l.2.2.1), (sl x2l.2.2.2.2), iv s2.2.2.2.2.2.2.2.2.1, iv s2.2.2.2.2.2.2.2.2.2]) 0 R (plb tk_29 pk1 R R R) (zc pz (zc pk1 (zc pk1 (zc pk1 (zc pk1 (zc pk1 (zc pk1 (zc pk1 zn)))))))) R (aq 1 R (pof fo_29_0 R) (zc pz (zc pk1 (zc pk1 (zc pk1 (zc pk1 (zc pk1 (zc pk1 (zc pk1 zn)))))))) R (aq (v := (sl x2l.1)) 2 R (plx tk_24 pk1 R R) (zc pz (zc pk1 (zc pk1 (zc pk1 (zc pk1 (zc pk1 (zc pk1 (zc pk1 zn)))))))) R (aq 3 R (pom R) (zc pz (zc pk1 (zc pk1 (zc pk1 (zc pk1 (zc pk1 (zc pk1 (zc pk1 zn)))))))) R (aq 4 R (pof fo_29_0 R) (zc pz (zc pk1 (zc pk1 (zc pk1 (zc pk1 (zc pk1 (zc pk1 (zc pk1 zn)))))))) R (aq (v := (sl x2l.1)) 5 R (plx tk_24 pk1 R R) (zc pz (zc pk1 (zc pk1 (zc pk1 (zc pk1 (zc pk1 (zc pk1 (zc pk1 zn)))))))) R (aq 6 R (pln (rgo pk3) el_24 R) (zc pz (zc pk1 (zc pk1 (zc pk1 (zc pk1 (zc pk1 (zc pk1 (zc pk1 zn)))))))) R (aq 11 R (pom R) (zc pz (zc pk1 (zc pk1 (zc pk1 (zc pk1 (zc pk1 (zc pk1 (zc pk1 zn)))))))) R (aq (v := .agg #[iv 2, (sl x7)]) 12 R (plb tk_56 pz R R R) (zc pz (zc pk1 (zc pk1 (zc pk1 (zc pk1 (zc pk1 (zc pk1 (zc pk1 zn)))))))) R (a1 7 (wsc R (co_o1 [box b0p [(sl v0a), iv e3.2.1, iv e3.2.2]] fa_14 (zc pk1 some_refl) R fun w fp hw => c_spec_l01Below w fp b0p a_c0 v0a ((rdo_arg r0) w fp hw) e3.2.1 e3.2.2 ((s2.2.2.2.2.1.length : Nat) : Int) hw.ow hv9) (fun _ => (zt (zc pk1 (zc pk1 (zc pk1 (zc pk1 (zc pk1 (zc pk1 (zc pk1 (zc pk1 zn)))))))))) R fun _ => (aq 8 R (po_ixr (rgo pk3) el_24 R R g2.1 g2.2) (zc pk1 (zc pk1 (zc pk1 (zc pk1 (zc pk1 (zc pk1 (zc pk1 (zc pk1 zn)))))))) R (aq 9 R (po_sfldr (rgo pk3) (ix_lt g2) fo_52_0 R) (zc pk1 (zc pk1 (zc pk1 (zc pk1 (zc pk1 (zc pk1 (zc pk1 (zc pk1 zn)))))))) R (aq (v := iv ((gx s2.2.2.2.2.1 ((v9.1).toNat)).Number)) 10 R (po_ldf (rgo pk3) tk_3 R (ix_lt g2) R) (zc pk1 (zc pk1 (zc pk1 (zc pk1 (zc pk1 (zc pk1 (zc pk1 (zc pk1 zn)))))))) R (a1 13 (wsc R (co_c4 fa_53 R fun w hw => c_spec_Submit w (GGuild.mk s2.2.2.2.2.1 s2.2.2.2.2.2.1 s2.2.2.2.2.2.2.1 s2.2.2.2.2.2.2.2.1 s2.2.2.2.2.2.2.2.2.1 s2.2.2.2.2.2.2.2.2.2) x2l.1 (Rg.on (rgo pk4) hw) x2l.2.1 (Rg.on (rgo pk5) hw) x2l.2.2.1 x2l.2.2.2.1 (Rg.on (rgo pk6) hw) x2l.2.2.2.2 (Rg.on (rgo pk7) hw) ((gx s2.2.2.2.2.1 ((v9.1).toNat)).Number) (wr (s2.1 + v7.1)) (GBlock.mk 2 e3.1) x7 (Rg.on (rgo pk8) hw) hv10) (fun _ => (zt (zc pk5 (zc pk5 (zc pk5 (zc pk5 (zc pk5 (zc pk5 (zc pk5 (zc pk5 zn)))))))))) R fun x9 => (aq 14 R (pom R) (zc pk5 (zc pk5 (zc pk5 (zc pk5 (zc pk5 (zc pk5 (zc pk5 (zc pk5 zn)))))))) R (aq 15 R (pex R R) (zc pk5 (zc pk5 (zc pk5 (zc pk5 (zc pk5 (zc pk5 (zc pk5 (zc pk5 zn)))))))) R (wa_2 (i := 16) (j := 17) (by kernel_rfl) ?_ ?_)))))))))))))))))))
 refine ws_pure R (pex R R) (zt (zc pk5 (zc pk5 (zc pk5 (zc pk5 (zc pk5 (zc pk5 (zc pk5 (zc pk5 zn))))))))) R (a1 17 (ws_skipop R (sbx (cs' := [(sl x9.1), (sl x9.2.1), (sl x9.2.2.1), (sl x9.2.2.2.2), iv v10.1.Round, iv v10.1.Year]) tk_29 pk6 R R R R R R R) (sts_past (by kernel_rfl)) ?_))
 exact ae (wqm x9 trivial (su5 R R R R R) (zc pz (zc pz (zc pz (zc pz (zc pz (zc pz (zc pk1 zn))))))))
 refine ws_skipop R (sbx (cs' := [(sl x9.1), (sl x9.2.1), (sl x9.2.2.1), (sl x9.2.2.2.2), iv v10.1.Round, iv v10.1.Year]) tk_29 pk6 R R R R R R R) (sts_past (by kernel_rfl)) ?_
 refine a1 16 (ws_pure R (pex R R) (sts_past (by kernel_rfl)) R ?_)
 exact ae (wqm x9 trivial (su5 R R R R R) (zc pz (zc pz (zc pz (zc pz (zc pz (zc pz (zc pk1 zn))))))))
 intro x10 _
 exact wqb (wqt (wcg (mv R R (wlq (po_sub R R) R (asg R R (wln (wq_rndw (stwN l1 t1) (x10.1, x10.2.1, x10.2.2.1, x10.2.2.2.1, x10.2.2.2.2) (su5 R R R R R) (zc pk5 so6))))))))
 exact wcx (wqe (wqe (wbx (wjm _ (x2l.1, x2l.2.1, x2l.2.2.1, x2l.2.2.2.1, x2l.2.2.2.2) (Sum.inl.inj (stwB l1 t1)) (su3 R R R) (zc pz (zc pz (zc pk1 (zc pk1 (zc pk1 (zc pk1 so1))))))))))
 intro e2 x5 hp
 obtain rfl : e2 = y1 := hp.symm
 refine wqt (wcs (wcr (mv R R (bdO t0 fun v11 hv11 t0 => (wlc (co_o1 [box b0p [(sl v0a), iv e2.2.2.1, iv e2.2.2.2.1]] fa_14 (zc pz some_refl) R fun w fp hw => c_spec_l01Below w fp b0p a_c0 v0a ((rdo_arg r0) w fp hw) e2.2.2.1 e2.2.2.2.1 4 hw.ow hv11) R fun _ => (asg R R (wnt (wlO_inv t0 fun y1 l1 t0 => (wj (J := Int × (List GMember) × (List Int) × (List GEntry) × (List GBooking) × Int × Int) (X := Hd × Hd × Hd × (List Value) × Hd) (fun z => y1 = z) (fun _ _ => [(0, ptr b0p 0), (2, ptr b1 0), (3, ptr b2 0)]) (fun z x => [box b0p [(sl v0a), iv v11.2.1, iv v11.2.2], box b2 [(sl x.1), (sl x.2.1), (sl x.2.2.1), (sl x.2.2.2.2), iv z.2.2.2.2.2.1, iv z.2.2.2.2.2.2], ownF (sl x.1) z.2.1, ownF (sl x.2.1) z.2.2.1, own (sl x.2.2.1) x.2.2.2.1 z.2.2.2.1, ownF (sl x.2.2.2.2) z.2.2.2.2.1, box b1 [(sl hn), (sl hn), (sl hn), (sl hn), iv 0, iv 0]]) ?_ ?_)))))))))
 refine wcb (wc_whO (X := Hd × Hd × Hd × (List Value) × Hd) l1 (fun s4 x4l => [(0, ptr b0p 0), (2, ptr b1 0), (3, ptr b2 0), (11, iv s4.1)]) (fun s4 x4l => [box b0p [(sl v0a), iv v11.2.1, iv v11.2.2], box b2 [(sl x4l.1), (sl x4l.2.1), (sl x4l.2.2.1), (sl x4l.2.2.2.2), iv s4.2.2.2.2.2.1, iv s4.2.2.2.2.2.2], ownF (sl x4l.1) s4.2.1, ownF (sl x4l.2.1) s4.2.2.1, own (sl x4l.2.2.1) x4l.2.2.2.1 s4.2.2.2.1, ownF (sl x4l.2.2.2.2) s4.2.2.2.2.1, box b1 [(sl hn), (sl hn), (sl hn), (sl hn), iv 0, iv 0]]) (x5.1, x5.2.1, x5.2.2.1, x5.2.2.2.1, x5.2.2.2.2) (su4 R R R R) so7 fun m4 s4 x4l l1 => (whO_step l1 fun _ t1 l1 => ?_))
 unfold spec_l38Guild_L4 at t1
 refine wcs (wcr (mv R R (wlq (po_gtr R R) R (wnt (wcO t1 R (fun h4 t1 => ?_) fun h4 t1 => ?_)))))
 exact wck (wqt (wcs (wcb (wcg (wlq (v := .agg #[(sl x4l.1), (sl x4l.2.1), (sl x4l.2.2.1), (sl x4l.2.2.2.2), iv s4.2.2.2.2.2.1, iv s4.2.2.2.2.2.2]) (plb tk_29 pk1 R R R) R (bdO t1 fun v12 hv12 t1 => (wlc (co_c4 fa_54 R fun w hw => c_spec_SwapRound w (GGuild.mk s4.2.1 s4.2.2.1 s4.2.2.2.1 s4.2.2.2.2.1 s4.2.2.2.2.2.1 s4.2.2.2.2.2.2) x4l.1 (Rg.on (rgo pk2) hw) x4l.2.1 (Rg.on (rgo pk3) hw) x4l.2.2.1 x4l.2.2.2.1 (Rg.on (rgo pk4) hw) x4l.2.2.2.2 (Rg.on (rgo pk5) hw) hv12) R fun x12 => (mv R R (wlq (pex R R) R (wlq (pex R R) R (wls (sbx (cs' := [(sl x12.1), (sl x12.2.1), (sl x12.2.2.1), (sl x12.2.2.2.2), iv v12.1.Round, iv v12.1.Year]) tk_29 pk5 R R R R R R R) (wln (wqb (wqt (wcg (mv R R (wlq (po_sub R R) R (asg R R (wln (wq_rndw (stwN l1 t1) (x12.1, x12.2.1, x12.2.2.1, x12.2.2.2.1, x12.2.2.2.2) (su4 R R R R) (zc pk5 (zc pz (zc pz (zc pz (zc pz (zc pz (zc pk4 zn)))))))))))))))))))))))))))
 exact wcx (wqe (wqe (wbx (wjm _ (x4l.1, x4l.2.1, x4l.2.2.1, x4l.2.2.2.1, x4l.2.2.2.2) (Sum.inl.inj (stwB l1 t1)) (su3 R R R) so7))))
 intro e4 x11 hp
 obtain rfl : e4 = y1 := hp.symm
 refine wqt (wcs (wcr (mv R R (bdO t0 fun v13 hv13 t0 => (wlc (co_o1 [box b0p [(sl v0a), iv v11.2.1, iv v11.2.2]] fa_22 (zc pz some_refl) R fun w fp hw => c_spec_l01Once w fp b0p a_c0 v0a ((rdo_arg r0) w fp hw) v11.2.1 v11.2.2 3 hw.ow hv13) R fun _ => (wnt (bdO t0 fun y1 t1 t0 => (wj (J := (List Int) × Gl01Cur) (X := Hd) (fun z => y1 = z) (fun _ _ => [(2, ptr b1 0), (3, ptr b2 0)]) (fun z x => [box b2 [(sl x11.1), (sl x), (sl x11.2.2.1), (sl x11.2.2.2.2), iv e4.2.2.2.2.2.1, iv e4.2.2.2.2.2.2], box b0p [(sl v0a), iv ((z.2).i), iv ((z.2).h)], box b1 [(sl hn), (sl hn), (sl hn), (sl hn), iv 0, iv 0], ownF (sl x11.1) e4.2.1, ownF (sl x) z.1, own (sl x11.2.2.1) x11.2.2.2.1 e4.2.2.2.1, ownF (sl x11.2.2.2.2) e4.2.2.2.2.1]) ?_ ?_))))))))
 refine wcO t1 R (fun h5 t1 => ?_) fun h5 t1 => ?_
 exact wcg (mv R R (bdO t1 fun v14 hv14 t1 => (wlc (co_o2 [box b0p [(sl v0a), iv v13.2.1, iv v13.2.2]] fa_55 (zc pz some_refl) R fun w fp hw => c_spec_l31Stock w fp b0p a_c0 v0a ((rdo_arg r0) w fp hw) v13.2.1 v13.2.2 60 hw.ow hv14) R fun x14 => (wlq (pof fo_29_1 R) R (wls (sbx (cs' := [(sl x11.1), (sl x14), (sl x11.2.2.1), (sl x11.2.2.2.2), iv e4.2.2.2.2.2.1, iv e4.2.2.2.2.2.2]) tk_25 pk2 R R R R R R R) (wln (wjm _ x14 (mtE t1) (su2 R R) (zc pz (zc pk1 (zc pk5 (zc pk1 (zc pz (zc pk1 (zc pk1 zn))))))))))))))
 exact wck (wjm _ x11.2.1 (mtE t1) (su2 R R) (zc pk1 (zc pz (zc pk4 so4))))
 intro j2 x13 hp
 obtain rfl : j2 = y1 := hp.symm
 refine wqt (wcr (wlq (v := .agg #[(sl x11.1), (sl x13), (sl x11.2.2.1), (sl x11.2.2.2.2), iv e4.2.2.2.2.2.1, iv e4.2.2.2.2.2.2]) (plb tk_29 pz R R R) R (wls (sbx (cs' := [(sl x11.1), (sl x13), (sl x11.2.2.1), (sl x11.2.2.2.2), iv e4.2.2.2.2.2.1, iv e4.2.2.2.2.2.2]) tk_29 pk2 R R R R R R R) (wnt (wct ?_)))))
 obtain rfl := oi t0
 exact wqc R tk_29 R pz R fun w hw => ⟨(x11.1, x13, x11.2.2.1, x11.2.2.2.1, x11.2.2.2.2), R, hw.weak (zc pk3 (zc pk3 (zc pk3 (zc pk3 (zc pk2 zn)))))⟩

theorem c_spec_l39Guild (w : World) (fp : List Nat) (b0p : Nat) (a_c0 : List UInt8) (v0a : Hd) (r0 : rdF w (dm w fp) (sl v0a) a_c0) (a_c1 : Int) (a_c2 : Int) (o : Ow w [box b0p [(sl v0a), .int .i64 a_c1, .int .i64 a_c2]] fp) {r : GGuild × Int × Int} (t0 : spec_l39Guild a_c0 a_c1 a_c2 = some r) : Calls Tryz.prog 12 #[ptr b0p 0] w fun e w' => ∃ x : Hd × Hd × Hd × (List Value) × Hd, e = .returned (.agg #[(sl x.1), (sl x.2.1), (sl x.2.2.1), (sl x.2.2.2.2), .int .i64 r.1.Round, .int .i64 r.1.Year]) ∧ SH w fp [ownF (sl x.1) r.1.Members, ownF (sl x.2.1) r.1.Stock, own (sl x.2.2.1) x.2.2.2.1 r.1.Entries, ownF (sl x.2.2.2.2) r.1.Books, box b0p [(sl v0a), .int .i64 r.2.1, .int .i64 r.2.2]] w' := by
 refine calls_of_wc_own (args := [_]) o Tryz.func12 R Tryz.ntmps12 R ?_
 unfold spec_l39Guild at t0
 refine wcr (wle (eal (cs := [(sl hn), (sl hn), (sl hn), (sl hn), iv 0, iv 0]) za_29) R fun b1 => (wnt (wcs (wcr (mv R R (bdO t0 fun v1 hv1 t0 => (wlc (co_o1 [box b0p [(sl v0a), iv a_c1, iv a_c2]] fa_22 (zc pk1 some_refl) R fun w fp hw => c_spec_l01Once w fp b0p a_c0 v0a ((rdo_arg r0) w fp hw) a_c1 a_c2 2 hw.ow hv1) R fun _ => (wnt (wcO t0 R (fun h1 t0 => ?_) fun h1 t0 => ?_)))))))))
 refine wcr (bdO t0 fun v2 hv2 t0 => (wlc (co_c4 fa_23 R fun w hw => c_spec_SampleGuild w hv2) R fun x1 => (wls (sbx (cs' := [(sl x1.1), (sl x1.2.1), (sl x1.2.2.1), (sl x1.2.2.2.2), iv v2.Round, iv v2.Year]) tk_29 pk5 R R R R R R R) (wnt (wct (wqr ?_))))))
 obtain rfl := oi t0
 exact wqc R tk_29 R pz R fun w hw => ⟨(x1.1, x1.2.1, x1.2.2.1, x1.2.2.2.1, x1.2.2.2.2), R, hw.weak (zc pk1 (zc pk1 (zc pk1 (zc pk1 (zc pk1 zn)))))⟩
 refine wck (wqt (wcr (mv R R (bdO t0 fun v3 hv3 t0 => (wlc (co_o5 [box b0p [(sl v0a), iv v1.2.1, iv v1.2.2]] fa_24 (zc pz some_refl) R fun w fp hw => c_spec_l38Guild w fp b0p a_c0 v0a ((rdo_arg r0) w fp hw) v1.2.1 v1.2.2 hw.ow hv3) R fun x2 => (wls (sbx (cs' := [(sl x2.1), (sl x2.2.1), (sl x2.2.2.1), (sl x2.2.2.2.2), iv v3.1.Round, iv v3.1.Year]) tk_29 pk5 R R R R R R R) (wnt (wct ?_))))))))
 obtain rfl := oi t0
 exact wqc R tk_29 R pz R fun w hw => ⟨(x2.1, x2.2.1, x2.2.2.1, x2.2.2.2.1, x2.2.2.2.2), R, hw.weak (zc pk1 (zc pk1 (zc pk1 (zc pk1 (zc pk1 zn)))))⟩

theorem c_spec_l39Act (w : World) (fp : List Nat) (b0p : Nat) (a_c0 : List UInt8) (v0a : Hd) (r0 : rdF w (dm w fp) (sl v0a) a_c0) (a_c1 : Int) (a_c2 : Int) (o : Ow w [box b0p [(sl v0a), .int .i64 a_c1, .int .i64 a_c2]] fp) {r : GAct × Int × Int} (t0 : spec_l39Act a_c0 a_c1 a_c2 = some r) : Calls Tryz.prog 25 #[ptr b0p 0] w fun e w' => ∃ _x : Unit, e = .returned (.agg #[.int .i64 r.1.Kind, .int .i64 r.1.A, .int .i64 r.1.B]) ∧ SH w fp [box b0p [(sl v0a), .int .i64 r.2.1, .int .i64 r.2.2]] w' := by
 refine calls_of_wc_own (args := [_]) o Tryz.func25 R Tryz.ntmps25 R ?_
 unfold spec_l39Act at t0
 refine wcr (wle (eal (cs := [iv 0, iv 0, iv 0]) za_48) R fun b1 => (wnt (wcs (wcr (mv R R (bdO t0 fun v1 hv1 t0 => (wlc (co_o1 [box b0p [(sl v0a), iv a_c1, iv a_c2]] fa_14 (zc pk1 some_refl) R fun w fp hw => c_spec_l01Below w fp b0p a_c0 v0a ((rdo_arg r0) w fp hw) a_c1 a_c2 8 hw.ow hv1) R fun _ => (wnt (wcb (wcr (wlq (pol R R) R (asg R R (wnt (wcO t0 R (fun h1 t0 => ?_) fun h1 t0 => ?_))))))))))))))
 refine wcr (mv R R (bdO t0 fun v2 hv2 t0 => (wlc (co_o1 [box b0p [(sl v0a), iv v1.2.1, iv v1.2.2]] fa_14 (zc pz some_refl) R fun w fp hw => c_spec_l01Below w fp b0p a_c0 v0a ((rdo_arg r0) w fp hw) v1.2.1 v1.2.2 8 hw.ow hv2) R fun _ => (wlq (po_add R R) R (wlq (po_build R (bd_48_0_1 1 (wr (1 + v2.1)))) R (wls (sbx (cs' := [iv 1, iv (wr (1 + v2.1)), iv 0]) tk_48 pk1 R R R R R R R) (wnt (wct (wbr (wqr ?_))))))))))
 obtain rfl := oi t0
 exact wqc R tk_48 R pz R fun w hw => ⟨(), R, hw.weak (zc pk1 zn)⟩
 refine wcs (wcr (wlq (pol R R) R (asg R R (wnt (wcj (X := Unit) (fun _ => True) (fun _ => [(0, ptr b0p 0), (2, ptr b1 0), (4, iv v1.1), (11, .bool ((v1.1 == 1) || (v1.1 == 2)))]) (fun _ => [box b0p [(sl v0a), iv v1.2.1, iv v1.2.2], box b1 [iv 0, iv 0, iv 0]]) ?_ ?_)))))
 refine wc_cond R (fun h2 => ?_) fun h2 => ?_
 exact wck (wqm () trivial (yc R (yc R (yc R (sub_b R (by rw [h2]; rfl) yn)))) so2)
 exact wcg (wlq (pol R R) R (asg R R (wln (wqm () trivial (yc R (yc R (yc R (sub_b R (by rw [h2]; rfl) yn)))) so2))))
 intro _ _
 refine wqt (wcO t0 R (fun h3 t0 => ?_) fun h3 t0 => ?_)
 refine wcr (mv R R (bdO t0 fun v3 hv3 t0 => (wlc (co_o1 [box b0p [(sl v0a), iv v1.2.1, iv v1.2.2]] fa_14 (zc pz some_refl) R fun w fp hw => c_spec_l01Below w fp b0p a_c0 v0a ((rdo_arg r0) w fp hw) v1.2.1 v1.2.2 5 hw.ow hv3) R fun _ => (wlq (po_add R R) R (mv R R (bdO t0 fun v4 hv4 t0 => (wlc (co_o1 [box b0p [(sl v0a), iv v3.2.1, iv v3.2.2]] fa_14 (zc pz some_refl) R fun w fp hw => c_spec_l01Below w fp b0p a_c0 v0a ((rdo_arg r0) w fp hw) v3.2.1 v3.2.2 10 hw.ow hv4) R fun _ => (wlq (po_build R (bd_48_0_1_2 2 (wr (1 + v3.1)) v4.1)) R (wls (sbx (cs' := [iv 2, iv (wr (1 + v3.1)), iv v4.1]) tk_48 pk1 R R R R R R R) (wnt (wct (wbr (wqr ?_)))))))))))))
 obtain rfl := oi t0
 exact wqc R tk_48 R pz R fun w hw => ⟨(), R, hw.weak (zc pk1 zn)⟩
 refine wcr (wlq (pol R R) R (asg R R (wnt (wcO t0 R (fun h4 t0 => ?_) fun h4 t0 => ?_))))
 refine wcr (mv R R (bdO t0 fun v5 hv5 t0 => (wlc (co_o1 [box b0p [(sl v0a), iv v1.2.1, iv v1.2.2]] fa_14 (zc pz some_refl) R fun w fp hw => c_spec_l01Below w fp b0p a_c0 v0a ((rdo_arg r0) w fp hw) v1.2.1 v1.2.2 4 hw.ow hv5) R fun _ => (wlq (po_build R (bd_48_0_1 3 v5.1)) R (wls (sbx (cs' := [iv 3, iv v5.1, iv 0]) tk_48 pk1 R R R R R R R) (wnt (wct (wbr (wqr ?_)))))))))
 obtain rfl := oi t0
 exact wqc R tk_48 R pz R fun w hw => ⟨(), R, hw.weak (zc pk1 zn)⟩
 refine wcs (wcr (wlq (pol R R) R (asg R R (wnt (wcj (X := Unit) (fun _ => True) (fun _ => [(0, ptr b0p 0), (2, ptr b1 0), (4, iv v1.1), (25, .bool ((v1.1 == 4) || (v1.1 == 5)))]) (fun _ => [box b0p [(sl v0a), iv v1.2.1, iv v1.2.2], box b1 [iv 0, iv 0, iv 0]]) ?_ ?_)))))
 refine wc_cond R (fun h5 => ?_) fun h5 => ?_
 exact wck (wqm () trivial (yc R (yc R (yc R (sub_b R (by rw [h5]; rfl) yn)))) so2)
 exact wcg (wlq (pol R R) R (asg R R (wln (wqm () trivial (yc R (yc R (yc R (sub_b R (by rw [h5]; rfl) yn)))) so2))))
 intro _ _
 refine wqt (wcO t0 R (fun h6 t0 => ?_) fun h6 t0 => ?_)
 refine wcr (wlq (po_build R (bd_48_0 4)) R (wls (sbx (cs' := [iv 4, iv 0, iv 0]) tk_48 pk1 R R R R R R R) (wnt (wct (wbr (wqr ?_))))))
 obtain rfl := oi t0
 exact wqc R tk_48 R pz R fun w hw => ⟨(), R, hw.weak (zc pk1 zn)⟩
 refine wcr (wlq (pol R R) R (asg R R (wnt (wcO t0 R (fun h7 t0 => ?_) fun h7 t0 => ?_))))
 refine wcr (wlq (po_build R (bd_48_0 5)) R (wls (sbx (cs' := [iv 5, iv 0, iv 0]) tk_48 pk1 R R R R R R R) (wnt (wct (wbr (wqr ?_))))))
 obtain rfl := oi t0
 exact wqc R tk_48 R pz R fun w hw => ⟨(), R, hw.weak (zc pk1 zn)⟩
 refine wck (wqb (wqt (wcr (mv R R (bdO t0 fun v6 hv6 t0 => (wlc (co_o1 [box b0p [(sl v0a), iv v1.2.1, iv v1.2.2]] fa_14 (zc pz some_refl) R fun w fp hw => c_spec_l01Below w fp b0p a_c0 v0a ((rdo_arg r0) w fp hw) v1.2.1 v1.2.2 4 hw.ow hv6) R fun _ => (wlq (po_build R (bd_48_0_1 6 v6.1)) R (wls (sbx (cs' := [iv 6, iv v6.1, iv 0]) tk_48 pk1 R R R R R R R) (wnt (wct ?_))))))))))
 obtain rfl := oi t0
 exact wqc R tk_48 R pz R fun w hw => ⟨(), R, hw.weak (zc pk1 zn)⟩

theorem c_spec_l39List (w : World) (fp : List Nat) (b0p : Nat) (a_c0 : List UInt8) (v0a : Hd) (r0 : rdF w (dm w fp) (sl v0a) a_c0) (a_c1 : Int) (a_c2 : Int) (o : Ow w [box b0p [(sl v0a), .int .i64 a_c1, .int .i64 a_c2]] fp) {r : (List GAct) × Int × Int} (t0 : spec_l39List a_c0 a_c1 a_c2 = some r) : Calls Tryz.prog 13 #[ptr b0p 0] w fun e w' => ∃ x : Hd, e = .returned ((sl x)) ∧ SH w fp [ownF (sl x) r.1, box b0p [(sl v0a), .int .i64 r.2.1, .int .i64 r.2.2]] w' := by
 refine calls_of_wc_own (args := [_]) o Tryz.func13 R Tryz.ntmps13 R ?_
 unfold spec_l39List at t0
 refine wcr (asg R R (wnt (wcr (wle (ebs R sb_30_0) R fun b1 => (asg R R (wnt (wcr (mv R R (bdO t0 fun v1 hv1 t0 => (wlc (co_o1 [box b0p [(sl v0a), iv a_c1, iv a_c2]] fa_14 (zc pk1 some_refl) R fun w fp hw => c_spec_l01Below w fp b0p a_c0 v0a ((rdo_arg r0) w fp hw) a_c1 a_c2 14 hw.ow hv1) R fun _ => (asg R R (wnt (wcs (wcr (asg R R (wnt (gdO t0 fun g1 t0 => (lpO_inv t0 fun y1 l1 t0 => (wj (J := (List GAct) × Int × Int) (X := Hd) (fun z => y1 = z) (fun _ x => [(3, (sl x))]) (fun z x => [box b0p [(sl v0a), iv z.2.1, iv z.2.2], ownF (sl x) z.1]) ?_ ?_)))))))))))))))))))
 refine wcb (wcf (X := Hd) l1 (fun k1 s1 x1l => [(0, ptr b0p 0), (3, (sl x1l)), (4, iv v1.1), (5, iv ((k1 : Nat) : Int))]) (fun k1 s1 x1l => [box b0p [(sl v0a), iv s1.2.1, iv s1.2.2], ownF (sl x1l) s1.1]) (⟨some ⟨b1, 0, none⟩, 0, 0⟩ : Hd) (su4 R R R R) (zc pz (zc (pbo pz (n := 0) (xs := ([] : List GAct)) R R (by unfold maxLen; omega)) zn)) fun k1 s1 x1l hN1 l1 => ?_)
 by_cases hk1 : k1 < (v1.1).toNat
 refine fos l1 hk1 fun _ t1 l1 => ?_
 unfold spec_l39List_L1 at t1
 have c1 : (decide (((k1 : Nat) : Int) < v1.1)) = true := ddt (by omega)
 refine wcs (wcr (mv R R (mv R R (wlq (pls R R) R (wnt (wft R c1 (wck (wqt (wcs (wcb (wcr (mv R R (bdO t1 fun v2 hv2 t1 => (wlc (co_o1 [box b0p [(sl v0a), iv s1.2.1, iv s1.2.2]] fa_25 (zc pz some_refl) R fun w fp hw => c_spec_l39Act w fp b0p a_c0 v0a ((rdo_arg r0) w fp hw) s1.2.1 s1.2.2 hw.ow hv2) R fun _ => (wle (eal (cs := [iv 0, iv 0, iv 0]) za_48) R fun b2 => (wls (sbx (cs' := [iv v2.1.Kind, iv v2.1.A, iv v2.1.B]) tk_48 pz R R R R R R R) (wnt (wcg (mv R R (wlq (v := .agg #[iv v2.1.Kind, iv v2.1.A, iv v2.1.B]) (plb tk_48 pz R R R) R (wle (ebs R (sb_30_1 v2.1.Kind v2.1.A v2.1.B)) R fun b3 => (gdO t1 fun g2 t1 => (wle (eo_append (xs := s1.1) (ys := ([v2.1] : List GAct)) ak_30 pk3 R R (slin_rd fun _ g => Rg.on (rgo (pbo pz (n := 1) (xs := ([v2.1] : List GAct)) R R (by unfold maxLen; omega))) g) g2) R fun x2 => ?_)))))))))))))))))))))))
 refine asg R R (wln (wqb (wqt (wcg (mv R R (wlq (po_inc R R (by omega)) R ?_))))))
 exact asg R R (wln (wq_rnd hk1 (stpN l1 t1) x2 (su4 R R R R) (zc pk3 so1)))
 have c1 : (decide (((k1 : Nat) : Int) < v1.1)) = false := ddf (by omega)
 have en1 := foe l1 hk1
 exact wcs (wcr (mv R R (mv R R (wlq (pls R R) R (wnt (wff R c1 (wcx (wqe (wqe (wbx (wjm _ x1l (Sum.inl.inj en1) (su1 R) so2)))))))))))
 intro e1 x1 hp
 obtain rfl : e1 = y1 := hp.symm
 refine wqt (wcr (mv R R (asg R R (wnt (wct ?_)))))
 obtain rfl := oi t0
 exact wq1 R R fun w hw => ⟨x1, R, hw.weak (zc pk1 so1)⟩

theorem c_spec_DrawActs (w : World) (a_code : List UInt8) (v0a : Hd) (r0 : rdF w (dm w []) (sl v0a) a_code) {r : GGuild × (List GAct)} (t0 : spec_DrawActs a_code = some r) : Calls Tryz.prog 5 #[(sl v0a)] w fun e w' => ∃ x : Hd × Hd × Hd × (List Value) × Hd × Hd, e = .returned (.tuple #[.agg #[(sl x.1), (sl x.2.1), (sl x.2.2.1), (sl x.2.2.2.2.1), .int .i64 r.1.Round, .int .i64 r.1.Year], (sl x.2.2.2.2.2)]) ∧ SH w [] [ownF (sl x.1) r.1.Members, ownF (sl x.2.1) r.1.Stock, own (sl x.2.2.1) x.2.2.2.1 r.1.Entries, ownF (sl x.2.2.2.2.1) r.1.Books, ownF (sl x.2.2.2.2.2) r.2] w' := by
 refine cwc (args := [_]) Tryz.func5 R Tryz.ntmps5 R ?_
 unfold spec_DrawActs at t0
 refine wcr (wle (eal (cs := [(sl hn), (sl hn), (sl hn), (sl hn), iv 0, iv 0]) za_29) R fun b1 => (asg R R (wnt (wcr (mv R R (bdO t0 fun v1 hv1 t0 => (wlc (cz1 fa_11 R fun w hw => c_spec_l01New w a_code v0a (ra r0 hw) hv1) R fun x1 => (asg R R (wnt (wcr (mv R R (bdO t0 fun v2 hv2 t0 => (wlc (co_o5 [box x1 [(sl v0a), iv v1.1, iv v1.2]] fa_12 (zc pz some_refl) R fun w fp hw => c_spec_l39Guild w fp x1 a_code v0a ((rdo_arg r0) w fp hw) v1.1 v1.2 hw.ow hv2) R fun x2 => (wle (eal (cs := [(sl hn), (sl hn), (sl hn), (sl hn), iv 0, iv 0]) za_29) R fun b2 => (wls (sbx (cs' := [(sl x2.1), (sl x2.2.1), (sl x2.2.2.1), (sl x2.2.2.2.2), iv v2.1.Round, iv v2.1.Year]) tk_29 pz R R R R R R R) (wnt (wcs (wcd [box b2 [(sl x2.1), (sl x2.2.1), (sl x2.2.2.1), (sl x2.2.2.2.2), iv v2.1.Round, iv v2.1.Year], ownF (sl x2.1) v2.1.Members, ownF (sl x2.2.1) v2.1.Stock, own (sl x2.2.2.1) x2.2.2.2.1 v2.1.Entries, ownF (sl x2.2.2.2.2) v2.1.Books] 5 mixed (aq (v := .agg #[(sl x2.1), (sl x2.2.1), (sl x2.2.2.1), (sl x2.2.2.2.2), iv v2.1.Round, iv v2.1.Year]) 0 R (plb tk_29 pz R R R) so5 R (aq 1 R (pom R) so5 R (a1 2 (bdO t0 fun v3 hv3 t0 => (wsc R (co_o2 [box x1 [(sl v0a), iv v2.2.1, iv v2.2.2]] fa_13 (zc pk5 some_refl) R fun w fp hw => c_spec_l39List w fp x1 a_code v0a ((rdo_arg r0) w fp hw) v2.2.1 v2.2.2 hw.ow hv3) (fun _ => (zt (zc pk2 (zc pk2 (zc pk2 (zc pk2 (zc pk2 zn))))))) R fun x3 => (a1 3 (ws_skipop R (sbx (cs' := [(sl x2.1), (sl x2.2.1), (sl x2.2.2.1), (sl x2.2.2.2.2), iv v2.1.Round, iv v2.1.Year]) tk_29 pk7 R R R R R R R) (zt (zc pk3 (zc pk3 (zc pk3 (zc pk3 (zc pk3 zn)))))) (aq 4 R (po_assign R) (zc pk3 (zc pk3 (zc pk3 (zc pk3 (zc pk3 zn))))) R (ae (wqt (wct ?_)))))))))))))))))))))))))))))
 obtain rfl := oi t0
 exact wq_retc1 R tk_29 R R pz R fun w hw => ⟨(x2.1, x2.2.1, x2.2.2.1, x2.2.2.2.1, x2.2.2.2.2, x3), R, hw.weak (zc pk4 (zc pk4 (zc pk4 (zc pk4 (zc pk1 zn)))))⟩

theorem c_spec_DrawPlaces (w : World) (a_code : List UInt8) (v0a : Hd) (r0 : rdF w (dm w []) (sl v0a) a_code) {r : List Int} (t0 : spec_DrawPlaces a_code = some r) : Calls Tryz.prog 6 #[(sl v0a)] w fun e w' => ∃ x : Hd, e = .returned ((sl x)) ∧ SH w [] [ownF (sl x) r] w' := by
 refine cwc (args := [_]) Tryz.func6 R Tryz.ntmps6 R ?_
 unfold spec_DrawPlaces at t0
 refine wcr (asg R R (wnt (wcr (mv R R (bdO t0 fun v1 hv1 t0 => (wlc (cz1 fa_11 R fun w hw => c_spec_l01New w a_code v0a (ra r0 hw) hv1) R fun x1 => (asg R R (wnt (wcr (wle (ebs R sb_25_0) R fun b1 => (asg R R (wnt (wcs (wcr (asg R R (wnt (lpO_inv t0 fun y1 l1 t0 => (wj (J := (List Int) × Int × Int) (X := Hd) (fun z => y1 = z) (fun _ x => [(4, (sl x))]) (fun z x => [ownF (sl x) z.1]) ?_ ?_))))))))))))))))))
 refine wcb (wcf (X := Hd) l1 (fun k1 s1 x1l => [(3, ptr x1 0), (4, (sl x1l)), (5, iv ((k1 : Nat) : Int))]) (fun k1 s1 x1l => [box x1 [(sl v0a), iv s1.2.1, iv s1.2.2], ownF (sl x1l) s1.1]) (⟨some ⟨b1, 0, none⟩, 0, 0⟩ : Hd) (su3 R R R) (zc pk1 (zc (pbo pz (n := 0) (xs := ([] : List Int)) R R (by unfold maxLen; omega)) zn)) fun k1 s1 x1l hN1 l1 => ?_)
 by_cases hk1 : k1 < 12
 refine fos l1 hk1 fun _ t1 l1 => ?_
 unfold spec_DrawPlaces_L1 at t1
 have c1 : (decide (((k1 : Nat) : Int) < 12)) = true := ddt (by omega)
 refine wcs (wcr (mv R R (wlq (pls R R) R (wnt (wft R c1 (wck (wqt (wcs (wcb (wcg (mv R R (mv R R (bdO t1 fun v2 hv2 t1 => (wlc (co_o1 [box x1 [(sl v0a), iv s1.2.1, iv s1.2.2]] fa_14 (zc pz some_refl) R fun w fp hw => c_spec_l01Below w fp x1 a_code v0a ((rdo_arg r0) w fp hw) s1.2.1 s1.2.2 10000 hw.ow hv2) R fun _ => (wle (ebs R (sb_25_1 v2.1)) R fun b2 => (gdO t1 fun g1 t1 => (wle (eo_append (xs := s1.1) (ys := ([v2.1] : List Int)) ak_25 pk2 R R (slin_rd fun _ g => Rg.on (rgo (pbo pz (n := 1) (xs := ([v2.1] : List Int)) R R (by unfold maxLen; omega))) g) g1) R fun x3 => ?_)))))))))))))))))
 refine asg R R (wln (wqb (wqt (wcg (mv R R (wlq (po_inc R R (by omega)) R ?_))))))
 exact asg R R (wln (wq_rnd hk1 (stpN l1 t1) x3 (su3 R R R) (zc pk2 so1)))
 have c1 : (decide (((k1 : Nat) : Int) < 12)) = false := ddf (by omega)
 have en1 := foe l1 hk1
 exact wcs (wcr (mv R R (wlq (pls R R) R (wnt (wff R c1 (wcx (wqe (wqe (wbx (wjm _ x1l (Sum.inl.inj en1) (su1 R) (zc pk1 zn)))))))))))
 intro e1 x2 hp
 obtain rfl : e1 = y1 := hp.symm
 refine wqt (wcr (mv R R (asg R R (wnt (wct ?_)))))
 obtain rfl := oi t0
 exact wq1 R R fun w hw => ⟨x2, R, hw.weak so1⟩

theorem c_impl_copyMembers (w : World) (a_list : List GMember) (v0a : Hd) (r0 : rdF w (dm w []) (sl v0a) a_list) {r : List GMember} (t0 : impl_copyMembers a_list = some r) : Calls Tryz.prog 27 #[(sl v0a)] w fun e w' => ∃ x : Hd, e = .returned ((sl x)) ∧ SH w [] [ownF (sl x) r] w' := by
 refine cwc (args := [_]) Tryz.func27 R Tryz.ntmps27 R ?_
 unfold impl_copyMembers at t0
 refine wcr (asg R R (wnt (wcr (wle (ebs R sb_24_0) R fun b1 => (mv R R (gdO t0 fun g1 t0 => (wle (eo_append (xs := ([] : List GMember)) (ys := a_list) ak_24 (pbo pz (n := 0) (xs := ([] : List GMember)) R R (by unfold maxLen; omega)) R R (slin_rd fun _ g => Rg.on (rga r0) g) g1) R fun x1 => ?_)))))))
 refine asg R R (wnt (wct ?_))
 obtain rfl := oi t0
 exact wq1 R R fun w hw => ⟨x1, R, hw.weak so1⟩

theorem c_impl_copyOf (w : World) (a_list : List Int) (v0a : Hd) (r0 : rdF w (dm w []) (sl v0a) a_list) {r : List Int} (t0 : impl_copyOf a_list = some r) : Calls Tryz.prog 28 #[(sl v0a)] w fun e w' => ∃ x : Hd, e = .returned ((sl x)) ∧ SH w [] [ownF (sl x) r] w' := by
 refine cwc (args := [_]) Tryz.func28 R Tryz.ntmps28 R ?_
 unfold impl_copyOf at t0
 refine wcr (asg R R (wnt (wcr (wle (ebs R sb_25_0) R fun b1 => (mv R R (gdO t0 fun g1 t0 => (wle (eo_append (xs := ([] : List Int)) (ys := a_list) ak_25 (pbo pz (n := 0) (xs := ([] : List Int)) R R (by unfold maxLen; omega)) R R (slin_rd fun _ g => Rg.on (rga r0) g) g1) R fun x1 => ?_)))))))
 refine asg R R (wnt (wct ?_))
 obtain rfl := oi t0
 exact wq1 R R fun w hw => ⟨x1, R, hw.weak so1⟩

theorem c_impl_Block_copied (w : World) (a_b : GBlock) (v0a : Hd) (r0 : rdF w (dm w []) (sl v0a) a_b.Cells) {r : GBlock} (t0 : impl_Block_copied a_b = some r) : Calls Tryz.prog 29 #[.agg #[.int .i64 a_b.Size, (sl v0a)]] w fun e w' => ∃ x : Hd, e = .returned (.agg #[.int .i64 r.Size, (sl x)]) ∧ SH w [] [ownF (sl x) r.Cells] w' := by
 refine cwc (args := [_]) Tryz.func29 R Tryz.ntmps29 R ?_
 unfold impl_Block_copied at t0
 refine wcr (wle (eo_box R R) R fun b1 => (wle (eal (cs := [iv 0, (sl hn)]) za_56) R fun b2 => (wnt (wcs (wcd [box b2 [iv 0, (sl hn)], box b1 [iv a_b.Size, (sl v0a)]] 7 mixed (aq 0 R (pof fo_56_0 R) so2 R (aq (v := iv a_b.Size) 1 R (plx tk_3 pk1 R R) so2 R (aq 3 R (pof fo_56_1 R) so2 R (aq (v := (sl v0a)) 4 R (plx tk_54 pk1 R R) so2 R (a1 2 (wse R (ebs R sb_54_0) (fun _ => (zt (zc pk1 (zc pk1 zn)))) R fun b3 => (a1 5 (gdO t0 fun g1 t0 => (wse R (eo_append (xs := ([] : List GCell)) (ys := a_b.Cells) ak_54 (pbo pz (n := 0) (xs := ([] : List GCell)) R R (by unfold maxLen; omega)) R R (slin_rd fun _ g => Rg.on (rga r0) g) g1) (fun _ => (zt (zc pk1 (zc pk1 zn)))) R fun x1 => ?_))))))))))))))
 refine aq 6 R (po_build R (bd_56_0_1 a_b.Size x1)) (zc pk1 (zc pk1 zn)) R (a1 7 (ws_skipop R (sbx (cs' := [iv a_b.Size, (sl x1)]) tk_56 pk1 R R R R R R R) (sts_past (by kernel_rfl)) ?_))
 refine ae (wqt (wct ?_))
 obtain rfl := oi t0
 exact wqc R tk_56 R pz R fun w hw => ⟨x1, R, hw.weak (zc pk1 zn)⟩

theorem c_impl_Guild_copied (w : World) (a_g : GGuild) (v0a : Hd) (r0 : rdF w (dm w []) (sl v0a) a_g.Members) (v1a : Hd) (r1 : rdF w (dm w []) (sl v1a) a_g.Stock) (v2a : Hd) (u2a : List Value) (r2 : RdL w (dm w []) (sl v2a) u2a a_g.Entries) (v3a : Hd) (r3 : rdF w (dm w []) (sl v3a) a_g.Books) {r : GGuild} (t0 : impl_Guild_copied a_g = some r) : Calls Tryz.prog 15 #[.agg #[(sl v0a), (sl v1a), (sl v2a), (sl v3a), .int .i64 a_g.Round, .int .i64 a_g.Year]] w fun e w' => ∃ x : Hd × Hd × Hd × (List Value) × Hd, e = .returned (.agg #[(sl x.1), (sl x.2.1), (sl x.2.2.1), (sl x.2.2.2.2), .int .i64 r.Round, .int .i64 r.Year]) ∧ SH w [] [ownF (sl x.1) r.Members, ownF (sl x.2.1) r.Stock, own (sl x.2.2.1) x.2.2.2.1 r.Entries, ownF (sl x.2.2.2.2) r.Books] w' := by
 refine cwc (args := [_]) Tryz.func15 R Tryz.ntmps15 R ?_
 unfold impl_Guild_copied at t0
 refine wcr (wle (eo_box R R) R fun b1 => (wle (eal (cs := [(sl hn), (sl hn), (sl hn), (sl hn), iv 0, iv 0]) za_29) R fun b2 => (wnt (wcs (bdO t0 fun v1 hv1 t0 => (bdO t0 fun v2 hv2 t0 => (gdO t0 fun g1 t0 => (wcj (X := Nat × Hd × Hd × Hd) (fun _ => True) (fun z => [(1, ptr b1 0), (2, ptr b2 0), (3, ptr z.1 0)]) (fun z => [box z.1 [(sl z.2.1), (sl z.2.2.1), (sl hn), (sl z.2.2.2), iv a_g.Round, iv a_g.Year], ownF (sl z.2.2.2) (([] : List GBooking) ++ a_g.Books), ownF (sl z.2.2.1) v2, ownF (sl z.2.1) v1, box b2 [(sl hn), (sl hn), (sl hn), (sl hn), iv 0, iv 0], box b1 [(sl v0a), (sl v1a), (sl v2a), (sl v3a), iv a_g.Round, iv a_g.Year]]) ?_ ?_))))))))
 refine wcd [box b2 [(sl hn), (sl hn), (sl hn), (sl hn), iv 0, iv 0], box b1 [(sl v0a), (sl v1a), (sl v2a), (sl v3a), iv a_g.Round, iv a_g.Year]] 16 mixed (wa_dag [⟨7, #[true, true, false, true, true, false, false, true, true, false, true, true, true, true, false, false, false], Unit, fun _ => [(1, ptr b1 0), (2, ptr b2 0), (7, (sl v0a)), (10, (sl v1a)), (14, (sl v3a)), (17, iv a_g.Round), (19, iv a_g.Year)], fun _ => [box b2 [(sl hn), (sl hn), (sl hn), (sl hn), iv 0, iv 0], box b1 [(sl v0a), (sl v1a), (sl v2a), (sl v3a), iv a_g.Round, iv a_g.Year]]⟩, ⟨6, #[true, true, true, true, true, false, false, true, true, false, true, true, true, true, false, false, false], Hd, fun z => [(1, ptr b1 0), (2, ptr b2 0), (8, (sl z)), (10, (sl v1a)), (14, (sl v3a)), (17, iv a_g.Round), (19, iv a_g.Year)], fun z => [ownF (sl z) v1, box b2 [(sl hn), (sl hn), (sl hn), (sl hn), iv 0, iv 0], box b1 [(sl v0a), (sl v1a), (sl v2a), (sl v3a), iv a_g.Round, iv a_g.Year]]⟩, ⟨6, #[true, true, false, true, true, false, true, true, true, false, true, true, true, true, false, false, false], Nat, fun z => [(1, ptr b1 0), (2, ptr b2 0), (7, (sl v0a)), (10, (sl v1a)), (12, (sl (⟨some ⟨z, 0, none⟩, 0, 0⟩ : Hd))), (14, (sl v3a)), (17, iv a_g.Round), (19, iv a_g.Year)], fun z => [box z [], box b2 [(sl hn), (sl hn), (sl hn), (sl hn), iv 0, iv 0], box b1 [(sl v0a), (sl v1a), (sl v2a), (sl v3a), iv a_g.Round, iv a_g.Year]]⟩, ⟨6, #[true, true, false, true, true, false, false, true, true, false, true, true, true, true, false, true, false], Nat, fun z => [(1, ptr b1 0), (2, ptr b2 0), (3, ptr z 0), (7, (sl v0a)), (10, (sl v1a)), (14, (sl v3a)), (17, iv a_g.Round), (19, iv a_g.Year)], fun z => [box z [(sl hn), (sl hn), (sl hn), (sl hn), iv 0, iv 0], box b2 [(sl hn), (sl hn), (sl hn), (sl hn), iv 0, iv 0], box b1 [(sl v0a), (sl v1a), (sl v2a), (sl v3a), iv a_g.Round, iv a_g.Year]]⟩, ⟨5, #[true, true, true, true, true, true, false, true, true, false, true, true, true, true, false, false, false], Hd × Hd, fun z => [(1, ptr b1 0), (2, ptr b2 0), (8, (sl z.1)), (11, (sl z.2)), (14, (sl v3a)), (17, iv a_g.Round), (19, iv a_g.Year)], fun z => [ownF (sl z.2) v2, ownF (sl z.1) v1, box b2 [(sl hn), (sl hn), (sl hn), (sl hn), iv 0, iv 0], box b1 [(sl v0a), (sl v1a), (sl v2a), (sl v3a), iv a_g.Round, iv a_g.Year]]⟩, ⟨5, #[true, true, true, true, true, false, true, true, true, false, true, true, true, true, false, false, false], Hd × Nat, fun z => [(1, ptr b1 0), (2, ptr b2 0), (8, (sl z.1)), (10, (sl v1a)), (12, (sl (⟨some ⟨z.2, 0, none⟩, 0, 0⟩ : Hd))), (14, (sl v3a)), (17, iv a_g.Round), (19, iv a_g.Year)], fun z => [box z.2 [], ownF (sl z.1) v1, box b2 [(sl hn), (sl hn), (sl hn), (sl hn), iv 0, iv 0], box b1 [(sl v0a), (sl v1a), (sl v2a), (sl v3a), iv a_g.Round, iv a_g.Year]]⟩, ⟨5, #[true, true, true, true, true, false, false, true, true, false, true, true, true, true, false, true, false], Nat × Hd, fun z => [(1, ptr b1 0), (2, ptr b2 0), (3, ptr z.1 0), (8, (sl z.2)), (10, (sl v1a)), (14, (sl v3a)), (17, iv a_g.Round), (19, iv a_g.Year)], fun z => [box z.1 [(sl hn), (sl hn), (sl hn), (sl hn), iv 0, iv 0], ownF (sl z.2) v1, box b2 [(sl hn), (sl hn), (sl hn), (sl hn), iv 0, iv 0], box b1 [(sl v0a), (sl v1a), (sl v2a), (sl v3a), iv a_g.Round, iv a_g.Year]]⟩, ⟨5, #[true, true, false, true, true, false, true, true, true, false, true, true, true, true, false, true, false], Nat × Nat, fun z => [(1, ptr b1 0), (2, ptr b2 0), (3, ptr z.1 0), (7, (sl v0a)), (10, (sl v1a)), (12, (sl (⟨some ⟨z.2, 0, none⟩, 0, 0⟩ : Hd))), (14, (sl v3a)), (17, iv a_g.Round), (19, iv a_g.Year)], fun z => [box z.1 [(sl hn), (sl hn), (sl hn), (sl hn), iv 0, iv 0], box z.2 [], box b2 [(sl hn), (sl hn), (sl hn), (sl hn), iv 0, iv 0], box b1 [(sl v0a), (sl v1a), (sl v2a), (sl v3a), iv a_g.Round, iv a_g.Year]]⟩, ⟨4, #[true, true, true, true, true, true, true, true, true, false, true, true, true, true, false, false, false], Hd × Hd × Nat, fun z => [(1, ptr b1 0), (2, ptr b2 0), (8, (sl z.1)), (11, (sl z.2.1)), (12, (sl (⟨some ⟨z.2.2, 0, none⟩, 0, 0⟩ : Hd))), (14, (sl v3a)), (17, iv a_g.Round), (19, iv a_g.Year)], fun z => [box z.2.2 [], ownF (sl z.2.1) v2, ownF (sl z.1) v1, box b2 [(sl hn), (sl hn), (sl hn), (sl hn), iv 0, iv 0], box b1 [(sl v0a), (sl v1a), (sl v2a), (sl v3a), iv a_g.Round, iv a_g.Year]]⟩, ⟨4, #[true, true, true, true, true, true, false, true, true, false, true, true, true, true, false, true, false], Nat × Hd × Hd, fun z => [(1, ptr b1 0), (2, ptr b2 0), (3, ptr z.1 0), (8, (sl z.2.1)), (11, (sl z.2.2)), (14, (sl v3a)), (17, iv a_g.Round), (19, iv a_g.Year)], fun z => [box z.1 [(sl hn), (sl hn), (sl hn), (sl hn), iv 0, iv 0], ownF (sl z.2.2) v2, ownF (sl z.2.1) v1, box b2 [(sl hn), (sl hn), (sl hn), (sl hn), iv 0, iv 0], box b1 [(sl v0a), (sl v1a), (sl v2a), (sl v3a), iv a_g.Round, iv a_g.Year]]⟩, ⟨4, #[true, true, true, true, true, false, true, true, true, false, true, true, true, true, false, true, false], Nat × Hd × Nat, fun z => [(1, ptr b1 0), (2, ptr b2 0), (3, ptr z.1 0), (8, (sl z.2.1)), (10, (sl v1a)), (12, (sl (⟨some ⟨z.2.2, 0, none⟩, 0, 0⟩ : Hd))), (14, (sl v3a)), (17, iv a_g.Round), (19, iv a_g.Year)], fun z => [box z.1 [(sl hn), (sl hn), (sl hn), (sl hn), iv 0, iv 0], box z.2.2 [], ownF (sl z.2.1) v1, box b2 [(sl hn), (sl hn), (sl hn), (sl hn), iv 0, iv 0], box b1 [(sl v0a), (sl v1a), (sl v2a), (sl v3a), iv a_g.Round, iv a_g.Year]]⟩, ⟨2, #[true, true, true, true, true, true, true, true, true, true, true, true, true, true, true, false, false], Hd × Hd × Hd, fun z => [(1, ptr b1 0), (2, ptr b2 0), (20, .agg #[(sl z.1), (sl z.2.1), (sl hn), (sl z.2.2), iv a_g.Round, iv a_g.Year])], fun z => [ownF (sl z.2.2) (([] : List GBooking) ++ a_g.Books), ownF (sl z.2.1) v2, ownF (sl z.1) v1, box b2 [(sl hn), (sl hn), (sl hn), (sl hn), iv 0, iv 0], box b1 [(sl v0a), (sl v1a), (sl v2a), (sl v3a), iv a_g.Round, iv a_g.Year]]⟩, ⟨3, #[true, true, true, true, true, true, true, true, true, false, true, true, true, true, false, true, false], Nat × Hd × Hd × Nat, fun z => [(1, ptr b1 0), (2, ptr b2 0), (3, ptr z.1 0), (8, (sl z.2.1)), (11, (sl z.2.2.1)), (12, (sl (⟨some ⟨z.2.2.2, 0, none⟩, 0, 0⟩ : Hd))), (14, (sl v3a)), (17, iv a_g.Round), (19, iv a_g.Year)], fun z => [box z.1 [(sl hn), (sl hn), (sl hn), (sl hn), iv 0, iv 0], box z.2.2.2 [], ownF (sl z.2.2.1) v2, ownF (sl z.2.1) v1, box b2 [(sl hn), (sl hn), (sl hn), (sl hn), iv 0, iv 0], box b1 [(sl v0a), (sl v1a), (sl v2a), (sl v3a), iv a_g.Round, iv a_g.Year]]⟩, ⟨1, #[true, true, true, true, true, true, true, true, true, true, true, true, true, true, true, true, false], Nat × Hd × Hd × Hd, fun z => [(1, ptr b1 0), (2, ptr b2 0), (3, ptr z.1 0), (20, .agg #[(sl z.2.1), (sl z.2.2.1), (sl hn), (sl z.2.2.2), iv a_g.Round, iv a_g.Year])], fun z => [box z.1 [(sl hn), (sl hn), (sl hn), (sl hn), iv 0, iv 0], ownF (sl z.2.2.2) (([] : List GBooking) ++ a_g.Books), ownF (sl z.2.2.1) v2, ownF (sl z.2.1) v1, box b2 [(sl hn), (sl hn), (sl hn), (sl hn), iv 0, iv 0], box b1 [(sl v0a), (sl v1a), (sl v2a), (sl v3a), iv a_g.Round, iv a_g.Year]]⟩] ?_ fun H => ?_)
 refine List.forall_mem_cons.2 ⟨fun H => ?_, ?_⟩
 intro _
 dsimp only
 refine wa_3 (i := 2) (j := 6) (k := 15) (by kernel_rfl) ?_ ?_ ?_
 exact wsc R (cz1 fa_27 R fun w hw => c_impl_copyMembers w a_g.Members v0a (ra r0 hw) hv1) (fun _ => (zt (zc pk1 (zc pk1 zn)))) R fun x2o => waj H 1 R (nl R) x2o R R (su7 R R R R R R R) so3
 exact wse R (ebs R sb_27_0) (fun _ => (zt (zc pk1 (zc pk1 zn)))) R fun b6o => waj H 2 R (nl R) b6o R R (su8 R R R R R R R R) so3
 exact wse R (eal (cs := [(sl hn), (sl hn), (sl hn), (sl hn), iv 0, iv 0]) za_29) (fun _ => (zt (zc pk1 (zc pk1 zn)))) R fun b15o => waj H 3 R (nl R) b15o R R (su8 R R R R R R R R) so3
 refine List.forall_mem_cons.2 ⟨fun H => ?_, ?_⟩
 intro z
 dsimp only
 refine wa_3 (i := 5) (j := 6) (k := 15) (by kernel_rfl) ?_ ?_ ?_
 exact wsc R (cz1 fa_28 R fun w hw => c_impl_copyOf w a_g.Stock v1a (ra r1 hw) hv2) (fun _ => (zt (zc pk2 (zc pk2 zn)))) R fun x5o => waj H 4 R (nl R) (z, x5o) R R (su7 R R R R R R R) so4
 exact wse R (ebs R sb_27_0) (fun _ => (zt (zc pk2 (zc pk2 zn)))) R fun b6o => waj H 5 R (nl R) (z, b6o) R R (su8 R R R R R R R R) so4
 exact wse R (eal (cs := [(sl hn), (sl hn), (sl hn), (sl hn), iv 0, iv 0]) za_29) (fun _ => (zt (zc pk2 (zc pk2 zn)))) R fun b15o => waj H 6 R (nl R) (b15o, z) R R (su8 R R R R R R R R) so4
 refine List.forall_mem_cons.2 ⟨fun H => ?_, ?_⟩
 intro z
 dsimp only
 refine wa_2 (i := 2) (j := 15) (by kernel_rfl) ?_ ?_
 exact wsc R (cz1 fa_27 R fun w hw => c_impl_copyMembers w a_g.Members v0a (ra r0 hw) hv1) (fun _ => (zt (zc pk2 (zc pk2 zn)))) R fun x2o => waj H 5 R (nl R) (x2o, z) R R (su8 R R R R R R R R) (zc pk1 so3)
 exact wse R (eal (cs := [(sl hn), (sl hn), (sl hn), (sl hn), iv 0, iv 0]) za_29) (fun _ => (zt (zc pk2 (zc pk2 zn)))) R fun b15o => waj H 7 R (nl R) (b15o, z) R R (su9 R R R R R R R R R) so4
 refine List.forall_mem_cons.2 ⟨fun H => ?_, ?_⟩
 intro z
 dsimp only
 refine wa_2 (i := 2) (j := 6) (by kernel_rfl) ?_ ?_
 exact wsc R (cz1 fa_27 R fun w hw => c_impl_copyMembers w a_g.Members v0a (ra r0 hw) hv1) (fun _ => (zt (zc pk2 (zc pk2 zn)))) R fun x2o => waj H 6 R (nl R) (z, x2o) R R (su8 R R R R R R R R) (zc pk1 so3)
 exact wse R (ebs R sb_27_0) (fun _ => (zt (zc pk2 (zc pk2 zn)))) R fun b6o => waj H 7 R (nl R) (z, b6o) R R (su9 R R R R R R R R R) (zc pk1 so3)
 refine List.forall_mem_cons.2 ⟨fun H => ?_, ?_⟩
 intro z
 dsimp only
 refine wa_2 (i := 6) (j := 15) (by kernel_rfl) ?_ ?_
 exact wse R (ebs R sb_27_0) (fun _ => (zt (zc pk3 (zc pk3 zn)))) R fun b6o => waj H 8 R (nl R) (z.1, z.2, b6o) R R (su8 R R R R R R R R) so5
 exact wse R (eal (cs := [(sl hn), (sl hn), (sl hn), (sl hn), iv 0, iv 0]) za_29) (fun _ => (zt (zc pk3 (zc pk3 zn)))) R fun b15o => waj H 9 R (nl R) (b15o, z.1, z.2) R R (su8 R R R R R R R R) so5
 refine List.forall_mem_cons.2 ⟨fun H => ?_, ?_⟩
 intro z
 dsimp only
 refine wa_2 (i := 5) (j := 15) (by kernel_rfl) ?_ ?_
 exact wsc R (cz1 fa_28 R fun w hw => c_impl_copyOf w a_g.Stock v1a (ra r1 hw) hv2) (fun _ => (zt (zc pk3 (zc pk3 zn)))) R fun x5o => waj H 8 R (nl R) (z.1, x5o, z.2) R R (su8 R R R R R R R R) (zc pk1 so4)
 exact wse R (eal (cs := [(sl hn), (sl hn), (sl hn), (sl hn), iv 0, iv 0]) za_29) (fun _ => (zt (zc pk3 (zc pk3 zn)))) R fun b15o => waj H 10 R (nl R) (b15o, z.1, z.2) R R (su9 R R R R R R R R R) so5
 refine List.forall_mem_cons.2 ⟨fun H => ?_, ?_⟩
 intro z
 dsimp only
 refine wa_2 (i := 5) (j := 6) (by kernel_rfl) ?_ ?_
 exact wsc R (cz1 fa_28 R fun w hw => c_impl_copyOf w a_g.Stock v1a (ra r1 hw) hv2) (fun _ => (zt (zc pk3 (zc pk3 zn)))) R fun x5o => waj H 9 R (nl R) (z.1, z.2, x5o) R R (su8 R R R R R R R R) (zc pk1 so4)
 exact wse R (ebs R sb_27_0) (fun _ => (zt (zc pk3 (zc pk3 zn)))) R fun b6o => waj H 10 R (nl R) (z.1, z.2, b6o) R R (su9 R R R R R R R R R) (zc pk1 so4)
 refine List.forall_mem_cons.2 ⟨fun H => ?_, ?_⟩
 intro z
 dsimp only
 exact a1 2 (wsc R (cz1 fa_27 R fun w hw => c_impl_copyMembers w a_g.Members v0a (ra r0 hw) hv1) (fun _ => (zt (zc pk3 (zc pk3 zn)))) R fun x2o => (waj H 10 R (nl R) (z.1, x2o, z.2) R R (su9 R R R R R R R R R) (zc pk1 (zc pk1 so3))))
 refine List.forall_mem_cons.2 ⟨fun H => ?_, ?_⟩
 intro z
 dsimp only
 refine wa_2 (i := 9) (j := 15) (by kernel_rfl) ?_ ?_
 refine wse R (eo_append (xs := ([] : List GBooking)) (ys := a_g.Books) ak_27 (pbo pz (n := 0) (xs := ([] : List GBooking)) R R (by unfold maxLen; omega)) R R (slin_rd fun _ g => Rg.on (rga r3) g) g1) (fun _ => (zt (zc pk3 (zc pk3 zn)))) R fun x9o => ?_
 exact aq 14 R (po_build R (bd_29_0_1_3_4_5 z.1 z.2.1 x9o a_g.Round a_g.Year)) (zc pk3 (zc pk3 zn)) R (waj H 11 R (nl R) (z.1, z.2.1, x9o) R R (su3 R R R) so5)
 exact wse R (eal (cs := [(sl hn), (sl hn), (sl hn), (sl hn), iv 0, iv 0]) za_29) (fun _ => (zt (zc pk4 (zc pk4 zn)))) R fun b15o => waj H 12 R (nl R) (b15o, z.1, z.2.1, z.2.2) R R (su9 R R R R R R R R R) so6
 refine List.forall_mem_cons.2 ⟨fun H => ?_, ?_⟩
 intro z
 dsimp only
 exact a1 6 (wse R (ebs R sb_27_0) (fun _ => (zt (zc pk4 (zc pk4 zn)))) R fun b6o => (waj H 12 R (nl R) (z.1, z.2.1, z.2.2, b6o) R R (su9 R R R R R R R R R) (zc pk1 so5)))
 refine List.forall_mem_cons.2 ⟨fun H => ?_, ?_⟩
 intro z
 dsimp only
 exact a1 5 (wsc R (cz1 fa_28 R fun w hw => c_impl_copyOf w a_g.Stock v1a (ra r1 hw) hv2) (fun _ => (zt (zc pk4 (zc pk4 zn)))) R fun x5o => (waj H 12 R (nl R) (z.1, z.2.1, x5o, z.2.2) R R (su9 R R R R R R R R R) (zc pk1 (zc pk1 so4))))
 refine List.forall_mem_cons.2 ⟨fun H => ?_, ?_⟩
 intro z
 dsimp only
 exact a1 15 (wse R (eal (cs := [(sl hn), (sl hn), (sl hn), (sl hn), iv 0, iv 0]) za_29) (fun _ => (zt (zc pk4 (zc pk4 zn)))) R fun b15o => (waj H 13 R (nl R) (b15o, z.1, z.2.1, z.2.2) R R (su4 R R R R) so6))
 refine List.forall_mem_cons.2 ⟨fun H => ?_, ?_⟩
 intro z
 dsimp only
 refine a1 9 (wse R (eo_append (xs := ([] : List GBooking)) (ys := a_g.Books) ak_27 (pbo pk1 (n := 0) (xs := ([] : List GBooking)) R R (by unfold maxLen; omega)) R R (slin_rd fun _ g => Rg.on (rga r3) g) g1) (fun _ => (zt (zc pk4 (zc pk4 zn)))) R fun x9o => ?_)
 exact aq 14 R (po_build R (bd_29_0_1_3_4_5 z.2.1 z.2.2.1 x9o a_g.Round a_g.Year)) (zc pk4 (zc pk4 zn)) R (waj H 13 R (nl R) (z.1, z.2.1, z.2.2.1, x9o) R R (su4 R R R R) (zc pk1 so5))
 refine List.forall_mem_cons.2 ⟨fun H => ?_, ?_⟩
 intro z
 dsimp only
 refine a1 16 (ws_skipop R (sbx (cs' := [(sl z.2.1), (sl z.2.2.1), (sl hn), (sl z.2.2.2), iv a_g.Round, iv a_g.Year]) tk_29 pz R R R R R R R) (sts_past (by kernel_rfl)) ?_)
 exact ae (wqm (z.1, z.2.1, z.2.2.1, z.2.2.2) trivial (su3 R R R) so6)
 exact fun _ h => nomatch h
 exact aq 0 R (pof fo_29_0 R) so2 R (aq (v := (sl v0a)) 1 R (plx tk_24 pk1 R R) so2 R (aq 3 R (pof fo_29_1 R) so2 R (aq (v := (sl v1a)) 4 R (plx tk_25 pk1 R R) so2 R (aq 7 R (pof fo_29_3 R) so2 R (aq (v := (sl v3a)) 8 R (plx tk_27 pk1 R R) so2 R (aq 10 R (pof fo_29_4 R) so2 R (aq (v := iv a_g.Round) 11 R (plx tk_3 pk1 R R) so2 R (aq 12 R (pof fo_29_5 R) so2 R (aq (v := iv a_g.Year) 13 R (plx tk_3 pk1 R R) so2 R (waj H 0 R (nl R) () R R (su7 R R R R R R R) so2))))))))))
 intro x1 _
 refine wqt (wcs (wcr (wlq (pof fo_29_2 R) R (wlq (v := (sl v2a)) (plx tk_26 pk5 R R) R (wlq (pln (rga r2) el_26 R) R (mv R R (wnt (gdO t0 fun g2 t0 => (lpO_inv t0 fun y1 l1 t0 => (wj (J := List GEntry) (X := Hd × (List Value)) (fun z => y1 = z) (fun _ _ => [(2, ptr b2 0), (3, ptr x1.1 0)]) (fun z x => [box x1.1 [(sl x1.2.1), (sl x1.2.2.1), (sl x.1), (sl x1.2.2.2), iv a_g.Round, iv a_g.Year], ownF (sl x1.2.2.2) (([] : List GBooking) ++ a_g.Books), ownF (sl x1.2.2.1) v2, ownF (sl x1.2.1) v1, box b2 [(sl hn), (sl hn), (sl hn), (sl hn), iv 0, iv 0], own (sl x.1) x.2 z]) ?_ ?_))))))))))
 refine wcb (wcf (X := Hd × (List Value)) l1 (fun k1 s1 x1l => [(2, ptr b2 0), (3, ptr x1.1 0), (22, (sl v2a)), (23, iv ((a_g.Entries.length : Nat) : Int)), (24, iv ((k1 : Nat) : Int))]) (fun k1 s1 x1l => [box x1.1 [(sl x1.2.1), (sl x1.2.2.1), (sl x1l.1), (sl x1.2.2.2), iv a_g.Round, iv a_g.Year], ownF (sl x1.2.2.2) (([] : List GBooking) ++ a_g.Books), ownF (sl x1.2.2.1) v2, ownF (sl x1.2.1) v1, box b2 [(sl hn), (sl hn), (sl hn), (sl hn), iv 0, iv 0], own (sl x1l.1) x1l.2 s1]) (hn, []) (su5 R R R R R) (zc pz (zc pz (zc pz (zc pz (zc pz (zc pick_nil zn)))))) fun k1 s1 x1l hN1 l1 => ?_)
 by_cases hk1 : k1 < a_g.Entries.length
 refine fos l1 hk1 fun _ t1 l1 => ?_
 unfold impl_Guild_copied_L1 at t1
 have c1 : (decide (((k1 : Nat) : Int) < ((a_g.Entries.length : Nat) : Int))) = true := ddt (by omega)
 refine wcr (wlq (pls R R) R (wnt (wcs (wft R c1 (wck (wqt (wcs (wcb (wcr (wlq (po_ixn (k := k1) (rga r2) el_26 R R hk1) R (wl_elem (rga r2) hk1 ?_)))))))))))
 rintro ⟨_, _, he1⟩
 obtain ⟨w1, hc1, _⟩ := rd_GEntry.1 he1
 refine wlq (v := .agg #[iv ((gx a_g.Entries k1).Owner), iv ((gx a_g.Entries k1).Day), iv (((gx a_g.Entries k1).Block).Size), (sl w1)]) (po_ldns (rga r2) tk_58 R hc1 R R R) R (wle (eal (cs := [iv 0, iv 0, iv 0, (sl hn)]) za_58) R fun b3 => (wls (sbx (cs' := [iv ((gx a_g.Entries k1).Owner), iv ((gx a_g.Entries k1).Day), iv (((gx a_g.Entries k1).Block).Size), (sl w1)]) tk_58 pz R R R R R R R) (wnt (wcd [box b3 [iv ((gx a_g.Entries k1).Owner), iv ((gx a_g.Entries k1).Day), iv (((gx a_g.Entries k1).Block).Size), (sl w1)], box x1.1 [(sl x1.2.1), (sl x1.2.2.1), (sl x1l.1), (sl x1.2.2.2), iv a_g.Round, iv a_g.Year], ownF (sl x1.2.2.2) (([] : List GBooking) ++ a_g.Books), ownF (sl x1.2.2.1) v2, ownF (sl x1.2.1) v1, box b2 [(sl hn), (sl hn), (sl hn), (sl hn), iv 0, iv 0]] 13 mixed (aq 0 R (pof fo_29_2 R) so6 R (aq (v := (sl x1l.1)) 1 R (plx tk_26 pk1 R R) so6 R (aq 2 R (pof fo_58_0 R) so6 R (aq (v := iv ((gx a_g.Entries k1).Owner)) 3 R (plx tk_3 pz R R) so6 R (aq 4 R (pof fo_58_1 R) so6 R (aq (v := iv ((gx a_g.Entries k1).Day)) 5 R (plx tk_3 pz R R) so6 R (aq 6 R (pof fo_58_2 R) so6 R (aq (v := .agg #[iv (((gx a_g.Entries k1).Block).Size), (sl w1)]) 7 R (plb tk_56 pz R R R) so6 R (a1 8 (bdO t1 fun v3 hv3 t1 => (wsc R (cz1 fa_29 R fun w hw => c_impl_Block_copied w ((gx a_g.Entries k1).Block) w1 (Rg.on (er_GEntry_0 hc1 (rga r2) hk1) hw) hv3) (fun _ => (zt (zc pk1 (zc pk1 (zc pk1 (zc pk1 (zc pk1 (zc pk1 zn)))))))) R fun x3 => (aq 9 R (po_build R (bd_58_0_1_2 ((gx a_g.Entries k1).Owner) ((gx a_g.Entries k1).Day) v3.Size x3)) (zc pk1 (zc pk1 (zc pk1 (zc pk1 (zc pk1 (zc pk1 zn)))))) R (a1 10 (wse R (ebs R (sb_26_1 ((gx a_g.Entries k1).Owner) ((gx a_g.Entries k1).Day) v3.Size x3)) (fun _ => (zt (zc pk2 (zc pk2 (zc pk2 (zc pk2 (zc pk2 (zc pk2 zn)))))))) R fun b4 => (a1 11 (gdO t1 fun g3 t1 => (wse R (eo_append_one (us := x1l.2) (xs := s1) ak_26 pk8 (pow_GEntry (x := (GEntry.mk ((gx a_g.Entries k1).Owner) ((gx a_g.Entries k1).Day) v3)) pk1) pz R R R g3) (fun _ => (zt (zc pk2 (zc pk2 (zc pk2 (zc pk2 (zc pk2 (zc pk2 zn)))))))) R fun x4 => (aq 12 R (pof fo_29_2 R) (zc pk2 (zc pk2 (zc pk2 (zc pk2 (zc pk2 (zc pk2 zn)))))) R (a1 13 (ws_skipop R (sbx (cs' := [(sl x1.2.1), (sl x1.2.2.1), (sl x4), (sl x1.2.2.2), iv a_g.Round, iv a_g.Year]) tk_26 pk3 R R R R R R R) (sts_past (by kernel_rfl)) ?_))))))))))))))))))))))))
 refine ae (wqb (wqt (wcg (wlq (po_inc R R (by omega)) R ?_))))
 exact mv R R (wln (wq_rnd hk1 (stpN l1 t1) (x4, (x1l.2 ++ [iv ((gx a_g.Entries k1).Owner), iv ((gx a_g.Entries k1).Day), iv v3.Size, (sl x3)])) (su5 R R R R R) (zc pz (zc pk3 (zc pk3 (zc pk3 (zc pk3 so1)))))))
 have c1 : (decide (((k1 : Nat) : Int) < ((a_g.Entries.length : Nat) : Int))) = false := ddf (by omega)
 have en1 := foe l1 hk1
 exact wcr (wlq (pls R R) R (wnt (wcs (wff R c1 (wcx (wqe (wqe (wbx (wjm _ (x1l.1, x1l.2) (Sum.inl.inj en1) (su2 R R) so6)))))))))
 intro e1 x2 hp
 obtain rfl : e1 = y1 := hp.symm
 refine wqt (wcr (wlq (v := .agg #[(sl x1.2.1), (sl x1.2.2.1), (sl x2.1), (sl x1.2.2.2), iv a_g.Round, iv a_g.Year]) (plb tk_29 pz R R R) R (wls (sbx (cs' := [(sl x1.2.1), (sl x1.2.2.1), (sl x2.1), (sl x1.2.2.2), iv a_g.Round, iv a_g.Year]) tk_29 pk4 R R R R R R R) (wnt (wct ?_)))))
 obtain rfl := oi t0
 exact wqc R tk_29 R pz R fun w hw => ⟨(x1.2.1, x1.2.2.1, x2.1, x2.2, x1.2.2.2), R, hw.weak (zc pk4 (zc pk3 (zc pk3 (zc pk2 zn))))⟩

theorem c_impl_within (w : World) (a_n : Int) (a_a : Int) (a_b : Int) {r : Bool} (t0 : impl_within a_n a_a a_b = some r) : Calls Tryz.prog 35 #[.int .i64 a_n, .int .i64 a_a, .int .i64 a_b] w fun e w' => e = .returned (.bool r) ∧ SH w [] [] w' := by
 refine cwc (args := [_, _, _]) Tryz.func35 R Tryz.ntmps35 R ?_
 unfold impl_within at t0
 refine wcr (asg R R (wnt (wcs (wcj (X := Unit) (fun _ => True) (fun _ => [(6, .bool ((decide (a_n ≥ a_a)) && (decide (a_n ≤ a_b))))]) (fun _ => []) ?_ ?_))))
 refine wcg (mv R R (mv R R (wlq (po_geq R R) R (mv R R (wl_fork (t := 10) R (fun h1 => ?_) fun h1 => ?_)))))
 exact wgn (j := 3) R R R (mv R R (wgn (j := 3) R R R (mv R R (wgn (j := 3) R R R (wlq (po_leq R R) R (wlq (pit R R) R (asg R R (wln (wqm () trivial (sub_b R (by rw [h1]; rfl) yn) zn)))))))))
 exact wgf (j := 3) R R R R R (wgf (j := 3) R R R R R (wgf (j := 3) R R R R R (wlq (pif R R) R (asg R R (wln (wqm () trivial (sub_b R (by rw [h1]; rfl) yn) zn))))))
 intro _ _
 refine wqt (wct ?_)
 obtain rfl := oi t0
 exact wq1 R R fun w hw => ⟨R, hw.weak zn⟩

theorem c_impl_MembersOk (w : World) (a_list : List GMember) (v0a : Hd) (r0 : rdF w (dm w []) (sl v0a) a_list) {r : Bool} (t0 : impl_MembersOk a_list = some r) : Calls Tryz.prog 30 #[(sl v0a)] w fun e w' => e = .returned (.bool r) ∧ SH w [] [] w' := by
 refine cwc (args := [_]) Tryz.func30 R Tryz.ntmps30 R ?_
 unfold impl_MembersOk at t0
 refine wcr (asg R R (wnt (wcs (wcr (mv R R (wlq (pln (rga r0) el_24 R) R (mv R R (wnt (gdO t0 fun g1 t0 => (sqO t0 fun y1 l1 t0 => (wj (J := Unit) (X := Unit) (fun z => y1 = .inl z) (fun _ _ => [(0, (sl v0a))]) (fun _ _ => []) ?_ ?_)))))))))))
 refine wcb (wcf (X := Unit) l1 (fun k1 s1 x1l => [(0, (sl v0a)), (5, (sl v0a)), (6, iv ((a_list.length : Nat) : Int)), (7, iv ((k1 : Nat) : Int))]) (fun k1 s1 x1l => []) () (su4 R R R R) zn fun k1 s1 x1l hN1 l1 => ?_)
 by_cases hk1 : k1 < a_list.length
 refine fos l1 hk1 fun _ t1 l1 => ?_
 unfold impl_MembersOk_L1 at t1
 have c1 : (decide (((k1 : Nat) : Int) < ((a_list.length : Nat) : Int))) = true := ddt (by omega)
 refine wcr (wlq (pls R R) R (wnt (wcs (wft R c1 (wck (wqt (wcs (wcb (wcr (mv R R (wlq (po_ixn (k := k1) (rga r0) el_24 R R hk1) R (wlq (v := .agg #[iv ((gx a_list k1).Number), iv ((gx a_list k1).Since), iv ((gx a_list k1).Paid)]) (po_ldfs (rga r0) tk_52 R hk1 R R R) R (wle (eal (cs := [iv 0, iv 0, iv 0]) za_52) R fun b1 => (asg R R (wls (sbx (cs' := [iv ((gx a_list k1).Number), iv ((gx a_list k1).Since), iv ((gx a_list k1).Paid)]) tk_52 pz R R R R R R R) (wnt (wcs (bdO t1 fun y2 t2 t1 => (wj (J := Bool) (X := Unit) (fun z => y2 = z) (fun z _ => [(0, (sl v0a)), (5, (sl v0a)), (6, iv ((a_list.length : Nat) : Int)), (7, iv ((k1 : Nat) : Int)), (45, .bool z)]) (fun _ _ => []) ?_ ?_)))))))))))))))))))
 refine wcd [box b1 [iv ((gx a_list k1).Number), iv ((gx a_list k1).Since), iv ((gx a_list k1).Paid)]] 34 mixed (aq 0 R (pof fo_52_0 R) so1 R (aq (v := iv ((gx a_list k1).Number)) 1 R (plx tk_3 pz R R) so1 R (a1 2 (bdO t2 fun v1 hv1 t2 => (wsc R (cz0 fa_35 R fun w hw => c_impl_within w ((gx a_list k1).Number) 1 999 hv1) (fun _ => (zt so1)) R fun _ => (aq 3 R (po_not R) so1 R (aq 4 R (pom R) so1 R (waO_ (t := 16) t2 R (fun h1 t2 => ?_) fun h1 t2 => ?_))))))))
 exact af 5 4 R R R R R so1 R (af 6 4 R R R R R so1 R (af 7 4 R R R R R so1 R (au 8 7 R R R R so1 R (au 9 7 R R R R so1 R (au 10 7 R R R R so1 R (au 11 7 R R R R so1 R (au 12 7 R R R R so1 R (au 13 7 R R R R so1 R (au 14 7 R R R R so1 R (au 15 7 R R R R so1 R (au 16 7 R R R R so1 R (af 17 4 R R R R R so1 R (aq 18 R (pit R R) so1 R (aq 19 R (pom R) so1 R (af 20 19 R R R R R so1 R (af 21 19 R R R R R so1 R (af 22 19 R R R R R so1 R (af 23 19 R R R R R so1 R (aq 24 R (pit R R) so1 R (aq 25 R (pom R) so1 R (af 26 25 R R R R R so1 R (af 27 25 R R R R R so1 R (af 28 25 R R R R R so1 R (af 29 25 R R R R R so1 R (af 30 25 R R R R R so1 R (af 31 25 R R R R R so1 R (af 32 25 R R R R R so1 R (aq 33 R (pit R R) so1 R (ae (wjm _ () (mtE t2) (su5 R R R R R) zn))))))))))))))))))))))))))))))
 refine an 5 4 R R R R (pom R) so1 R (an 6 4 R R R R (po_gtr R R) so1 R (an 7 4 R R R R (pom R) so1 R (waO_ (t := 19) t2 R (fun h2 t2 => ?_) fun h2 t2 => ?_)))
 refine an 8 7 R R R R (pof fo_52_0 R) so1 R (an (v := iv ((gx a_list k1).Number)) 9 7 R R R R (plx tk_3 pz R R) so1 R (an 10 7 R R R R (pom R) so1 R (an 11 7 R R R R (pom R) so1 R (an 12 7 R R R R (po_sub R R) so1 R (gdO t2 fun g2 t2 => (an 13 7 R R R R (po_ixr (rga r0) el_24 R R g2.1 g2.2) so1 R (an 14 7 R R R R (po_sfldr (rga r0) (ix_lt g2) fo_52_0 R) so1 R (an (v := iv ((gx a_list (((wr (((k1 : Nat) : Int) - 1))).toNat)).Number)) 15 7 R R R R (po_ldf (rga r0) tk_3 R (ix_lt g2) R) so1 R (an 16 7 R R R R (po_leq R R) so1 R (an 17 4 R R R R (pit R R) so1 R (aq 18 R (pif R R) so1 R (aq 19 R (pom R) so1 R (waO_ (t := 31) t2 R (fun h3 t2 => ?_) fun h3 t2 => ?_)))))))))))))
 exact af 20 19 R R R R R so1 R (af 21 19 R R R R R so1 R (af 22 19 R R R R R so1 R (af 23 19 R R R R R so1 R (aq 24 R (pit R R) so1 R (aq 25 R (pom R) so1 R (af 26 25 R R R R R so1 R (af 27 25 R R R R R so1 R (af 28 25 R R R R R so1 R (af 29 25 R R R R R so1 R (af 30 25 R R R R R so1 R (af 31 25 R R R R R so1 R (af 32 25 R R R R R so1 R (aq 33 R (pit R R) so1 R (ae (wjm _ () (mtE t2) (su5 R R R R R) zn)))))))))))))))
 refine an 20 19 R R R R (pof fo_52_1 R) so1 R (an (v := iv ((gx a_list k1).Since)) 21 19 R R R R (plx tk_3 pz R R) so1 R (a1 22 (bdO t2 fun v2 hv2 t2 => (ws_call_on (j := 19) R R R R (cz0 fa_35 R fun w hw => c_impl_within w ((gx a_list k1).Since) 1900 2999 hv2) (fun _ => (zt so1)) R fun _ => (an 23 19 R R R R (po_not R) so1 R (aq 24 R (pif R R) so1 R (aq 25 R (pom R) so1 R (waO_ (t := 37) t2 R (fun h4 t2 => ?_) fun h4 t2 => ?_))))))))
 exact af 26 25 R R R R R so1 R (af 27 25 R R R R R so1 R (af 28 25 R R R R R so1 R (af 29 25 R R R R R so1 R (af 30 25 R R R R R so1 R (af 31 25 R R R R R so1 R (af 32 25 R R R R R so1 R (aq 33 R (pit R R) so1 R (ae (wjm _ () (mtE t2) (su5 R R R R R) zn)))))))))
 exact an 26 25 R R R R (pof fo_52_2 R) so1 R (an (v := iv ((gx a_list k1).Paid)) 27 25 R R R R (plx tk_3 pz R R) so1 R (an 28 25 R R R R (pof fo_52_1 R) so1 R (an (v := iv ((gx a_list k1).Since)) 29 25 R R R R (plx tk_3 pz R R) so1 R (an 30 25 R R R R (po_sub R R) so1 R (a1 31 (bdO t2 fun v3 hv3 t2 => (ws_call_on (j := 25) R R R R (cz0 fa_35 R fun w hw => c_impl_within w ((gx a_list k1).Paid) (wr ((gx a_list k1).Since - 1)) 2999 hv3) (fun _ => (zt so1)) R fun _ => (an 32 25 R R R R (po_not R) so1 R (aq 33 R (pif R R) so1 R (ae (wjm _ () (mtE t2) (su5 R R R R R) zn)))))))))))
 refine af 8 7 R R R R R so1 R (af 9 7 R R R R R so1 R (af 10 7 R R R R R so1 R (af 11 7 R R R R R so1 R (af 12 7 R R R R R so1 R (af 13 7 R R R R R so1 R (af 14 7 R R R R R so1 R (af 15 7 R R R R R so1 R (af 16 7 R R R R R so1 R (an 17 4 R R R R (pif R R) so1 R (aq 18 R (pif R R) so1 R (aq 19 R (pom R) so1 R (an 20 19 R R R R (pof fo_52_1 R) so1 R (an (v := iv ((gx a_list k1).Since)) 21 19 R R R R (plx tk_3 pz R R) so1 R (a1 22 (bdO t2 fun v4 hv4 t2 => (ws_call_on (j := 19) R R R R (cz0 fa_35 R fun w hw => c_impl_within w ((gx a_list k1).Since) 1900 2999 hv4) (fun _ => (zt so1)) R fun _ => (an 23 19 R R R R (po_not R) so1 R (aq 24 R (pif R R) so1 R (aq 25 R (pom R) so1 R (waO_ (t := 37) t2 R (fun h5 t2 => ?_) fun h5 t2 => ?_))))))))))))))))))))
 exact af 26 25 R R R R R so1 R (af 27 25 R R R R R so1 R (af 28 25 R R R R R so1 R (af 29 25 R R R R R so1 R (af 30 25 R R R R R so1 R (af 31 25 R R R R R so1 R (af 32 25 R R R R R so1 R (aq 33 R (pit R R) so1 R (ae (wjm _ () (mtE t2) (su5 R R R R R) zn)))))))))
 exact an 26 25 R R R R (pof fo_52_2 R) so1 R (an (v := iv ((gx a_list k1).Paid)) 27 25 R R R R (plx tk_3 pz R R) so1 R (an 28 25 R R R R (pof fo_52_1 R) so1 R (an (v := iv ((gx a_list k1).Since)) 29 25 R R R R (plx tk_3 pz R R) so1 R (an 30 25 R R R R (po_sub R R) so1 R (a1 31 (bdO t2 fun v5 hv5 t2 => (ws_call_on (j := 25) R R R R (cz0 fa_35 R fun w hw => c_impl_within w ((gx a_list k1).Paid) (wr ((gx a_list k1).Since - 1)) 2999 hv5) (fun _ => (zt so1)) R fun _ => (an 32 25 R R R R (po_not R) so1 R (aq 33 R (pif R R) so1 R (ae (wjm _ () (mtE t2) (su5 R R R R R) zn)))))))))))
 intro j1 _ hp
 obtain rfl : j1 = y2 := hp.symm
 refine wqt (wcO t1 R (fun h6 t1 => ?_) fun h6 t1 => ?_)
 refine wcr (asg R R (wnt (wct (wbr (wqr (wqr (wbr (wqr (wqr ?_)))))))))
 replace t0 := lpR t0 l1 t1
 obtain rfl := oi t0
 exact wq1 R R fun w hw => ⟨R, hw.weak zn⟩
 refine wck (wqb (wqt (wcg (wlq (po_inc R R (by omega)) R ?_))))
 exact mv R R (wln (wq_rnd hk1 (stpN l1 t1) () (su4 R R R R) zn))
 have c1 : (decide (((k1 : Nat) : Int) < ((a_list.length : Nat) : Int))) = false := ddf (by omega)
 have en1 := foe l1 hk1
 exact wcr (wlq (pls R R) R (wnt (wcs (wff R c1 (wcx (wqe (wqe (wbx (wjm _ () en1 (su1 R) zn)))))))))
 intro e1 _ hp
 replace t0 := sqE (j := e1) t0 hp
 refine wqt (wcr (mv R R (wlq (pln (rga r0) el_24 R) R (wlq (po_leq R R) R (asg R R (wnt (wct ?_)))))))
 obtain rfl := oi t0
 exact wq1 R R fun w hw => ⟨R, hw.weak zn⟩

theorem c_impl_allWithin (w : World) (a_list : List Int) (v0a : Hd) (r0 : rdF w (dm w []) (sl v0a) a_list) (a_a : Int) (a_b : Int) {r : Bool} (t0 : impl_allWithin a_list a_a a_b = some r) : Calls Tryz.prog 56 #[(sl v0a), .int .i64 a_a, .int .i64 a_b] w fun e w' => e = .returned (.bool r) ∧ SH w [] [] w' := by
 refine cwc (args := [_, _, _]) Tryz.func56 R Tryz.ntmps56 R ?_
 unfold impl_allWithin at t0
 refine wcr (asg R R (wnt (wcs (wcr (mv R R (wlq (pln (rga r0) el_25 R) R (mv R R (wnt (gdO t0 fun g1 t0 => (sqO t0 fun y1 l1 t0 => (wj (J := Unit) (X := Unit) (fun z => y1 = .inl z) (fun _ _ => []) (fun _ _ => []) ?_ ?_)))))))))))
 refine wcb (wcf (X := Unit) l1 (fun k1 s1 x1l => [(1, iv a_a), (2, iv a_b), (9, (sl v0a)), (10, iv ((a_list.length : Nat) : Int)), (11, iv ((k1 : Nat) : Int))]) (fun k1 s1 x1l => []) () (su5 R R R R R) zn fun k1 s1 x1l hN1 l1 => ?_)
 by_cases hk1 : k1 < a_list.length
 refine fos l1 hk1 fun _ t1 l1 => ?_
 unfold impl_allWithin_L1 at t1
 have c1 : (decide (((k1 : Nat) : Int) < ((a_list.length : Nat) : Int))) = true := ddt (by omega)
 refine wcr (wlq (pls R R) R (wnt (wcs (wft R c1 (wck (wqt (wcs (wcb (wcr (wlq (po_ixn (k := k1) (rga r0) el_25 R R hk1) R (wlq (v := iv (gx a_list k1)) (po_ldf (rga r0) tk_3 R hk1 R) R (asg R R (wnt (wcr (mv R R (mv R R (mv R R (bdO t1 fun v1 hv1 t1 => (wlc (cz0 fa_35 R fun w hw => c_impl_within w (gx a_list k1) a_a a_b hv1) R fun _ => (wlq (po_not R) R (wnt (wcO t1 R (fun h1 t1 => ?_) fun h1 t1 => ?_))))))))))))))))))))))
 refine wcr (asg R R (wnt (wct (wbr (wqr (wqr (wbr (wqr (wqr ?_)))))))))
 replace t0 := lpR t0 l1 t1
 obtain rfl := oi t0
 exact wq1 R R fun w hw => ⟨R, hw.weak zn⟩
 refine wck (wqb (wqt (wcg (wlq (po_inc R R (by omega)) R ?_))))
 exact mv R R (wln (wq_rnd hk1 (stpN l1 t1) () (su5 R R R R R) zn))
 have c1 : (decide (((k1 : Nat) : Int) < ((a_list.length : Nat) : Int))) = false := ddf (by omega)
 have en1 := foe l1 hk1
 exact wcr (wlq (pls R R) R (wnt (wcs (wff R c1 (wcx (wqe (wqe (wbx (wjm _ () en1 yn zn)))))))))
 intro e1 _ hp
 replace t0 := sqE (j := e1) t0 hp
 refine wqt (wcr (asg R R (wnt (wct ?_))))
 obtain rfl := oi t0
 exact wq1 R R fun w hw => ⟨R, hw.weak zn⟩

theorem c_impl_StockOk (w : World) (a_stock : List Int) (v0a : Hd) (r0 : rdF w (dm w []) (sl v0a) a_stock) {r : Bool} (t0 : impl_StockOk a_stock = some r) : Calls Tryz.prog 31 #[(sl v0a)] w fun e w' => e = .returned (.bool r) ∧ SH w [] [] w' := by
 refine cwc (args := [_]) Tryz.func31 R Tryz.ntmps31 R ?_
 unfold impl_StockOk at t0
 refine wcr (asg R R (wnt (wcs (bdO t0 fun y1 t1 t0 => (wj (J := Bool) (X := Unit) (fun z => y1 = z) (fun z _ => [(2, .bool z)]) (fun _ _ => []) ?_ ?_)))))
 refine wcg (mv R R (wlq (pln (rga r0) el_25 R) R (wlq (pol R R) R (mv R R (wlo (t := 6) t1 R (fun h1 t1 => ?_) fun h1 t1 => ?_)))))
 exact wgn (j := 3) R R R (mv R R (bdO t1 fun v1 hv1 t1 => (wgn (j := 3) R R R (wlc (cz0 fa_56 R fun w hw => c_impl_allWithin w a_stock v0a (ra r0 hw) 0 1000000 hv1) R (fun _ => (wlq (pit R R) R (asg R R (wln (wjm _ () (mtE t1) (su1 R) zn)))))))))
 exact wgf (j := 3) R R R R R (wgf (j := 3) R R R R R (wlq (pif R R) R (asg R R (wln (wjm _ () (mtE t1) (su1 R) zn)))))
 intro j1 _ hp
 obtain rfl : j1 = y1 := hp.symm
 refine wqt (wct ?_)
 obtain rfl := oi t0
 exact wq1 R R fun w hw => ⟨R, hw.weak zn⟩

theorem c_impl_LedgerOk (w : World) (a_list : List GBooking) (v0a : Hd) (r0 : rdF w (dm w []) (sl v0a) a_list) {r : Bool} (t0 : impl_LedgerOk a_list = some r) : Calls Tryz.prog 32 #[(sl v0a)] w fun e w' => e = .returned (.bool r) ∧ SH w [] [] w' := by
 refine cwc (args := [_]) Tryz.func32 R Tryz.ntmps32 R ?_
 unfold impl_LedgerOk at t0
 refine wcr (asg R R (wnt (wcs (wcr (mv R R (wlq (pln (rga r0) el_27 R) R (mv R R (wnt (gdO t0 fun g1 t0 => (sqO t0 fun y1 l1 t0 => (wj (J := Unit) (X := Unit) (fun z => y1 = .inl z) (fun _ _ => [(0, (sl v0a))]) (fun _ _ => []) ?_ ?_)))))))))))
 refine wcb (wcf (X := Unit) l1 (fun k1 s1 x1l => [(0, (sl v0a)), (5, (sl v0a)), (6, iv ((a_list.length : Nat) : Int)), (7, iv ((k1 : Nat) : Int))]) (fun k1 s1 x1l => []) () (su4 R R R R) zn fun k1 s1 x1l hN1 l1 => ?_)
 by_cases hk1 : k1 < a_list.length
 refine fos l1 hk1 fun _ t1 l1 => ?_
 unfold impl_LedgerOk_L1 at t1
 have c1 : (decide (((k1 : Nat) : Int) < ((a_list.length : Nat) : Int))) = true := ddt (by omega)
 refine wcr (wlq (pls R R) R (wnt (wcs (wft R c1 (wck (wqt (wcs (wcb (wcr (mv R R (wlq (po_ixn (k := k1) (rga r0) el_27 R R hk1) R (wlq (v := .agg #[iv ((gx a_list k1).Day), iv ((gx a_list k1).From), iv ((gx a_list k1).To), iv ((gx a_list k1).Sum)]) (po_ldfs (rga r0) tk_96 R hk1 R R R) R (wle (eal (cs := [iv 0, iv 0, iv 0, iv 0]) za_96) R fun b1 => (asg R R (wls (sbx (cs' := [iv ((gx a_list k1).Day), iv ((gx a_list k1).From), iv ((gx a_list k1).To), iv ((gx a_list k1).Sum)]) tk_96 pz R R R R R R R) (wnt (wcs (bdO t1 fun y2 t2 t1 => (wj (J := Bool) (X := Unit) (fun z => y2 = z) (fun z _ => [(0, (sl v0a)), (5, (sl v0a)), (6, iv ((a_list.length : Nat) : Int)), (7, iv ((k1 : Nat) : Int)), (55, .bool z)]) (fun _ _ => []) ?_ ?_)))))))))))))))))))
 refine wcd [box b1 [iv ((gx a_list k1).Day), iv ((gx a_list k1).From), iv ((gx a_list k1).To), iv ((gx a_list k1).Sum)]] 44 mixed (aq 0 R (pof fo_96_0 R) so1 R (aq (v := iv ((gx a_list k1).Day)) 1 R (plx tk_3 pz R R) so1 R (a1 2 (bdO t2 fun v1 hv1 t2 => (wsc R (cz0 fa_35 R fun w hw => c_impl_within w ((gx a_list k1).Day) 0 9999 hv1) (fun _ => (zt so1)) R fun _ => (aq 3 R (po_not R) so1 R (aq 4 R (pom R) so1 R (waO_ (t := 16) t2 R (fun h1 t2 => ?_) fun h1 t2 => ?_))))))))
 refine af 5 4 R R R R R so1 R (af 6 4 R R R R R so1 R (af 7 4 R R R R R so1 R (au 8 7 R R R R so1 R (au 9 7 R R R R so1 R (au 10 7 R R R R so1 R (au 11 7 R R R R so1 R (au 12 7 R R R R so1 R (au 13 7 R R R R so1 R (au 14 7 R R R R so1 R (au 15 7 R R R R so1 R (au 16 7 R R R R so1 R (af 17 4 R R R R R so1 R (aq 18 R (pit R R) so1 R (aq 19 R (pom R) so1 R (af 20 19 R R R R R so1 R (af 21 19 R R R R R so1 R (af 22 19 R R R R R so1 R (af 23 19 R R R R R so1 R (aq 24 R (pit R R) so1 R (aq 25 R (pom R) so1 R (af 26 25 R R R R R so1 R (af 27 25 R R R R R so1 R (af 28 25 R R R R R so1 R (af 29 25 R R R R R so1 R (aq 30 R (pit R R) so1 R (aq 31 R (pom R) so1 R (af 32 31 R R R R R so1 R (af 33 31 R R R R R so1 R (af 34 31 R R R R R so1 R (af 35 31 R R R R R so1 R (af 36 31 R R R R R so1 R (aq 37 R (pit R R) so1 R (aq 38 R (pom R) so1 R (af 39 38 R R R R R so1 R (af 40 38 R R R R R so1 R (af 41 38 R R R R R so1 R (af 42 38 R R R R R so1 R (aq 43 R (pit R R) so1 R (ae ?_)))))))))))))))))))))))))))))))))))))))
 exact wjm _ () (mtE t2) (su5 R R R R R) zn
 refine an 5 4 R R R R (pom R) so1 R (an 6 4 R R R R (po_gtr R R) so1 R (an 7 4 R R R R (pom R) so1 R (waO_ (t := 19) t2 R (fun h2 t2 => ?_) fun h2 t2 => ?_)))
 refine an 8 7 R R R R (pof fo_96_0 R) so1 R (an (v := iv ((gx a_list k1).Day)) 9 7 R R R R (plx tk_3 pz R R) so1 R (an 10 7 R R R R (pom R) so1 R (an 11 7 R R R R (pom R) so1 R (an 12 7 R R R R (po_sub R R) so1 R (gdO t2 fun g2 t2 => (an 13 7 R R R R (po_ixr (rga r0) el_27 R R g2.1 g2.2) so1 R (an 14 7 R R R R (po_sfldr (rga r0) (ix_lt g2) fo_96_0 R) so1 R (an (v := iv ((gx a_list (((wr (((k1 : Nat) : Int) - 1))).toNat)).Day)) 15 7 R R R R (po_ldf (rga r0) tk_3 R (ix_lt g2) R) so1 R (an 16 7 R R R R (pls R R) so1 R (an 17 4 R R R R (pit R R) so1 R (aq 18 R (pif R R) so1 R (aq 19 R (pom R) so1 R (waO_ (t := 31) t2 R (fun h3 t2 => ?_) fun h3 t2 => ?_)))))))))))))
 exact af 20 19 R R R R R so1 R (af 21 19 R R R R R so1 R (af 22 19 R R R R R so1 R (af 23 19 R R R R R so1 R (aq 24 R (pit R R) so1 R (aq 25 R (pom R) so1 R (af 26 25 R R R R R so1 R (af 27 25 R R R R R so1 R (af 28 25 R R R R R so1 R (af 29 25 R R R R R so1 R (aq 30 R (pit R R) so1 R (aq 31 R (pom R) so1 R (af 32 31 R R R R R so1 R (af 33 31 R R R R R so1 R (af 34 31 R R R R R so1 R (af 35 31 R R R R R so1 R (af 36 31 R R R R R so1 R (aq 37 R (pit R R) so1 R (aq 38 R (pom R) so1 R (af 39 38 R R R R R so1 R (af 40 38 R R R R R so1 R (af 41 38 R R R R R so1 R (af 42 38 R R R R R so1 R (aq 43 R (pit R R) so1 R (ae (wjm _ () (mtE t2) (su5 R R R R R) zn)))))))))))))))))))))))))
 refine an 20 19 R R R R (pof fo_96_1 R) so1 R (an (v := iv ((gx a_list k1).From)) 21 19 R R R R (plx tk_3 pz R R) so1 R (a1 22 (bdO t2 fun v2 hv2 t2 => (ws_call_on (j := 19) R R R R (cz0 fa_35 R fun w hw => c_impl_within w ((gx a_list k1).From) 0 4 hv2) (fun _ => (zt so1)) R fun _ => (an 23 19 R R R R (po_not R) so1 R (aq 24 R (pif R R) so1 R (aq 25 R (pom R) so1 R (waO_ (t := 37) t2 R (fun h4 t2 => ?_) fun h4 t2 => ?_))))))))
 exact af 26 25 R R R R R so1 R (af 27 25 R R R R R so1 R (af 28 25 R R R R R so1 R (af 29 25 R R R R R so1 R (aq 30 R (pit R R) so1 R (aq 31 R (pom R) so1 R (af 32 31 R R R R R so1 R (af 33 31 R R R R R so1 R (af 34 31 R R R R R so1 R (af 35 31 R R R R R so1 R (af 36 31 R R R R R so1 R (aq 37 R (pit R R) so1 R (aq 38 R (pom R) so1 R (af 39 38 R R R R R so1 R (af 40 38 R R R R R so1 R (af 41 38 R R R R R so1 R (af 42 38 R R R R R so1 R (aq 43 R (pit R R) so1 R (ae (wjm _ () (mtE t2) (su5 R R R R R) zn)))))))))))))))))))
 refine an 26 25 R R R R (pof fo_96_2 R) so1 R (an (v := iv ((gx a_list k1).To)) 27 25 R R R R (plx tk_3 pz R R) so1 R (a1 28 (bdO t2 fun v3 hv3 t2 => (ws_call_on (j := 25) R R R R (cz0 fa_35 R fun w hw => c_impl_within w ((gx a_list k1).To) 0 4 hv3) (fun _ => (zt so1)) R fun _ => (an 29 25 R R R R (po_not R) so1 R (aq 30 R (pif R R) so1 R (aq 31 R (pom R) so1 R (waO_ (t := 43) t2 R (fun h5 t2 => ?_) fun h5 t2 => ?_))))))))
 exact af 32 31 R R R R R so1 R (af 33 31 R R R R R so1 R (af 34 31 R R R R R so1 R (af 35 31 R R R R R so1 R (af 36 31 R R R R R so1 R (aq 37 R (pit R R) so1 R (aq 38 R (pom R) so1 R (af 39 38 R R R R R so1 R (af 40 38 R R R R R so1 R (af 41 38 R R R R R so1 R (af 42 38 R R R R R so1 R (aq 43 R (pit R R) so1 R (ae (wjm _ () (mtE t2) (su5 R R R R R) zn)))))))))))))
 refine an 32 31 R R R R (pof fo_96_1 R) so1 R (an (v := iv ((gx a_list k1).From)) 33 31 R R R R (plx tk_3 pz R R) so1 R (an 34 31 R R R R (pof fo_96_2 R) so1 R (an (v := iv ((gx a_list k1).To)) 35 31 R R R R (plx tk_3 pz R R) so1 R (an 36 31 R R R R (pol R R) so1 R (aq 37 R (pif R R) so1 R (aq 38 R (pom R) so1 R (waO_ (t := 50) t2 R (fun h6 t2 => ?_) fun h6 t2 => ?_)))))))
 exact af 39 38 R R R R R so1 R (af 40 38 R R R R R so1 R (af 41 38 R R R R R so1 R (af 42 38 R R R R R so1 R (aq 43 R (pit R R) so1 R (ae (wjm _ () (mtE t2) (su5 R R R R R) zn))))))
 exact an 39 38 R R R R (pof fo_96_3 R) so1 R (an (v := iv ((gx a_list k1).Sum)) 40 38 R R R R (plx tk_3 pz R R) so1 R (a1 41 (bdO t2 fun v4 hv4 t2 => (ws_call_on (j := 38) R R R R (cz0 fa_35 R fun w hw => c_impl_within w ((gx a_list k1).Sum) 1 100000 hv4) (fun _ => (zt so1)) R fun _ => (an 42 38 R R R R (po_not R) so1 R (aq 43 R (pif R R) so1 R (ae (wjm _ () (mtE t2) (su5 R R R R R) zn))))))))
 refine af 8 7 R R R R R so1 R (af 9 7 R R R R R so1 R (af 10 7 R R R R R so1 R (af 11 7 R R R R R so1 R (af 12 7 R R R R R so1 R (af 13 7 R R R R R so1 R (af 14 7 R R R R R so1 R (af 15 7 R R R R R so1 R (af 16 7 R R R R R so1 R (an 17 4 R R R R (pif R R) so1 R (aq 18 R (pif R R) so1 R (aq 19 R (pom R) so1 R (an 20 19 R R R R (pof fo_96_1 R) so1 R (an (v := iv ((gx a_list k1).From)) 21 19 R R R R (plx tk_3 pz R R) so1 R (a1 22 (bdO t2 fun v5 hv5 t2 => (ws_call_on (j := 19) R R R R (cz0 fa_35 R fun w hw => c_impl_within w ((gx a_list k1).From) 0 4 hv5) (fun _ => (zt so1)) R fun _ => (an 23 19 R R R R (po_not R) so1 R (aq 24 R (pif R R) so1 R (aq 25 R (pom R) so1 R (waO_ (t := 37) t2 R (fun h7 t2 => ?_) fun h7 t2 => ?_))))))))))))))))))))
 exact af 26 25 R R R R R so1 R (af 27 25 R R R R R so1 R (af 28 25 R R R R R so1 R (af 29 25 R R R R R so1 R (aq 30 R (pit R R) so1 R (aq 31 R (pom R) so1 R (af 32 31 R R R R R so1 R (af 33 31 R R R R R so1 R (af 34 31 R R R R R so1 R (af 35 31 R R R R R so1 R (af 36 31 R R R R R so1 R (aq 37 R (pit R R) so1 R (aq 38 R (pom R) so1 R (af 39 38 R R R R R so1 R (af 40 38 R R R R R so1 R (af 41 38 R R R R R so1 R (af 42 38 R R R R R so1 R (aq 43 R (pit R R) so1 R (ae (wjm _ () (mtE t2) (su5 R R R R R) zn)))))))))))))))))))
 refine an 26 25 R R R R (pof fo_96_2 R) so1 R (an (v := iv ((gx a_list k1).To)) 27 25 R R R R (plx tk_3 pz R R) so1 R (a1 28 (bdO t2 fun v6 hv6 t2 => (ws_call_on (j := 25) R R R R (cz0 fa_35 R fun w hw => c_impl_within w ((gx a_list k1).To) 0 4 hv6) (fun _ => (zt so1)) R fun _ => (an 29 25 R R R R (po_not R) so1 R (aq 30 R (pif R R) so1 R (aq 31 R (pom R) so1 R (waO_ (t := 43) t2 R (fun h8 t2 => ?_) fun h8 t2 => ?_))))))))
 exact af 32 31 R R R R R so1 R (af 33 31 R R R R R so1 R (af 34 31 R R R R R so1 R (af 35 31 R R R R R so1 R (af 36 31 R R R R R so1 R (aq 37 R (pit R R) so1 R (aq 38 R (pom R) so1 R (af 39 38 R R R R R so1 R (af 40 38 R R R R R so1 R (af 41 38 R R R R R so1 R (af 42 38 R R R R R so1 R (aq 43 R (pit R R) so1 R (ae (wjm _ () (mtE t2) (su5 R R R R R) zn)))))))))))))
 refine an 32 31 R R R R (pof fo_96_1 R) so1 R (an (v := iv ((gx a_list k1).From)) 33 31 R R R R (plx tk_3 pz R R) so1 R (an 34 31 R R R R (pof fo_96_2 R) so1 R (an (v := iv ((gx a_list k1).To)) 35 31 R R R R (plx tk_3 pz R R) so1 R (an 36 31 R R R R (pol R R) so1 R (aq 37 R (pif R R) so1 R (aq 38 R (pom R) so1 R (waO_ (t := 50) t2 R (fun h9 t2 => ?_) fun h9 t2 => ?_)))))))
 exact af 39 38 R R R R R so1 R (af 40 38 R R R R R so1 R (af 41 38 R R R R R so1 R (af 42 38 R R R R R so1 R (aq 43 R (pit R R) so1 R (ae (wjm _ () (mtE t2) (su5 R R R R R) zn))))))
 exact an 39 38 R R R R (pof fo_96_3 R) so1 R (an (v := iv ((gx a_list k1).Sum)) 40 38 R R R R (plx tk_3 pz R R) so1 R (a1 41 (bdO t2 fun v7 hv7 t2 => (ws_call_on (j := 38) R R R R (cz0 fa_35 R fun w hw => c_impl_within w ((gx a_list k1).Sum) 1 100000 hv7) (fun _ => (zt so1)) R fun _ => (an 42 38 R R R R (po_not R) so1 R (aq 43 R (pif R R) so1 R (ae (wjm _ () (mtE t2) (su5 R R R R R) zn))))))))
 intro j1 _ hp
 obtain rfl : j1 = y2 := hp.symm
 refine wqt (wcO t1 R (fun h10 t1 => ?_) fun h10 t1 => ?_)
 refine wcr (asg R R (wnt (wct (wbr (wqr (wqr (wbr (wqr (wqr ?_)))))))))
 replace t0 := lpR t0 l1 t1
 obtain rfl := oi t0
 exact wq1 R R fun w hw => ⟨R, hw.weak zn⟩
 refine wck (wqb (wqt (wcg (wlq (po_inc R R (by omega)) R ?_))))
 exact mv R R (wln (wq_rnd hk1 (stpN l1 t1) () (su4 R R R R) zn))
 have c1 : (decide (((k1 : Nat) : Int) < ((a_list.length : Nat) : Int))) = false := ddf (by omega)
 have en1 := foe l1 hk1
 exact wcr (wlq (pls R R) R (wnt (wcs (wff R c1 (wcx (wqe (wqe (wbx (wjm _ () en1 (su1 R) zn)))))))))
 intro e1 _ hp
 replace t0 := sqE (j := e1) t0 hp
 refine wqt (wcr (mv R R (wlq (pln (rga r0) el_27 R) R (wlq (po_leq R R) R (asg R R (wnt (wct ?_)))))))
 obtain rfl := oi t0
 exact wq1 R R fun w hw => ⟨R, hw.weak zn⟩

theorem c_impl_isColor (w : World) (a_a : Int) {r : Bool} (t0 : impl_isColor a_a = some r) : Calls Tryz.prog 85 #[.int .i64 a_a] w fun e w' => e = .returned (.bool r) ∧ SH w [] [] w' := by
 refine cwc (args := [_]) Tryz.func85 R Tryz.ntmps85 R ?_
 unfold impl_isColor at t0
 refine wcr (asg R R (wnt (wcr (mv R R (bdO t0 fun v1 hv1 t0 => (wlc (cz0 fa_35 R fun w hw => c_impl_within w a_a 0 5 hv1) R fun _ => (asg R R (wnt (wct ?_)))))))))
 obtain rfl := oi t0
 exact wq1 R R fun w hw => ⟨R, hw.weak zn⟩

theorem c_impl_CellOk (w : World) (a_c : GCell) {r : Bool} (t0 : impl_CellOk a_c = some r) : Calls Tryz.prog 74 #[.agg #[.int .i64 a_c.Split, .int .i64 a_c.A, .int .i64 a_c.B]] w fun e w' => e = .returned (.bool r) ∧ SH w [] [] w' := by
 refine cwc (args := [_]) Tryz.func74 R Tryz.ntmps74 R ?_
 unfold impl_CellOk at t0
 refine wcr (wle (eo_box R R) R fun b1 => (asg R R (wnt (wcs (bdO t0 fun y1 t1 t0 => (wj (J := Bool) (X := Unit) (fun z => y1 = z) (fun z _ => [(2, .bool z)]) (fun _ _ => []) ?_ ?_))))))
 refine wcg (wlq (pof fo_87_0 R) R (wlq (v := iv a_c.Split) (plx tk_3 pz R R) R (bdO t1 fun v1 hv1 t1 => (wlc (cz0 fa_35 R fun w hw => c_impl_within w a_c.Split 0 2 hv1) R fun _ => (mv R R (wlo (t := 6) t1 R (fun h1 t1 => ?_) fun h1 t1 => ?_))))))
 refine wgn (j := 3) R R R (wlq (pof fo_87_1 R) R (wgn (j := 3) R R R (wlq (v := iv a_c.A) (plx tk_3 pz R R) R (bdO t1 fun v2 hv2 t1 => (wgn (j := 3) R R R (wlc (cz0 fa_85 R fun w hw => c_impl_isColor w a_c.A hv2) R (fun _ => (wlq (pit R R) R (mv R R (wlo (t := 11) t1 R (fun h2 t1 => ?_) fun h2 t1 => ?_))))))))))
 refine wgn (j := 8) R R R (wlq (pof fo_87_2 R) R (wgn (j := 8) R R R (wlq (v := iv a_c.B) (plx tk_3 pz R R) R (bdO t1 fun v3 hv3 t1 => (wgn (j := 8) R R R (wlc (cz0 fa_85 R fun w hw => c_impl_isColor w a_c.B hv3) R (fun _ => (wlq (pit R R) R (mv R R (wlo (t := 16) t1 R (fun h3 t1 => ?_) fun h3 t1 => ?_))))))))))
 exact wgn (j := 13) R R R (wlq (pof fo_87_0 R) R (wgn (j := 13) R R R (wlq (v := iv a_c.Split) (plx tk_3 pz R R) R (wgn (j := 13) R R R (wlq (pol R R) R (wgn (j := 13) R R R (wlq (pof fo_87_1 R) R (wgn (j := 13) R R R (wlq (v := iv a_c.A) (plx tk_3 pz R R) R (wgn (j := 13) R R R (wlq (pof fo_87_2 R) R (wgn (j := 13) R R R (wlq (v := iv a_c.B) (plx tk_3 pz R R) R (wgn (j := 13) R R R (wlq (pol R R) R (wgn (j := 13) R R R (wlq (po_eql_bool ub_4 R R) R (wlq (pit R R) R (asg R R (wln (wjm _ () (mtE t1) (su1 R) zn)))))))))))))))))))))
 exact wgf (j := 13) R R R R R (wgf (j := 13) R R R R R (wgf (j := 13) R R R R R (wgf (j := 13) R R R R R (wgf (j := 13) R R R R R (wgf (j := 13) R R R R R (wgf (j := 13) R R R R R (wgf (j := 13) R R R R R (wgf (j := 13) R R R R R (wlq (pif R R) R (asg R R (wln (wjm _ () (mtE t1) (su1 R) zn))))))))))))
 exact wgf (j := 8) R R R R R (wgf (j := 8) R R R R R (wgf (j := 8) R R R R R (wlq (pif R R) R (mv R R (wgf (j := 13) R R R R R (wgf (j := 13) R R R R R (wgf (j := 13) R R R R R (wgf (j := 13) R R R R R (wgf (j := 13) R R R R R (wgf (j := 13) R R R R R (wgf (j := 13) R R R R R (wgf (j := 13) R R R R R (wgf (j := 13) R R R R R (wlq (pif R R) R (asg R R (wln (wjm _ () (mtE t1) (su1 R) zn)))))))))))))))))
 exact wgf (j := 3) R R R R R (wgf (j := 3) R R R R R (wgf (j := 3) R R R R R (wlq (pif R R) R (mv R R (wgf (j := 8) R R R R R (wgf (j := 8) R R R R R (wgf (j := 8) R R R R R (wlq (pif R R) R (mv R R (wgf (j := 13) R R R R R (wgf (j := 13) R R R R R (wgf (j := 13) R R R R R (wgf (j := 13) R R R R R (wgf (j := 13) R R R R R (wgf (j := 13) R R R R R (wgf (j := 13) R R R R R (wgf (j := 13) R R R R R (wgf (j := 13) R R R R R (wlq (pif R R) R (asg R R (wln (wjm _ () (mtE t1) (su1 R) zn))))))))))))))))))))))
 intro j1 _ hp
 obtain rfl : j1 = y1 := hp.symm
 refine wqt (wct ?_)
 obtain rfl := oi t0
 exact wq1 R R fun w hw => ⟨R, hw.weak zn⟩

theorem c_impl_BlockOk (w : World) (a_b : GBlock) (v0a : Hd) (r0 : rdF w (dm w []) (sl v0a) a_b.Cells) {r : Bool} (t0 : impl_BlockOk a_b = some r) : Calls Tryz.prog 46 #[.agg #[.int .i64 a_b.Size, (sl v0a)]] w fun e w' => e = .returned (.bool r) ∧ SH w [] [] w' := by
 refine cwc (args := [_]) Tryz.func46 R Tryz.ntmps46 R ?_
 unfold impl_BlockOk at t0
 refine wcr (wle (eo_box R R) R fun b1 => (asg R R (wnt (wcs (wcs (bdO t0 fun y1 t1 t0 => (wj (J := Bool) (X := Unit) (fun z => y1 = z) (fun z _ => [(1, ptr b1 0), (19, .bool z)]) (fun _ _ => [box b1 [iv a_b.Size, (sl v0a)]]) ?_ ?_)))))))
 refine wcg (wlq (pof fo_56_0 R) R (wlq (v := iv a_b.Size) (plx tk_3 pz R R) R (bdO t1 fun v1 hv1 t1 => (wlc (cz0 fa_35 R fun w hw => c_impl_within w a_b.Size 1 4 hv1) R fun _ => (wlq (po_not R) R (mv R R (wlo (t := 9) t1 R (fun h1 t1 => ?_) fun h1 t1 => ?_)))))))
 exact wgf (j := 4) R R R R R (wgf (j := 4) R R R R R (wgf (j := 4) R R R R R (wgf (j := 4) R R R R R (wgf (j := 4) R R R R R (wgf (j := 4) R R R R R (wgf (j := 4) R R R R R (wgf (j := 4) R R R R R (wgf (j := 4) R R R R R (wlq (pit R R) R (wln (wjm _ () (mtE t1) (su2 R R) so1)))))))))))
 exact wgn (j := 4) R R R (wlq (pof fo_56_1 R) R (wgn (j := 4) R R R (wlq (v := (sl v0a)) (plx tk_54 pz R R) R (wgn (j := 4) R R R (wlq (pln (rga r0) el_54 R) R (wgn (j := 4) R R R (wlq (pof fo_56_0 R) R (wgn (j := 4) R R R (wlq (v := iv a_b.Size) (plx tk_3 pz R R) R (wgn (j := 4) R R R (wlq (pof fo_56_0 R) R (wgn (j := 4) R R R (wlq (v := iv a_b.Size) (plx tk_3 pz R R) R (wgn (j := 4) R R R (wlq (po_mul R R) R (wgn (j := 4) R R R (wlq (po_neq R R) R (wlq (pif R R) R (wln (wjm _ () (mtE t1) (su2 R R) so1))))))))))))))))))))
 intro j1 _ hp
 obtain rfl : j1 = y1 := hp.symm
 refine wqt (wcO t0 R (fun h2 t0 => ?_) fun h2 t0 => ?_)
 refine wcr (asg R R (wnt (wct (wqr ?_))))
 obtain rfl := oi t0
 exact wq1 R R fun w hw => ⟨R, hw.weak zn⟩
 refine wck (wqt (wcs (wcr (wlq (pof fo_56_1 R) R (wlq (v := (sl v0a)) (plx tk_54 pz R R) R (wlq (pln (rga r0) el_54 R) R (mv R R (wnt (gdO t0 fun g1 t0 => (sqO t0 fun y1 l1 t0 => (wj (J := Unit) (X := Unit) (fun z => y1 = .inl z) (fun _ _ => []) (fun _ _ => []) ?_ ?_)))))))))))
 refine wcb (wcf (X := Unit) l1 (fun k1 s1 x1l => [(21, (sl v0a)), (22, iv ((a_b.Cells.length : Nat) : Int)), (23, iv ((k1 : Nat) : Int))]) (fun k1 s1 x1l => []) () (su3 R R R) zn fun k1 s1 x1l hN1 l1 => ?_)
 by_cases hk1 : k1 < a_b.Cells.length
 refine fos l1 hk1 fun _ t1 l1 => ?_
 unfold impl_BlockOk_L1 at t1
 have c1 : (decide (((k1 : Nat) : Int) < ((a_b.Cells.length : Nat) : Int))) = true := ddt (by omega)
 refine wcr (wlq (pls R R) R (wnt (wcs (wft R c1 (wck (wqt (wcs (wcb (wcr (wlq (po_ixn (k := k1) (rga r0) el_54 R R hk1) R (wlq (v := .agg #[iv ((gx a_b.Cells k1).Split), iv ((gx a_b.Cells k1).A), iv ((gx a_b.Cells k1).B)]) (po_ldfs (rga r0) tk_87 R hk1 R R R) R (wle (eal (cs := [iv 0, iv 0, iv 0]) za_87) R fun b2 => (wls (sbx (cs' := [iv ((gx a_b.Cells k1).Split), iv ((gx a_b.Cells k1).A), iv ((gx a_b.Cells k1).B)]) tk_87 pz R R R R R R R) (wnt (wcr (wlq (v := .agg #[iv ((gx a_b.Cells k1).Split), iv ((gx a_b.Cells k1).A), iv ((gx a_b.Cells k1).B)]) (plb tk_87 pz R R R) R (bdO t1 fun v2 hv2 t1 => (wlc (cz0 fa_74 R fun w hw => c_impl_CellOk w (gx a_b.Cells k1) hv2) R fun _ => (wlq (po_not R) R (wnt (wcO t1 R (fun h3 t1 => ?_) fun h3 t1 => ?_)))))))))))))))))))))
 refine wcr (asg R R (wnt (wct (wbr (wqr (wqr (wbr (wqr (wqr ?_)))))))))
 replace t0 := lpR t0 l1 t1
 obtain rfl := oi t0
 exact wq1 R R fun w hw => ⟨R, hw.weak zn⟩
 refine wck (wqb (wqt (wcg (wlq (po_inc R R (by omega)) R ?_))))
 exact mv R R (wln (wq_rnd hk1 (stpN l1 t1) () (su3 R R R) zn))
 have c1 : (decide (((k1 : Nat) : Int) < ((a_b.Cells.length : Nat) : Int))) = false := ddf (by omega)
 have en1 := foe l1 hk1
 exact wcr (wlq (pls R R) R (wnt (wcs (wff R c1 (wcx (wqe (wqe (wbx (wjm _ () en1 yn zn)))))))))
 intro e1 _ hp
 replace t0 := sqE (j := e1) t0 hp
 refine wqt (wcr (asg R R (wnt (wct ?_))))
 obtain rfl := oi t0
 exact wq1 R R fun w hw => ⟨R, hw.weak zn⟩

theorem c_impl_EntryOk (w : World) (a_e : GEntry) (v0a : Hd) (r0 : rdF w (dm w []) (sl v0a) a_e.Block.Cells) {r : Bool} (t0 : impl_EntryOk a_e = some r) : Calls Tryz.prog 33 #[.agg #[.int .i64 a_e.Owner, .int .i64 a_e.Day, .int .i64 a_e.Block.Size, (sl v0a)]] w fun e w' => e = .returned (.bool r) ∧ SH w [] [] w' := by
 refine cwc (args := [_]) Tryz.func33 R Tryz.ntmps33 R ?_
 unfold impl_EntryOk at t0
 refine wcr (wle (eo_box R R) R fun b1 => (asg R R (wnt (wcs (bdO t0 fun y1 t1 t0 => (wj (J := Bool) (X := Unit) (fun z => y1 = z) (fun z _ => [(2, .bool z)]) (fun _ _ => []) ?_ ?_))))))
 refine wcg (wlq (pof fo_58_0 R) R (wlq (v := iv a_e.Owner) (plx tk_3 pz R R) R (bdO t1 fun v1 hv1 t1 => (wlc (cz0 fa_35 R fun w hw => c_impl_within w a_e.Owner 0 99 hv1) R fun _ => (mv R R (wlo (t := 6) t1 R (fun h1 t1 => ?_) fun h1 t1 => ?_))))))
 refine wgn (j := 3) R R R (wlq (pof fo_58_1 R) R (wgn (j := 3) R R R (wlq (v := iv a_e.Day) (plx tk_3 pz R R) R (bdO t1 fun v2 hv2 t1 => (wgn (j := 3) R R R (wlc (cz0 fa_35 R fun w hw => c_impl_within w a_e.Day 0 9999 hv2) R (fun _ => (wlq (pit R R) R (mv R R (wlo (t := 11) t1 R (fun h2 t1 => ?_) fun h2 t1 => ?_))))))))))
 exact wgn (j := 8) R R R (wlq (pof fo_58_2 R) R (wgn (j := 8) R R R (wlq (v := .agg #[iv a_e.Block.Size, (sl v0a)]) (plb tk_56 pz R R R) R (bdO t1 fun v3 hv3 t1 => (wgn (j := 8) R R R (wlc (cz0 fa_46 R fun w hw => c_impl_BlockOk w a_e.Block v0a (ra r0 hw) hv3) R (fun _ => (wlq (pit R R) R (asg R R (wln (wjm _ () (mtE t1) (su1 R) zn)))))))))))
 exact wgf (j := 8) R R R R R (wgf (j := 8) R R R R R (wgf (j := 8) R R R R R (wlq (pif R R) R (asg R R (wln (wjm _ () (mtE t1) (su1 R) zn))))))
 exact wgf (j := 3) R R R R R (wgf (j := 3) R R R R R (wgf (j := 3) R R R R R (wlq (pif R R) R (mv R R (wgf (j := 8) R R R R R (wgf (j := 8) R R R R R (wgf (j := 8) R R R R R (wlq (pif R R) R (asg R R (wln (wjm _ () (mtE t1) (su1 R) zn)))))))))))
 intro j1 _ hp
 obtain rfl : j1 = y1 := hp.symm
 refine wqt (wct ?_)
 obtain rfl := oi t0
 exact wq1 R R fun w hw => ⟨R, hw.weak zn⟩

theorem c_impl_isMember (w : World) (a_list : List GMember) (v0a : Hd) (r0 : rdF w (dm w []) (sl v0a) a_list) (a_number : Int) {r : Bool} (t0 : impl_isMember a_list a_number = some r) : Calls Tryz.prog 34 #[(sl v0a), .int .i64 a_number] w fun e w' => e = .returned (.bool r) ∧ SH w [] [] w' := by
 refine cwc (args := [_, _]) Tryz.func34 R Tryz.ntmps34 R ?_
 unfold impl_isMember at t0
 refine wcr (asg R R (wnt (wcs (wcr (mv R R (wlq (pln (rga r0) el_24 R) R (mv R R (wnt (gdO t0 fun g1 t0 => (sqO t0 fun y1 l1 t0 => (wj (J := Unit) (X := Unit) (fun z => y1 = .inl z) (fun _ _ => []) (fun _ _ => []) ?_ ?_)))))))))))
 refine wcb (wcf (X := Unit) l1 (fun k1 s1 x1l => [(1, iv a_number), (7, (sl v0a)), (8, iv ((a_list.length : Nat) : Int)), (9, iv ((k1 : Nat) : Int))]) (fun k1 s1 x1l => []) () (su4 R R R R) zn fun k1 s1 x1l hN1 l1 => ?_)
 by_cases hk1 : k1 < a_list.length
 refine fos l1 hk1 fun _ t1 l1 => ?_
 unfold impl_isMember_L1 at t1
 have c1 : (decide (((k1 : Nat) : Int) < ((a_list.length : Nat) : Int))) = true := ddt (by omega)
 refine wcr (wlq (pls R R) R (wnt (wcs (wft R c1 (wck (wqt (wcs (wcb (wcr (wlq (po_ixn (k := k1) (rga r0) el_24 R R hk1) R (wlq (v := .agg #[iv ((gx a_list k1).Number), iv ((gx a_list k1).Since), iv ((gx a_list k1).Paid)]) (po_ldfs (rga r0) tk_52 R hk1 R R R) R (wle (eal (cs := [iv 0, iv 0, iv 0]) za_52) R fun b1 => (wls (sbx (cs' := [iv ((gx a_list k1).Number), iv ((gx a_list k1).Since), iv ((gx a_list k1).Paid)]) tk_52 pz R R R R R R R) (wnt (wcr (wlq (pof fo_52_0 R) R (wlq (v := iv ((gx a_list k1).Number)) (plx tk_3 pz R R) R (mv R R (wlq (pol R R) R (wnt (wcO t1 R (fun h1 t1 => ?_) fun h1 t1 => ?_)))))))))))))))))))))
 refine wcr (asg R R (wnt (wct (wbr (wqr (wqr (wbr (wqr (wqr ?_)))))))))
 replace t0 := lpR t0 l1 t1
 obtain rfl := oi t0
 exact wq1 R R fun w hw => ⟨R, hw.weak zn⟩
 refine wck (wqb (wqt (wcg (wlq (po_inc R R (by omega)) R ?_))))
 exact mv R R (wln (wq_rnd hk1 (stpN l1 t1) () (su4 R R R R) zn))
 have c1 : (decide (((k1 : Nat) : Int) < ((a_list.length : Nat) : Int))) = false := ddf (by omega)
 have en1 := foe l1 hk1
 exact wcr (wlq (pls R R) R (wnt (wcs (wff R c1 (wcx (wqe (wqe (wbx (wjm _ () en1 yn zn)))))))))
 intro e1 _ hp
 replace t0 := sqE (j := e1) t0 hp
 refine wqt (wcr (asg R R (wnt (wct ?_))))
 obtain rfl := oi t0
 exact wq1 R R fun w hw => ⟨R, hw.weak zn⟩

theorem c_impl_GoodStanding (w : World) (a_list : List GMember) (v0a : Hd) (r0 : rdF w (dm w []) (sl v0a) a_list) (a_year : Int) {r : List Int} (t0 : impl_GoodStanding a_list a_year = some r) : Calls Tryz.prog 49 #[(sl v0a), .int .i64 a_year] w fun e w' => ∃ x : Hd, e = .returned ((sl x)) ∧ SH w [] [ownF (sl x) r] w' := by
 refine cwc (args := [_, _]) Tryz.func49 R Tryz.ntmps49 R ?_
 unfold impl_GoodStanding at t0
 refine wcr (asg R R (wnt (wcs (wcr (mv R R (bdO t0 fun v1 hv1 t0 => (wlc (cz0 fa_30 R fun w hw => c_impl_MembersOk w a_list v0a (ra r0 hw) hv1) R fun _ => (wlq (po_not R) R (wnt (wcO t0 R (fun h1 t0 => ?_) fun h1 t0 => ?_))))))))))
 refine wcr (asg R R (wnt (wct (wqr ?_))))
 obtain rfl := oi t0
 exact wq1 R R fun w hw => ⟨hn, R, hw.weak (zc pick_nil zn)⟩
 refine wck (wqt (wcr (wle (ebs R sb_25_0) R fun b1 => (asg R R (wnt (wcs (wcr (mv R R (wlq (pln (rga r0) el_24 R) R (mv R R (wnt (gdO t0 fun g1 t0 => (lpO_inv t0 fun y1 l1 t0 => (wj (J := List Int) (X := Hd) (fun z => y1 = z) (fun _ x => [(5, (sl x))]) (fun z x => [ownF (sl x) z]) ?_ ?_))))))))))))))
 refine wcb (wcf (X := Hd) l1 (fun k1 s1 x1l => [(1, iv a_year), (5, (sl x1l)), (12, (sl v0a)), (13, iv ((a_list.length : Nat) : Int)), (14, iv ((k1 : Nat) : Int))]) (fun k1 s1 x1l => [ownF (sl x1l) s1]) (⟨some ⟨b1, 0, none⟩, 0, 0⟩ : Hd) (su5 R R R R R) (zc (pbo pz (n := 0) (xs := ([] : List Int)) R R (by unfold maxLen; omega)) zn) fun k1 s1 x1l hN1 l1 => ?_)
 by_cases hk1 : k1 < a_list.length
 refine fos l1 hk1 fun _ t1 l1 => ?_
 unfold impl_GoodStanding_L1 at t1
 have c1 : (decide (((k1 : Nat) : Int) < ((a_list.length : Nat) : Int))) = true := ddt (by omega)
 refine wcr (wlq (pls R R) R (wnt (wcs (wft R c1 (wck (wqt (wcs (wcb (wcr (wlq (po_ixn (k := k1) (rga r0) el_24 R R hk1) R (wlq (v := .agg #[iv ((gx a_list k1).Number), iv ((gx a_list k1).Since), iv ((gx a_list k1).Paid)]) (po_ldfs (rga r0) tk_52 R hk1 R R R) R (wle (eal (cs := [iv 0, iv 0, iv 0]) za_52) R fun b2 => (wls (sbx (cs' := [iv ((gx a_list k1).Number), iv ((gx a_list k1).Since), iv ((gx a_list k1).Paid)]) tk_52 pz R R R R R R R) (wnt (wcr (wlq (pof fo_52_2 R) R (wlq (v := iv ((gx a_list k1).Paid)) (plx tk_3 pz R R) R (mv R R (wlq (po_geq R R) R (wnt (bdO t1 fun y2 t2 t1 => (wj (J := List Int) (X := Hd) (fun z => y2 = z) (fun _ x => [(1, iv a_year), (5, (sl x)), (12, (sl v0a)), (13, iv ((a_list.length : Nat) : Int)), (14, iv ((k1 : Nat) : Int))]) (fun z x => [ownF (sl x) z]) ?_ ?_))))))))))))))))))))))
 refine wcO t2 R (fun h2 t2 => ?_) fun h2 t2 => ?_
 refine wcg (mv R R (wlq (pof fo_52_0 R) R (wlq (v := iv ((gx a_list k1).Number)) (plx tk_3 pz R R) R (wle (ebs R (sb_25_1 ((gx a_list k1).Number))) R fun b3 => (gdO t2 fun g2 t2 => (wle (eo_append (xs := s1) (ys := ([(gx a_list k1).Number] : List Int)) ak_25 pk2 R R (slin_rd fun _ g => Rg.on (rgo (pbo pz (n := 1) (xs := ([(gx a_list k1).Number] : List Int)) R R (by unfold maxLen; omega))) g) g2) R fun x3 => ?_))))))
 exact asg R R (wln (wjm _ x3 (mtE t2) (su5 R R R R R) so1))
 exact wck (wjm _ x1l (mtE t2) (su5 R R R R R) (zc pk1 zn))
 intro j1 x2 hp
 obtain rfl : j1 = y2 := hp.symm
 refine wqb (wqt (wcg (wlq (po_inc R R (by omega)) R ?_)))
 exact mv R R (wln (wq_rnd hk1 (stpN l1 t1) x2 (su5 R R R R R) so1))
 have c1 : (decide (((k1 : Nat) : Int) < ((a_list.length : Nat) : Int))) = false := ddf (by omega)
 have en1 := foe l1 hk1
 exact wcr (wlq (pls R R) R (wnt (wcs (wff R c1 (wcx (wqe (wqe (wbx (wjm _ x1l (Sum.inl.inj en1) (su1 R) so1)))))))))
 intro e1 x1 hp
 obtain rfl : e1 = y1 := hp.symm
 refine wqt (wcr (mv R R (asg R R (wnt (wct ?_)))))
 obtain rfl := oi t0
 exact wq1 R R fun w hw => ⟨x1, R, hw.weak so1⟩

theorem c_impl_SwapRounds (w : World) (a_g : GGuild) (v0a : Hd) (r0 : rdF w (dm w []) (sl v0a) a_g.Members) (v1a : Hd) (_r1 : rdF w (dm w []) (sl v1a) a_g.Stock) (v2a : Hd) (u2a : List Value) (_r2 : RdL w (dm w []) (sl v2a) u2a a_g.Entries) (v3a : Hd) (_r3 : rdF w (dm w []) (sl v3a) a_g.Books) {r : Int} (t0 : impl_SwapRounds a_g = some r) : Calls Tryz.prog 21 #[.agg #[(sl v0a), (sl v1a), (sl v2a), (sl v3a), .int .i64 a_g.Round, .int .i64 a_g.Year]] w fun e w' => e = .returned (.int .i64 r) ∧ SH w [] [] w' := by
 refine cwc (args := [_]) Tryz.func21 R Tryz.ntmps21 R ?_
 unfold impl_SwapRounds at t0
 refine wcr (wle (eo_box R R) R fun b1 => (asg R R (wnt (wcs (wcr (wlq (pof fo_29_0 R) R (wlq (v := (sl v0a)) (plx tk_24 pz R R) R (wlq (pof fo_29_5 R) R (wlq (v := iv a_g.Year) (plx tk_3 pz R R) R (bdO t0 fun v1 hv1 t0 => (wlc (cz1 fa_49 R fun w hw => c_impl_GoodStanding w a_g.Members v0a (ra r0 hw) a_g.Year hv1) R fun x1 => (wlq (pln (rgo pz) el_25 R) R (asg R R (wnt (wcr (mv R R (bdO t0 fun v2 hv2 t0 => (wlc (cz0 fa_35 R fun w hw => c_impl_within w ((v1.length : Nat) : Int) 2 10 hv2) R fun _ => (wnt (wcO t0 R (fun h1 t0 => ?_) fun h1 t0 => ?_))))))))))))))))))))
 refine wcr (mv R R (wlq (po_sub R R) R (asg R R (wnt (wct (wqr ?_))))))
 obtain rfl := oi t0
 exact wq1 R R fun w hw => ⟨R, hw.weak zn⟩
 refine wck (wqt (wcr (asg R R (wnt (wct ?_)))))
 obtain rfl := oi t0
 exact wq1 R R fun w hw => ⟨R, hw.weak zn⟩

end Go.Proofs.YtkahnmhkfmjomaaGreatDoor
