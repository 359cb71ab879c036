/-
 Each Go function computes its Lean function (part 4).
-/
import Derived.Test.YtmkmlnfkokfmaabGreatDoorWalks3
namespace Go.Proofs.YtmkmlnfkokfmaabGreatDoor
open Go Go.RowKit Go.Proofs
set_option maxRecDepth 100000

theorem c_spec_DoAct (w : World) (a_g : GGuild) (v0a : Hd) (r0 : rdF w (dm w []) (sl v0a) a_g.Members) (v1a : Hd) (r1 : rdF w (dm w []) (sl v1a) a_g.Stock) (v2a : Hd) (u2a : List Value) (r2 : RdL w (dm w []) (sl v2a) u2a a_g.Entries) (v3a : Hd) (r3 : rdF w (dm w []) (sl v3a) a_g.Books) (a_a : GAct) {r : GGuild × Int} (t0 : spec_DoAct a_g a_a = some r) : Calls Tryz.prog 41 #[.agg #[(sl v0a), (sl v1a), (sl v2a), (sl v3a), .int .i64 a_g.Round, .int .i64 a_g.Year], .agg #[.int .i64 a_a.Kind, .int .i64 a_a.A, .int .i64 a_a.B]] w fun e w' => ∃ x : Hd × Hd × Hd × (List Value) × Hd, e = .returned (.tuple #[.agg #[(sl x.1), (sl x.2.1), (sl x.2.2.1), (sl x.2.2.2.2), .int .i64 r.1.Round, .int .i64 r.1.Year], .int .i64 r.2]) ∧ SH w [] [ownF (sl x.1) r.1.Members, ownF (sl x.2.1) r.1.Stock, own (sl x.2.2.1) x.2.2.2.1 r.1.Entries, ownF (sl x.2.2.2.2) r.1.Books] w' := by
 refine cwc (args := [_, _]) Tryz.func41 R Tryz.ntmps41 R ?_
 unfold spec_DoAct at t0
 refine wcr (wle (eo_box R R) R fun b1 => (wle (eo_box R R) R fun b2 => (wle (eal (cs := [(sl hn), (sl hn), (sl hn), (sl hn), iv 0, iv 0]) za_36) R fun b3 => (asg R R (wnt (wcr (wlq (v := .agg #[(sl v0a), (sl v1a), (sl v2a), (sl v3a), iv a_g.Round, iv a_g.Year]) (plb tk_36 pk2 R R R) R (bdO t0 fun v1 hv1 t0 => (wlc (co_c4 fa_40 R fun w hw => c_spec_l38Copy w a_g v0a (ra r0 hw) v1a (ra r1 hw) v2a u2a (ra r2 hw) v3a (ra r3 hw) hv1) R fun x1 => (wle (eal (cs := [(sl hn), (sl hn), (sl hn), (sl hn), iv 0, iv 0]) za_36) R fun b4 => (wls (sbx (cs' := [(sl x1.1), (sl x1.2.1), (sl x1.2.2.1), (sl x1.2.2.2.2), iv v1.Round, iv v1.Year]) tk_36 pz R R R R R R R) (wnt (wcs (wcs (bdO t0 fun y1 t1 t0 => (wj (J := Bool) (X := Unit) (fun z => y1 = z) (fun z _ => [(2, ptr b1 0), (3, ptr b2 0), (4, ptr b3 0), (6, ptr b4 0), (21, .bool z)]) (fun _ _ => [box b4 [(sl x1.1), (sl x1.2.1), (sl x1.2.2.1), (sl x1.2.2.2.2), iv v1.Round, iv v1.Year], box b3 [(sl hn), (sl hn), (sl hn), (sl hn), iv 0, iv 0], box b2 [iv a_a.Kind, iv a_a.A, iv a_a.B], box b1 [(sl v0a), (sl v1a), (sl v2a), (sl v3a), iv a_g.Round, iv a_g.Year], ownF (sl x1.1) v1.Members, ownF (sl x1.2.1) v1.Stock, own (sl x1.2.2.1) x1.2.2.2.1 v1.Entries, ownF (sl x1.2.2.2.2) v1.Books]) ?_ ?_))))))))))))))))
 refine wcg (wlq (v := .agg #[(sl v0a), (sl v1a), (sl v2a), (sl v3a), iv a_g.Round, iv a_g.Year]) (plb tk_36 pk7 R R R) R (bdO t1 fun v2 hv2 t1 => (wlc (cz0 fa_18 R fun w hw => c_spec_GuildOk w a_g v0a (ra r0 hw) v1a (ra r1 hw) v2a u2a (ra r2 hw) v3a (ra r3 hw) hv2) R fun _ => (wlq (po_not R) R (mv R R (wlo (t := 17) t1 R (fun h1 t1 => ?_) fun h1 t1 => ?_))))))
 exact wgf (j := 3) R R R R R (wgf (j := 3) R R R R R (wgf (j := 3) R R R R R (wlq (pit R R) R (wln (wjm _ () (mtE t1) (su5 R R R R R) (zc pz (zc pk4 (zc pk4 (zc pk4 so4)))))))))
 exact wgn (j := 3) R R R (wlq (v := .agg #[iv a_a.Kind, iv a_a.A, iv a_a.B]) (plb tk_56 pk6 R R R) R (bdO t1 fun v3 hv3 t1 => (wgn (j := 3) R R R (wlc (cz0 fa_61 R fun w hw => c_spec_ActOk w a_a hv3) R (fun _ => (wgn (j := 3) R R R (wlq (po_not R) R (wlq (pif R R) R (wln (wjm _ () (mtE t1) (su5 R R R R R) (zc pz (zc pk4 (zc pk4 (zc pk4 so4))))))))))))))
 intro j1 _ hp
 obtain rfl : j1 = y1 := hp.symm
 refine wqt (wcO t0 R (fun h2 t0 => ?_) fun h2 t0 => ?_)
 refine wcr (wlq (v := .agg #[(sl x1.1), (sl x1.2.1), (sl x1.2.2.1), (sl x1.2.2.2.2), iv v1.Round, iv v1.Year]) (plb tk_36 pz R R R) R (wls (sbx (cs' := [(sl x1.1), (sl x1.2.1), (sl x1.2.2.1), (sl x1.2.2.2.2), iv v1.Round, iv v1.Year]) tk_36 pk1 R R R R R R R) (asg R R (wnt (wct (wqr ?_))))))
 obtain rfl := oi t0
 exact wq_retc1 R tk_36 R R pz R fun w hw => ⟨(x1.1, x1.2.1, x1.2.2.1, x1.2.2.2.1, x1.2.2.2.2), R, hw.weak (zc pk4 (zc pk4 (zc pk4 (zc pk4 zn))))⟩
 refine wck (wqt (wcr (asg R R (wnt (wcs (wcr (wlq (pof fo_56_0 R) R (wlq (v := iv a_a.Kind) (plx tk_3 pk2 R R) R (wnt (wcb (wcr (wlq (pol R R) R (asg R R (wnt (sqO t0 fun y1 t1 t0 => (wj (J := Bool × GGuild) (X := Hd × Hd × Hd × (List Value) × Hd) (fun z => y1 = .inl z) (fun z _ => [(4, ptr b3 0), (6, ptr b4 0), (7, .bool z.1)]) (fun z x => [box b4 [(sl x.1), (sl x.2.1), (sl x.2.2.1), (sl x.2.2.2.2), iv ((z.2).Round), iv ((z.2).Year)], box b3 [(sl hn), (sl hn), (sl hn), (sl hn), iv 0, iv 0], ownF (sl x.1) ((z.2).Members), ownF (sl x.2.1) ((z.2).Stock), own (sl x.2.2.1) x.2.2.2.1 ((z.2).Entries), ownF (sl x.2.2.2.2) ((z.2).Books)]) ?_ ?_))))))))))))))))
 refine wcO t1 R (fun h3 t1 => ?_) fun h3 t1 => ?_
 exact wcg (wlq (v := .agg #[(sl v0a), (sl v1a), (sl v2a), (sl v3a), iv a_g.Round, iv a_g.Year]) (plb tk_36 pk3 R R R) R (wlq (pof fo_56_1 R) R (wlq (v := iv a_a.A) (plx tk_3 pk2 R R) R (bdO t1 fun v4 hv4 t1 => (wlc (co_c4 fa_62 R fun w hw => c_spec_Admit w a_g v0a (ra r0 hw) v1a (ra r1 hw) v2a u2a (ra r2 hw) v3a (ra r3 hw) a_a.A hv4) R fun x4 => (mv R R (wlq (pex R R) R (wlq (pex R R) R (wls (sbx (cs' := [(sl x4.1), (sl x4.2.1), (sl x4.2.2.1), (sl x4.2.2.2.2), iv v4.1.Round, iv v4.1.Year]) tk_36 pk4 R R R R R R R) (asg R R (wln (wjm _ (x4.1, x4.2.1, x4.2.2.1, x4.2.2.2.1, x4.2.2.2.2) (mtE t1) (su3 R R R) (zc pz (zc pk4 so4))))))))))))))
 refine wcr (wlq (pol R R) R (asg R R (wnt (wcO t1 R (fun h4 t1 => ?_) fun h4 t1 => ?_))))
 refine wcr (asg R R (wnt (wcs (wcr (wlq (pof fo_36_2 R) R (wlq (v := (sl v2a)) (plx tk_33 pk3 R R) R (wlq (pln (rga r2) el_33 R) R (wlq (po_gtr R R) R (wnt (bdO t1 fun y2 t2 t1 => (wj (J := Int) (X := Unit) (fun z => y2 = z) (fun z _ => [(2, ptr b1 0), (3, ptr b2 0), (4, ptr b3 0), (6, ptr b4 0), (8, iv z)]) (fun _ _ => [box b4 [(sl x1.1), (sl x1.2.1), (sl x1.2.2.1), (sl x1.2.2.2.2), iv v1.Round, iv v1.Year], box b3 [(sl hn), (sl hn), (sl hn), (sl hn), iv 0, iv 0], box b2 [iv a_a.Kind, iv a_a.A, iv a_a.B], box b1 [(sl v0a), (sl v1a), (sl v2a), (sl v3a), iv a_g.Round, iv a_g.Year], ownF (sl x1.1) v1.Members, ownF (sl x1.2.1) v1.Stock, own (sl x1.2.2.1) x1.2.2.2.1 v1.Entries, ownF (sl x1.2.2.2.2) v1.Books]) ?_ ?_)))))))))))
 refine wcO t2 R (fun h5 t2 => ?_) fun h5 t2 => ?_
 refine wcg (wlq (pof fo_36_2 R) R (wlq (v := (sl v2a)) (plx tk_33 pk3 R R) R (wlq (pof fo_36_2 R) R (wlq (v := (sl v2a)) (plx tk_33 pk3 R R) R (wlq (pln (rga r2) el_33 R) R (wlq (po_sub R R) R (gdO t2 fun g1 t2 => (wlq (po_ixr (rga r2) el_33 R R g1.1 g1.2) R (wlq (po_sfldr (rga r2) (ix_lt g1) fo_77_1 R) R (wl_elem (rga r2) (ix_lt g1) ?_))))))))))
 rintro ⟨_, _, he1⟩
 obtain ⟨w1, hc1, _⟩ := rd_GEntry.1 he1
 exact wlq (v := iv ((gx a_g.Entries (((wr (((a_g.Entries.length : Nat) : Int) - 1))).toNat)).Day)) (po_ldn (rga r2) tk_3 R hc1 R) R (wlq (po_add R R) R (asg R R (wln (wjm _ () (mtE t2) (su5 R R R R R) so8))))
 exact wck (wjm _ () (mtE t2) (su5 R R R R R) so8)
 intro j3 _ hp
 obtain rfl : j3 = y2 := hp.symm
 exact wqt (wcd [box b3 [(sl hn), (sl hn), (sl hn), (sl hn), iv 0, iv 0], box b2 [iv a_a.Kind, iv a_a.A, iv a_a.B], box b1 [(sl v0a), (sl v1a), (sl v2a), (sl v3a), iv a_g.Round, iv a_g.Year], ownF (sl x1.1) v1.Members, ownF (sl x1.2.1) v1.Stock, own (sl x1.2.2.1) x1.2.2.2.1 v1.Entries, ownF (sl x1.2.2.2.2) v1.Books] 13 mixed (aq (v := .agg #[(sl v0a), (sl v1a), (sl v2a), (sl v3a), iv a_g.Round, iv a_g.Year]) 0 R (plb tk_36 pk2 R R R) (zc pk1 (zc pk1 (zc pk1 (zc pk1 (zc pk1 (zc pk1 (zc pk1 zn))))))) R (aq 1 R (pof fo_56_1 R) (zc pk1 (zc pk1 (zc pk1 (zc pk1 (zc pk1 (zc pk1 (zc pk1 zn))))))) R (aq (v := iv a_a.A) 2 R (plx tk_3 pk1 R R) (zc pk1 (zc pk1 (zc pk1 (zc pk1 (zc pk1 (zc pk1 (zc pk1 zn))))))) R (aq 3 R (pom R) (zc pk1 (zc pk1 (zc pk1 (zc pk1 (zc pk1 (zc pk1 (zc pk1 zn))))))) R (aq 4 R (pof fo_56_2 R) (zc pk1 (zc pk1 (zc pk1 (zc pk1 (zc pk1 (zc pk1 (zc pk1 zn))))))) R (aq (v := iv a_a.B) 5 R (plx tk_3 pk1 R R) (zc pk1 (zc pk1 (zc pk1 (zc pk1 (zc pk1 (zc pk1 (zc pk1 zn))))))) R (a1 6 (bdO t1 fun v5 hv5 t1 => (wsc R (cz1 fa_64 R fun w hw => c_spec_SampleBlock w a_a.B hv5) (fun _ => (zt (zc pk2 (zc pk2 (zc pk2 (zc pk2 (zc pk2 (zc pk2 (zc pk2 zn))))))))) R fun x6 => (a1 7 (bdO t1 fun v6 hv6 t1 => (wsc R (co_c4 fa_63 R fun w hw => c_spec_Submit w a_g v0a (ra r0 hw) v1a (ra r1 hw) v2a u2a (ra r2 hw) v3a (ra r3 hw) a_a.A j3 v5 x6 (Rg.on (rgo pz) hw) hv6) (fun _ => (zt (zc pk6 (zc pk6 (zc pk6 (zc pk6 (zc pk6 (zc pk6 (zc pk6 zn))))))))) R fun x7 => (aq 8 R (pom R) (zc pk6 (zc pk6 (zc pk6 (zc pk6 (zc pk6 (zc pk6 (zc pk6 zn))))))) R (aq 9 R (pex R R) (zc pk6 (zc pk6 (zc pk6 (zc pk6 (zc pk6 (zc pk6 (zc pk6 zn))))))) R (aq 10 R (pex R R) (zc pk6 (zc pk6 (zc pk6 (zc pk6 (zc pk6 (zc pk6 (zc pk6 zn))))))) R (a1 11 (ws_skipop R (sbx (cs' := [(sl x7.1), (sl x7.2.1), (sl x7.2.2.1), (sl x7.2.2.2.2), iv v6.1.Round, iv v6.1.Year]) tk_36 pk5 R R R R R R R) (zt (zc pk6 (zc pk6 (zc pk6 (zc pk6 (zc pk6 (zc pk6 (zc pk6 zn)))))))) (aq 12 R (po_assign R) (zc pk6 (zc pk6 (zc pk6 (zc pk6 (zc pk6 (zc pk6 (zc pk6 zn))))))) R (ae (wjm _ (x7.1, x7.2.1, x7.2.2.1, x7.2.2.2.1, x7.2.2.2.2) (mtE t1) (su3 R R R) (zc pz (zc pk5 so4)))))))))))))))))))))))
 refine wcr (wlq (pol R R) R (asg R R (wnt (wcO t1 R (fun h6 t1 => ?_) fun h6 t1 => ?_))))
 exact wcg (wlq (v := .agg #[(sl v0a), (sl v1a), (sl v2a), (sl v3a), iv a_g.Round, iv a_g.Year]) (plb tk_36 pk3 R R R) R (wlq (pof fo_56_1 R) R (wlq (v := iv a_a.A) (plx tk_3 pk2 R R) R (bdO t1 fun v7 hv7 t1 => (wlc (co_c4 fa_65 R fun w hw => c_spec_SewBlock w a_g v0a (ra r0 hw) v1a (ra r1 hw) v2a u2a (ra r2 hw) v3a (ra r3 hw) a_a.A hv7) R fun x8 => (mv R R (wlq (pex R R) R (wlq (pex R R) R (wls (sbx (cs' := [(sl x8.1), (sl x8.2.1), (sl x8.2.2.1), (sl x8.2.2.2.2), iv v7.1.Round, iv v7.1.Year]) tk_36 pk4 R R R R R R R) (asg R R (wln (wjm _ (x8.1, x8.2.1, x8.2.2.1, x8.2.2.2.1, x8.2.2.2.2) (mtE t1) (su3 R R R) (zc pz (zc pk4 so4))))))))))))))
 refine wcr (wlq (pol R R) R (asg R R (wnt (wcO t1 R (fun h7 t1 => ?_) fun h7 t1 => ?_))))
 exact wcg (wlq (v := .agg #[(sl v0a), (sl v1a), (sl v2a), (sl v3a), iv a_g.Round, iv a_g.Year]) (plb tk_36 pk3 R R R) R (bdO t1 fun v8 hv8 t1 => (wlc (co_c4 fa_66 R fun w hw => c_spec_SwapRound w a_g v0a (ra r0 hw) v1a (ra r1 hw) v2a u2a (ra r2 hw) v3a (ra r3 hw) hv8) R fun x9 => (mv R R (wlq (pex R R) R (wlq (pex R R) R (wls (sbx (cs' := [(sl x9.1), (sl x9.2.1), (sl x9.2.2.1), (sl x9.2.2.2.2), iv v8.1.Round, iv v8.1.Year]) tk_36 pk4 R R R R R R R) (asg R R (wln (wjm _ (x9.1, x9.2.1, x9.2.2.1, x9.2.2.2.1, x9.2.2.2.2) (mtE t1) (su3 R R R) (zc pz (zc pk4 so4))))))))))))
 refine wcr (wlq (pol R R) R (asg R R (wnt (wcO t1 R (fun h8 t1 => ?_) fun h8 t1 => ?_))))
 exact wcg (wlq (v := .agg #[(sl v0a), (sl v1a), (sl v2a), (sl v3a), iv a_g.Round, iv a_g.Year]) (plb tk_36 pk3 R R R) R (bdO t1 fun v9 hv9 t1 => (wlc (co_c4 fa_67 R fun w hw => c_spec_NewYear w a_g v0a (ra r0 hw) v1a (ra r1 hw) v2a u2a (ra r2 hw) v3a (ra r3 hw) hv9) R fun x10 => (mv R R (wlq (pex R R) R (wlq (pex R R) R (wls (sbx (cs' := [(sl x10.1), (sl x10.2.1), (sl x10.2.2.1), (sl x10.2.2.2.2), iv v9.1.Round, iv v9.1.Year]) tk_36 pk4 R R R R R R R) (asg R R (wln (wjm _ (x10.1, x10.2.1, x10.2.2.1, x10.2.2.2.1, x10.2.2.2.2) (mtE t1) (su3 R R R) (zc pz (zc pk4 so4))))))))))))
 refine wcr (wlq (pol R R) R (asg R R (wnt (wcO t1 R (fun h9 t1 => ?_) fun h9 t1 => ?_))))
 refine wcr (asg R R (wnt (wcs (wcr (wlq (pof fo_56_1 R) R (wlq (v := iv a_a.A) (plx tk_3 pk2 R R) R (wlq (pof fo_36_2 R) R (wlq (v := (sl v2a)) (plx tk_33 pk3 R R) R (wlq (pln (rga r2) el_33 R) R (wlq (pls R R) R (wnt (bdO t1 fun y2 t2 t1 => (wj (J := Int) (X := Unit) (fun z => y2 = z) (fun z _ => [(4, ptr b3 0), (6, ptr b4 0), (9, iv z)]) (fun _ _ => [box b4 [(sl x1.1), (sl x1.2.1), (sl x1.2.2.1), (sl x1.2.2.2.2), iv v1.Round, iv v1.Year], box b3 [(sl hn), (sl hn), (sl hn), (sl hn), iv 0, iv 0], ownF (sl x1.1) v1.Members, ownF (sl x1.2.1) v1.Stock, own (sl x1.2.2.1) x1.2.2.2.1 v1.Entries, ownF (sl x1.2.2.2.2) v1.Books]) ?_ ?_)))))))))))))
 refine wcO t2 R (fun h10 t2 => ?_) fun h10 t2 => ?_
 refine wcs (wcd [box b4 [(sl x1.1), (sl x1.2.1), (sl x1.2.2.1), (sl x1.2.2.2.2), iv v1.Round, iv v1.Year], box b3 [(sl hn), (sl hn), (sl hn), (sl hn), iv 0, iv 0], box b2 [iv a_a.Kind, iv a_a.A, iv a_a.B], box b1 [(sl v0a), (sl v1a), (sl v2a), (sl v3a), iv a_g.Round, iv a_g.Year], ownF (sl x1.1) v1.Members, ownF (sl x1.2.1) v1.Stock, own (sl x1.2.2.1) x1.2.2.2.1 v1.Entries, ownF (sl x1.2.2.2.2) v1.Books] 12 mixed (aq 0 R (pof fo_36_1 R) so8 R (aq (v := (sl v1a)) 1 R (plx tk_23 pk3 R R) so8 R (aq 2 R (pof fo_36_2 R) so8 R (aq (v := (sl v2a)) 3 R (plx tk_33 pk3 R R) so8 R (aq 4 R (pof fo_56_1 R) so8 R (aq (v := iv a_a.A) 5 R (plx tk_3 pk2 R R) so8 R (gdO t2 fun g2 t2 => (aq 6 R (po_ixr (rga r2) el_33 R R g2.1 g2.2) so8 R (aq 7 R (po_sfldr (rga r2) (ix_lt g2) fo_77_2 R) so8 R (wa_elem (rga r2) (ix_lt g2) ?_)))))))))))
 rintro ⟨_, _, he2⟩
 obtain ⟨w2, hc2, _⟩ := rd_GEntry.1 he2
 refine aq (v := .agg #[iv (((gx a_g.Entries ((a_a.A).toNat)).Block).Size), (sl w2)]) 8 R (po_ldns (rga r2) tk_75 R hc2 R R R) so8 R (a1 9 (bdO t2 fun v10 hv10 t2 => (wsc R (cz1 fa_69 R fun w hw => c_spec_AreaTable w ((gx a_g.Entries ((a_a.A).toNat)).Block) w2 (Rg.on (er_GEntry_0 hc2 (rga r2) (ix_lt g2)) hw) hv10) (fun _ => (zt (zc pk1 (zc pk1 (zc pk1 (zc pk1 (zc pk1 (zc pk1 (zc pk1 (zc pk1 zn)))))))))) R fun x12 => (a1 10 (bdO t2 fun v11 hv11 t2 => (wsc R (cz1 fa_68 R fun w hw => c_spec_LackOf w a_g.Stock v1a (ra r1 hw) v10 x12 (Rg.on (rgo pz) hw) hv11) (fun _ => (zt (zc pk2 (zc pk2 (zc pk2 (zc pk2 (zc pk2 (zc pk2 (zc pk2 (zc pk2 zn)))))))))) R fun x13 => (aq 11 R (po_assign R) (zc pk2 (zc pk2 (zc pk2 (zc pk2 (zc pk2 (zc pk2 (zc pk2 (zc pk2 zn)))))))) R (ae (wqt (wcr (asg R R (wnt (gdO t2 fun g3 t2 => (lpO_inv t2 fun y3 l3 t2 => (wj (J := Int) (X := Unit) (fun z => y3 = z) (fun z _ => [(4, ptr b3 0), (6, ptr b4 0), (9, iv z)]) (fun _ _ => [box b4 [(sl x1.1), (sl x1.2.1), (sl x1.2.2.1), (sl x1.2.2.2.2), iv v1.Round, iv v1.Year], box b3 [(sl hn), (sl hn), (sl hn), (sl hn), iv 0, iv 0], ownF (sl x1.1) v1.Members, ownF (sl x1.2.1) v1.Stock, own (sl x1.2.2.1) x1.2.2.2.1 v1.Entries, ownF (sl x1.2.2.2.2) v1.Books]) ?_ ?_)))))))))))))))
 refine wcb (wcf (X := Unit) l3 (fun k1 s1 x1l => [(4, ptr b3 0), (6, ptr b4 0), (9, iv s1), (10, (sl x13)), (11, iv ((k1 : Nat) : Int))]) (fun k1 s1 x1l => [ownF (sl x13) v11, box b4 [(sl x1.1), (sl x1.2.1), (sl x1.2.2.1), (sl x1.2.2.2.2), iv v1.Round, iv v1.Year], box b3 [(sl hn), (sl hn), (sl hn), (sl hn), iv 0, iv 0], ownF (sl x1.1) v1.Members, ownF (sl x1.2.1) v1.Stock, own (sl x1.2.2.1) x1.2.2.2.1 v1.Entries, ownF (sl x1.2.2.2.2) v1.Books]) () (su5 R R R R R) (zc pz (zc pk1 (zc pk1 (zc pk3 (zc pk3 (zc pk3 (zc pk3 zn))))))) fun k1 s1 x1l hN1 l3 => ?_)
 by_cases hk1 : k1 < v11.length
 refine fos l3 hk1 fun _ t3 l3 => ?_
 unfold spec_DoAct_L1 at t3
 have c1 : (decide (((k1 : Nat) : Int) < ((v11.length : Nat) : Int))) = true := ddt (by omega)
 refine wcs (wcr (mv R R (mv R R (wlq (pln (rgo pz) el_23 R) R (wlq (pls R R) R (wnt (wft R c1 (wck (wqt (wcs (wcb (wcg (mv R R (mv R R (mv R R (wlq (po_ixn (k := k1) (rgo pz) el_23 R R hk1) R (wlq (v := iv (gx v11 k1)) (po_ldf (rgo pz) tk_3 R hk1 R) R (wlq (po_add R R) R (asg R R (wln (wqb (wqt (wcg (mv R R (wlq (po_inc R R (by omega)) R ?_)))))))))))))))))))))))))
 exact asg R R (wln (wq_rnd hk1 (stpN l3 t3) () (su5 R R R R R) so7))
 have c1 : (decide (((k1 : Nat) : Int) < ((v11.length : Nat) : Int))) = false := ddf (by omega)
 have en1 := foe l3 hk1
 exact wcs (wcr (mv R R (mv R R (wlq (pln (rgo pz) el_23 R) R (wlq (pls R R) R (wnt (wff R c1 (wcx (wqe (wqe (wbx (wjm _ () (Sum.inl.inj en1) (su3 R R R) (zc pk1 (zc pk1 (zc pk1 (zc pk1 (zc pk1 (zc pk1 zn))))))))))))))))))
 intro e1 _ hp
 obtain rfl : e1 = y3 := hp.symm
 exact wjm _ () (mtE t2) (su3 R R R) so6
 exact wck (wjm _ () (mtE t2) (su3 R R R) (zc pz (zc pz (zc pk2 (zc pk2 (zc pk2 (zc pk2 zn)))))))
 intro j4 _ hp
 obtain rfl : j4 = y2 := hp.symm
 refine wqt (wcr (wlq (v := .agg #[(sl x1.1), (sl x1.2.1), (sl x1.2.2.1), (sl x1.2.2.2.2), iv v1.Round, iv v1.Year]) (plb tk_36 pz R R R) R (mv R R (wls (sbx (cs' := [(sl x1.1), (sl x1.2.1), (sl x1.2.2.1), (sl x1.2.2.2.2), iv v1.Round, iv v1.Year]) tk_36 pk1 R R R R R R R) (asg R R (wnt (wct (wqr (wbr (wqr ?_))))))))))
 replace t0 := sqR t0 t1
 obtain rfl := oi t0
 exact wq_retc1 R tk_36 R R pz R fun w hw => ⟨(x1.1, x1.2.1, x1.2.2.1, x1.2.2.2.1, x1.2.2.2.2), R, hw.weak (zc pk2 (zc pk2 (zc pk2 (zc pk2 zn))))⟩
 exact wck (wjm _ (x1.1, x1.2.1, x1.2.2.1, x1.2.2.2.1, x1.2.2.2.2) (mtE t1) (su3 R R R) (zc pz (zc pz (zc pk2 (zc pk2 (zc pk2 (zc pk2 zn)))))))
 intro j2 x3 hp
 replace t0 := sqE (j := j2) t0 hp
 refine wqb (wqt (wcs (wcd [box b4 [(sl x3.1), (sl x3.2.1), (sl x3.2.2.1), (sl x3.2.2.2.2), iv ((j2.2).Round), iv ((j2.2).Year)], ownF (sl x3.1) ((j2.2).Members), ownF (sl x3.2.1) ((j2.2).Stock), own (sl x3.2.2.1) x3.2.2.2.1 ((j2.2).Entries), ownF (sl x3.2.2.2.2) ((j2.2).Books)] 5 mixed (aq (v := .agg #[(sl x3.1), (sl x3.2.1), (sl x3.2.2.1), (sl x3.2.2.2.2), iv ((j2.2).Round), iv ((j2.2).Year)]) 0 R (plb tk_36 pz R R R) (zc pz (zc pk1 (zc pk1 (zc pk1 (zc pk1 zn))))) R (aq 1 R (pom R) (zc pz (zc pk1 (zc pk1 (zc pk1 (zc pk1 zn))))) R (a1 2 (bdO t0 fun v12 hv12 t0 => (wsc R (cz0 fa_70 R fun w hw => c_spec_l39Bool w j2.1 hv12) (fun _ => (zt (zc pz (zc pk1 (zc pk1 (zc pk1 (zc pk1 zn))))))) R fun _ => (a1 3 (ws_skipop R (sbx (cs' := [(sl x3.1), (sl x3.2.1), (sl x3.2.2.1), (sl x3.2.2.2.2), iv ((j2.2).Round), iv ((j2.2).Year)]) tk_36 pk1 R R R R R R R) (zt (zc pk1 (zc pk1 (zc pk1 (zc pk1 (zc pk1 zn)))))) (aq 4 R (po_assign R) (zc pk1 (zc pk1 (zc pk1 (zc pk1 (zc pk1 zn))))) R (ae (wqt (wct ?_))))))))))))))
 obtain rfl := oi t0
 exact wq_retc1 R tk_36 R R pz R fun w hw => ⟨(x3.1, x3.2.1, x3.2.2.1, x3.2.2.2.1, x3.2.2.2.2), R, hw.weak (zc pk2 (zc pk2 (zc pk2 (zc pk2 zn))))⟩

theorem c_spec_RunActs (w : World) (a_g : GGuild) (v0a : Hd) (r0 : rdF w (dm w []) (sl v0a) a_g.Members) (v1a : Hd) (r1 : rdF w (dm w []) (sl v1a) a_g.Stock) (v2a : Hd) (u2a : List Value) (r2 : RdL w (dm w []) (sl v2a) u2a a_g.Entries) (v3a : Hd) (r3 : rdF w (dm w []) (sl v3a) a_g.Books) (a_acts : List GAct) (v4a : Hd) (r4 : rdF w (dm w []) (sl v4a) a_acts) {r : GGuild × (List Int)} (t0 : spec_RunActs a_g a_acts = some r) : Calls Tryz.prog 19 #[.agg #[(sl v0a), (sl v1a), (sl v2a), (sl v3a), .int .i64 a_g.Round, .int .i64 a_g.Year], (sl v4a)] w fun e w' => ∃ x : Hd × Hd × Hd × (List Value) × Hd × Hd, e = .returned (.tuple #[.agg #[(sl x.1), (sl x.2.1), (sl x.2.2.1), (sl x.2.2.2.2.1), .int .i64 r.1.Round, .int .i64 r.1.Year], (sl x.2.2.2.2.2)]) ∧ SH w [] [ownF (sl x.1) r.1.Members, ownF (sl x.2.1) r.1.Stock, own (sl x.2.2.1) x.2.2.2.1 r.1.Entries, ownF (sl x.2.2.2.2.1) r.1.Books, ownF (sl x.2.2.2.2.2) r.2] w' := by
 refine cwc (args := [_, _]) Tryz.func19 R Tryz.ntmps19 R ?_
 unfold spec_RunActs at t0
 refine wcr (wle (eo_box R R) R fun b1 => (wle (eal (cs := [(sl hn), (sl hn), (sl hn), (sl hn), iv 0, iv 0]) za_36) R fun b2 => (asg R R (wnt (wcr (wlq (v := .agg #[(sl v0a), (sl v1a), (sl v2a), (sl v3a), iv a_g.Round, iv a_g.Year]) (plb tk_36 pk1 R R R) R (bdO t0 fun v1 hv1 t0 => (wlc (co_c4 fa_40 R fun w hw => c_spec_l38Copy w a_g v0a (ra r0 hw) v1a (ra r1 hw) v2a u2a (ra r2 hw) v3a (ra r3 hw) hv1) R fun x1 => (wle (eal (cs := [(sl hn), (sl hn), (sl hn), (sl hn), iv 0, iv 0]) za_36) R fun b3 => (wls (sbx (cs' := [(sl x1.1), (sl x1.2.1), (sl x1.2.2.1), (sl x1.2.2.2.2), iv v1.Round, iv v1.Year]) tk_36 pz R R R R R R R) (wnt (wcr (wle (ebs R sb_23_0) R fun b4 => (asg R R (wnt (wcs (wcs (bdO t0 fun y1 t1 t0 => (wj (J := Bool) (X := Unit) (fun z => y1 = z) (fun z _ => [(1, (sl v4a)), (4, ptr b2 0), (6, ptr b3 0), (7, (sl (⟨some ⟨b4, 0, none⟩, 0, 0⟩ : Hd))), (21, .bool z)]) (fun _ _ => [box b3 [(sl x1.1), (sl x1.2.1), (sl x1.2.2.1), (sl x1.2.2.2.2), iv v1.Round, iv v1.Year], box b2 [(sl hn), (sl hn), (sl hn), (sl hn), iv 0, iv 0], box b4 [], ownF (sl x1.1) v1.Members, ownF (sl x1.2.1) v1.Stock, own (sl x1.2.2.1) x1.2.2.2.1 v1.Entries, ownF (sl x1.2.2.2.2) v1.Books]) ?_ ?_)))))))))))))))))))
 refine wcg (wlq (v := .agg #[(sl v0a), (sl v1a), (sl v2a), (sl v3a), iv a_g.Round, iv a_g.Year]) (plb tk_36 pk7 R R R) R (bdO t1 fun v2 hv2 t1 => (wlc (cz0 fa_18 R fun w hw => c_spec_GuildOk w a_g v0a (ra r0 hw) v1a (ra r1 hw) v2a u2a (ra r2 hw) v3a (ra r3 hw) hv2) R fun _ => (wlq (po_not R) R (mv R R (wlo (t := 17) t1 R (fun h1 t1 => ?_) fun h1 t1 => ?_))))))
 exact wgf (j := 3) R R R R R (wgf (j := 3) R R R R R (wgf (j := 3) R R R R R (wlq (pit R R) R (wln (wjm _ () (mtE t1) (su5 R R R R R) (zc pk1 (zc pk5 so5)))))))
 exact wgn (j := 3) R R R (mv R R (wgn (j := 3) R R R (wlq (pln (rga r4) el_38 R) R (wgn (j := 3) R R R (wlq (po_gtr R R) R (wlq (pif R R) R (wln (wjm _ () (mtE t1) (su5 R R R R R) (zc pk1 (zc pk5 so5))))))))))
 intro j1 _ hp
 obtain rfl : j1 = y1 := hp.symm
 refine wqt (wcO t0 R (fun h2 t0 => ?_) fun h2 t0 => ?_)
 refine wcr (wlq (v := .agg #[(sl x1.1), (sl x1.2.1), (sl x1.2.2.1), (sl x1.2.2.2.2), iv v1.Round, iv v1.Year]) (plb tk_36 pz R R R) R (mv R R (wls (sbx (cs' := [(sl x1.1), (sl x1.2.1), (sl x1.2.2.1), (sl x1.2.2.2.2), iv v1.Round, iv v1.Year]) tk_36 pk1 R R R R R R R) (asg R R (wnt (wct (wqr ?_)))))))
 obtain rfl := oi t0
 exact wq_retc1 R tk_36 R R pz R fun w hw => ⟨(x1.1, x1.2.1, x1.2.2.1, x1.2.2.2.1, x1.2.2.2.2, (⟨some ⟨b4, 0, none⟩, 0, 0⟩ : Hd)), R, hw.weak (zc pk3 (zc pk3 (zc pk3 (zc pk3 (zc (pbo pk2 (n := 0) (xs := ([] : List Int)) R R (by unfold maxLen; omega)) zn)))))⟩
 refine wck (wqt (wcs (wcr (asg R R (wnt (gdO t0 fun g1 t0 => (lpO_inv t0 fun y1 l1 t0 => (wj (J := (List Int) × (List GMember) × (List Int) × (List GEntry) × (List GBooking) × Int × Int) (X := Hd × Hd × Hd × Hd × (List Value) × Hd) (fun z => y1 = z) (fun _ x => [(4, ptr b2 0), (6, ptr b3 0), (7, (sl x.1))]) (fun z x => [box b3 [(sl x.2.1), (sl x.2.2.1), (sl x.2.2.2.1), (sl x.2.2.2.2.2), iv z.2.2.2.2.2.1, iv z.2.2.2.2.2.2], box b2 [(sl hn), (sl hn), (sl hn), (sl hn), iv 0, iv 0], ownF (sl x.2.1) z.2.1, ownF (sl x.2.2.1) z.2.2.1, own (sl x.2.2.2.1) x.2.2.2.2.1 z.2.2.2.1, ownF (sl x.2.2.2.2.2) z.2.2.2.2.1, ownF (sl x.1) z.1]) ?_ ?_))))))))
 refine wcb (wcf (X := Hd × Hd × Hd × Hd × (List Value) × Hd) l1 (fun k1 s1 x1l => [(1, (sl v4a)), (4, ptr b2 0), (6, ptr b3 0), (7, (sl x1l.1)), (8, iv ((k1 : Nat) : Int))]) (fun k1 s1 x1l => [box b3 [(sl x1l.2.1), (sl x1l.2.2.1), (sl x1l.2.2.2.1), (sl x1l.2.2.2.2.2), iv s1.2.2.2.2.2.1, iv s1.2.2.2.2.2.2], box b2 [(sl hn), (sl hn), (sl hn), (sl hn), iv 0, iv 0], ownF (sl x1l.2.1) s1.2.1, ownF (sl x1l.2.2.1) s1.2.2.1, own (sl x1l.2.2.2.1) x1l.2.2.2.2.1 s1.2.2.2.1, ownF (sl x1l.2.2.2.2.2) s1.2.2.2.2.1, ownF (sl x1l.1) s1.1]) ((⟨some ⟨b4, 0, none⟩, 0, 0⟩ : Hd), x1.1, x1.2.1, x1.2.2.1, x1.2.2.2.1, x1.2.2.2.2) (su5 R R R R R) (zc pz (zc pz (zc pk1 (zc pk1 (zc pk1 (zc pk1 (zc (pbo pz (n := 0) (xs := ([] : List Int)) R R (by unfold maxLen; omega)) zn))))))) fun k1 s1 x1l hN1 l1 => ?_)
 by_cases hk1 : k1 < a_acts.length
 refine fos l1 hk1 fun _ t1 l1 => ?_
 unfold spec_RunActs_L1 at t1
 have c1 : (decide (((k1 : Nat) : Int) < ((a_acts.length : Nat) : Int))) = true := ddt (by omega)
 refine wcs (wcr (mv R R (mv R R (wlq (pln (rga r4) el_38 R) R (wlq (pls R R) R (wnt (wft R c1 (wck (wqt (wcs (wcb (wcs (bdO t1 fun v3 hv3 t1 => (wcj (X := Nat × (Hd × Hd × Hd × (List Value) × Hd)) (fun _ => True) (fun z => [(1, (sl v4a)), (4, ptr b2 0), (6, ptr b3 0), (7, (sl x1l.1)), (8, iv ((k1 : Nat) : Int)), (9, ptr z.1 0), (10, iv v3.2)]) (fun z => [box z.1 [(sl z.2.1), (sl z.2.2.1), (sl z.2.2.2.1), (sl z.2.2.2.2.2), iv v3.1.Round, iv v3.1.Year], ownF (sl z.2.1) v3.1.Members, ownF (sl z.2.2.1) v3.1.Stock, own (sl z.2.2.2.1) z.2.2.2.2.1 v3.1.Entries, ownF (sl z.2.2.2.2.2) v3.1.Books, box b3 [(sl x1l.2.1), (sl x1l.2.2.1), (sl x1l.2.2.2.1), (sl x1l.2.2.2.2.2), iv s1.2.2.2.2.2.1, iv s1.2.2.2.2.2.2], box b2 [(sl hn), (sl hn), (sl hn), (sl hn), iv 0, iv 0], ownF (sl x1l.2.1) s1.2.1, ownF (sl x1l.2.2.1) s1.2.2.1, own (sl x1l.2.2.2.1) x1l.2.2.2.2.1 s1.2.2.2.1, ownF (sl x1l.2.2.2.2.2) s1.2.2.2.2.1, ownF (sl x1l.1) s1.1]) ?_ ?_))))))))))))))
 refine wcd [box b3 [(sl x1l.2.1), (sl x1l.2.2.1), (sl x1l.2.2.2.1), (sl x1l.2.2.2.2.2), iv s1.2.2.2.2.2.1, iv s1.2.2.2.2.2.2], box b2 [(sl hn), (sl hn), (sl hn), (sl hn), iv 0, iv 0], ownF (sl x1l.2.1) s1.2.1, ownF (sl x1l.2.2.1) s1.2.2.1, own (sl x1l.2.2.2.1) x1l.2.2.2.2.1 s1.2.2.2.1, ownF (sl x1l.2.2.2.2.2) s1.2.2.2.2.1, ownF (sl x1l.1) s1.1] 12 mixed (aq (v := .agg #[(sl x1l.2.1), (sl x1l.2.2.1), (sl x1l.2.2.2.1), (sl x1l.2.2.2.2.2), iv s1.2.2.2.2.2.1, iv s1.2.2.2.2.2.2]) 0 R (plb tk_36 pz R R R) so7 R (aq 1 R (pom R) so7 R (aq 2 R (pom R) so7 R (aq 3 R (po_ixn (k := k1) (rga r4) el_38 R R hk1) so7 R (aq (v := .agg #[iv ((gx a_acts k1).Kind), iv ((gx a_acts k1).A), iv ((gx a_acts k1).B)]) 4 R (po_ldfs (rga r4) tk_56 R hk1 R R R) so7 R (wa_2 (i := 5) (j := 9) (by kernel_rfl) ?_ ?_))))))
 exact wsc R (co_c4 fa_41 R fun w hw => c_spec_DoAct w (GGuild.mk s1.2.1 s1.2.2.1 s1.2.2.2.1 s1.2.2.2.2.1 s1.2.2.2.2.2.1 s1.2.2.2.2.2.2) x1l.2.1 (Rg.on (rgo pk2) hw) x1l.2.2.1 (Rg.on (rgo pk3) hw) x1l.2.2.2.1 x1l.2.2.2.2.1 (Rg.on (rgo pk4) hw) x1l.2.2.2.2.2 (Rg.on (rgo pk5) hw) (gx a_acts k1) hv3) (fun _ => (zt (zc pk4 (zc pk4 (zc pk4 (zc pk4 (zc pk4 (zc pk4 (zc pk4 zn))))))))) R fun x4 => aq 6 R (pom R) (zc pk4 (zc pk4 (zc pk4 (zc pk4 (zc pk4 (zc pk4 (zc pk4 zn))))))) R (aq 7 R (pex R R) (zc pk4 (zc pk4 (zc pk4 (zc pk4 (zc pk4 (zc pk4 (zc pk4 zn))))))) R (aq 8 R (pex R R) (zc pk4 (zc pk4 (zc pk4 (zc pk4 (zc pk4 (zc pk4 (zc pk4 zn))))))) R (a1 9 (wse R (eal (cs := [(sl hn), (sl hn), (sl hn), (sl hn), iv 0, iv 0]) za_36) (fun _ => (zt (zc pk5 (zc pk5 (zc pk5 (zc pk5 (zc pk5 (zc pk5 (zc pk5 zn))))))))) R fun b5 => (a1 10 (ws_skipop R (sbx (cs' := [(sl x4.1), (sl x4.2.1), (sl x4.2.2.1), (sl x4.2.2.2.2), iv v3.1.Round, iv v3.1.Year]) tk_36 pz R R R R R R R) (zt (zc pk5 (zc pk5 (zc pk5 (zc pk5 (zc pk5 (zc pk5 (zc pk5 zn)))))))) (aq 11 R (po_assign R) (zc pk5 (zc pk5 (zc pk5 (zc pk5 (zc pk5 (zc pk5 (zc pk5 zn))))))) R (ae (wqm (b5, x4) trivial (su7 R R R R R R R) so12)))))))))
 exact wse R (eal (cs := [(sl hn), (sl hn), (sl hn), (sl hn), iv 0, iv 0]) za_36) (fun _ => (zt (zc pk1 (zc pk1 (zc pk1 (zc pk1 (zc pk1 (zc pk1 (zc pk1 zn))))))))) R fun b6 => a1 5 (wsc R (co_c4 fa_41 R fun w hw => c_spec_DoAct w (GGuild.mk s1.2.1 s1.2.2.1 s1.2.2.2.1 s1.2.2.2.2.1 s1.2.2.2.2.2.1 s1.2.2.2.2.2.2) x1l.2.1 (Rg.on (rgo pk3) hw) x1l.2.2.1 (Rg.on (rgo pk4) hw) x1l.2.2.2.1 x1l.2.2.2.2.1 (Rg.on (rgo pk5) hw) x1l.2.2.2.2.2 (Rg.on (rgo pk6) hw) (gx a_acts k1) hv3) (fun _ => (zt (zc pk5 (zc pk5 (zc pk5 (zc pk5 (zc pk5 (zc pk5 (zc pk5 zn))))))))) R fun x5 => (aq 6 R (pom R) (zc pk5 (zc pk5 (zc pk5 (zc pk5 (zc pk5 (zc pk5 (zc pk5 zn))))))) R (aq 7 R (pex R R) (zc pk5 (zc pk5 (zc pk5 (zc pk5 (zc pk5 (zc pk5 (zc pk5 zn))))))) R (aq 8 R (pex R R) (zc pk5 (zc pk5 (zc pk5 (zc pk5 (zc pk5 (zc pk5 (zc pk5 zn))))))) R (a1 10 (ws_skipop R (sbx (cs' := [(sl x5.1), (sl x5.2.1), (sl x5.2.2.1), (sl x5.2.2.2.2), iv v3.1.Round, iv v3.1.Year]) tk_36 pk4 R R R R R R R) (zt (zc pk5 (zc pk5 (zc pk5 (zc pk5 (zc pk5 (zc pk5 (zc pk5 zn)))))))) (aq 11 R (po_assign R) (zc pk5 (zc pk5 (zc pk5 (zc pk5 (zc pk5 (zc pk5 (zc pk5 zn))))))) R (ae (wqm (b6, x5) trivial (su7 R R R R R R R) so12)))))))))
 intro x6 _
 refine wqt (wcr (wlq (v := .agg #[(sl x6.2.1), (sl x6.2.2.1), (sl x6.2.2.2.1), (sl x6.2.2.2.2.2), iv v3.1.Round, iv v3.1.Year]) (plb tk_36 pz R R R) R (wls (sbx (cs' := [(sl x6.2.1), (sl x6.2.2.1), (sl x6.2.2.2.1), (sl x6.2.2.2.2.2), iv v3.1.Round, iv v3.1.Year]) tk_36 pk5 R R R R R R R) (wnt (wcg (mv R R (mv R R (wle (ebs R (sb_23_1 v3.2)) R fun b7 => (gdO t1 fun g2 t1 => (wle (eo_append (xs := s1.1) (ys := ([v3.2] : List Int)) ak_23 pk12 R R (slin_rd fun _ g => Rg.on (rgo (pbo pz (n := 1) (xs := ([v3.2] : List Int)) R R (by unfold maxLen; omega))) g) g2) R fun x7 => ?_))))))))))
 refine asg R R (wln (wqb (wqt (wcg (mv R R (wlq (po_inc R R (by omega)) R ?_))))))
 exact asg R R (wln (wq_rnd hk1 (stpN l1 t1) (x7, x6.2.1, x6.2.2.1, x6.2.2.2.1, x6.2.2.2.2.1, x6.2.2.2.2.2) (su5 R R R R R) (zc pk2 (zc pk7 (zc pk3 (zc pk3 (zc pk3 (zc pk3 so1))))))))
 have c1 : (decide (((k1 : Nat) : Int) < ((a_acts.length : Nat) : Int))) = false := ddf (by omega)
 have en1 := foe l1 hk1
 exact wcs (wcr (mv R R (mv R R (wlq (pln (rga r4) el_38 R) R (wlq (pls R R) R (wnt (wff R c1 (wcx (wqe (wqe (wbx (wjm _ (x1l.1, x1l.2.1, x1l.2.2.1, x1l.2.2.2.1, x1l.2.2.2.2.1, x1l.2.2.2.2.2) (Sum.inl.inj en1) (su3 R R R) so7))))))))))))
 intro e1 x3 hp
 obtain rfl : e1 = y1 := hp.symm
 refine wqt (wcr (wlq (v := .agg #[(sl x3.2.1), (sl x3.2.2.1), (sl x3.2.2.2.1), (sl x3.2.2.2.2.2), iv e1.2.2.2.2.2.1, iv e1.2.2.2.2.2.2]) (plb tk_36 pz R R R) R (mv R R (wls (sbx (cs' := [(sl x3.2.1), (sl x3.2.2.1), (sl x3.2.2.2.1), (sl x3.2.2.2.2.2), iv e1.2.2.2.2.2.1, iv e1.2.2.2.2.2.2]) tk_36 pk1 R R R R R R R) (asg R R (wnt (wct ?_)))))))
 obtain rfl := oi t0
 exact wq_retc1 R tk_36 R R pz R fun w hw => ⟨(x3.2.1, x3.2.2.1, x3.2.2.2.1, x3.2.2.2.2.1, x3.2.2.2.2.2, x3.1), R, hw.weak (zc pk2 (zc pk2 (zc pk2 (zc pk2 (zc pk2 zn)))))⟩

theorem c_spec_l39Ints (w : World) (a_a : List Int) (v0a : Hd) (r0 : rdF w (dm w []) (sl v0a) a_a) (a_b : List Int) (v1a : Hd) (r1 : rdF w (dm w []) (sl v1a) a_b) {r : Bool} (t0 : spec_l39Ints a_a a_b = some r) : Calls Tryz.prog 20 #[(sl v0a), (sl v1a)] w fun e w' => e = .returned (.bool r) ∧ SH w [] [] w' := by
 refine cwc (args := [_, _]) Tryz.func20 R Tryz.ntmps20 R ?_
 unfold spec_l39Ints at t0
 refine wcr (asg R R (wnt (wcs (wcr (mv R R (wlq (pln (rga r0) el_23 R) R (mv R R (wlq (pln (rga r1) el_23 R) R (wlq (po_neq R R) R (wnt (wcO t0 R (fun h1 t0 => ?_) fun h1 t0 => ?_)))))))))))
 refine wcr (asg R R (wnt (wct (wqr ?_))))
 obtain rfl := oi t0
 exact wq1 R R fun w hw => ⟨R, hw.weak zn⟩
 refine wck (wqt (wcs (wcr (asg R R (wnt (gdO t0 fun g1 t0 => (sqO t0 fun y1 l1 t0 => (wj (J := Unit) (X := Unit) (fun z => y1 = .inl z) (fun _ _ => []) (fun _ _ => []) ?_ ?_))))))))
 refine wcb (wcf (X := Unit) l1 (fun k1 s1 x1l => [(0, (sl v0a)), (1, (sl v1a)), (5, iv ((k1 : Nat) : Int))]) (fun k1 s1 x1l => []) () (su3 R R R) zn fun k1 s1 x1l hN1 l1 => ?_)
 by_cases hk1 : k1 < a_a.length
 refine fos l1 hk1 fun _ t1 l1 => ?_
 unfold spec_l39Ints_L1 at t1
 have c1 : (decide (((k1 : Nat) : Int) < ((a_a.length : Nat) : Int))) = true := ddt (by omega)
 refine wcs (wcr (mv R R (mv R R (wlq (pln (rga r0) el_23 R) R (wlq (pls R R) R (wnt (wft R c1 (wck (wqt (wcs (wcb (wcs (wcd [] 9 mixed (aq 0 R (pom R) zn R (aq 1 R (pom R) zn R (aq 2 R (po_ixn (k := k1) (rga r0) el_23 R R hk1) zn R (aq (v := iv (gx a_a k1)) 3 R (po_ldf (rga r0) tk_3 R hk1 R) zn R (aq 4 R (pom R) zn R (aq 5 R (pom R) zn R (gdO t1 fun g2 t1 => (aq 6 R (po_ixn (k := k1) (rga r1) el_23 R R g2) zn R (aq (v := iv (gx a_b k1)) 7 R (po_ldf (rga r1) tk_3 R g2 R) zn R (aq 8 R (po_neq R R) zn R (ae (wqt (wcO t1 R (fun h2 t1 => ?_) fun h2 t1 => ?_))))))))))))))))))))))))))
 refine wcr (asg R R (wnt (wct (wbr (wqr (wqr (wbr (wqr (wqr ?_)))))))))
 replace t0 := lpR t0 l1 t1
 obtain rfl := oi t0
 exact wq1 R R fun w hw => ⟨R, hw.weak zn⟩
 refine wck (wqb (wqt (wcg (mv R R (wlq (po_inc R R (by omega)) R ?_)))))
 exact asg R R (wln (wq_rnd hk1 (stpN l1 t1) () (su3 R R R) zn))
 have c1 : (decide (((k1 : Nat) : Int) < ((a_a.length : Nat) : Int))) = false := ddf (by omega)
 have en1 := foe l1 hk1
 exact wcs (wcr (mv R R (mv R R (wlq (pln (rga r0) el_23 R) R (wlq (pls R R) R (wnt (wff R c1 (wcx (wqe (wqe (wbx (wjm _ () en1 yn zn))))))))))))
 intro e1 _ hp
 replace t0 := sqE (j := e1) t0 hp
 refine wqt (wcr (asg R R (wnt (wct ?_))))
 obtain rfl := oi t0
 exact wq1 R R fun w hw => ⟨R, hw.weak zn⟩

theorem c_spec_IsReplay (w : World) (a_g : GGuild) (v0a : Hd) (r0 : rdF w (dm w []) (sl v0a) a_g.Members) (v1a : Hd) (r1 : rdF w (dm w []) (sl v1a) a_g.Stock) (v2a : Hd) (u2a : List Value) (r2 : RdL w (dm w []) (sl v2a) u2a a_g.Entries) (v3a : Hd) (r3 : rdF w (dm w []) (sl v3a) a_g.Books) (a_acts : List GAct) (v4a : Hd) (r4 : rdF w (dm w []) (sl v4a) a_acts) (a_numbers : List Int) (v5a : Hd) (r5 : rdF w (dm w []) (sl v5a) a_numbers) {r : Bool} (t0 : spec_IsReplay a_g a_acts a_numbers = some r) : Calls Tryz.prog 6 #[.agg #[(sl v0a), (sl v1a), (sl v2a), (sl v3a), .int .i64 a_g.Round, .int .i64 a_g.Year], (sl v4a), (sl v5a)] w fun e w' => e = .returned (.bool r) ∧ SH w [] [] w' := by
 refine cwc (args := [_, _, _]) Tryz.func6 R Tryz.ntmps6 R ?_
 unfold spec_IsReplay at t0
 refine wcr (wle (eo_box R R) R fun b1 => (asg R R (wnt (wcs (wcs (bdO t0 fun y1 t1 t0 => (wj (J := Bool) (X := Unit) (fun z => y1 = z) (fun z _ => [(1, (sl v4a)), (2, (sl v5a)), (3, ptr b1 0), (16, .bool z)]) (fun _ _ => [box b1 [(sl v0a), (sl v1a), (sl v2a), (sl v3a), iv a_g.Round, iv a_g.Year]]) ?_ ?_)))))))
 refine wcg (wlq (v := .agg #[(sl v0a), (sl v1a), (sl v2a), (sl v3a), iv a_g.Round, iv a_g.Year]) (plb tk_36 pz R R R) R (bdO t1 fun v1 hv1 t1 => (wlc (cz0 fa_18 R fun w hw => c_spec_GuildOk w a_g v0a (ra r0 hw) v1a (ra r1 hw) v2a u2a (ra r2 hw) v3a (ra r3 hw) hv1) R fun _ => (wlq (po_not R) R (mv R R (wlo (t := 12) t1 R (fun h1 t1 => ?_) fun h1 t1 => ?_))))))
 exact wgf (j := 3) R R R R R (wgf (j := 3) R R R R R (wgf (j := 3) R R R R R (wlq (pit R R) R (wln (wjm _ () (mtE t1) (su4 R R R R) so1)))))
 exact wgn (j := 3) R R R (mv R R (wgn (j := 3) R R R (wlq (pln (rga r4) el_38 R) R (wgn (j := 3) R R R (wlq (po_gtr R R) R (wlq (pif R R) R (wln (wjm _ () (mtE t1) (su4 R R R R) so1))))))))
 intro j1 _ hp
 obtain rfl : j1 = y1 := hp.symm
 refine wqt (wcO t0 R (fun h2 t0 => ?_) fun h2 t0 => ?_)
 refine wcr (asg R R (wnt (wct (wqr ?_))))
 obtain rfl := oi t0
 exact wq1 R R fun w hw => ⟨R, hw.weak zn⟩
 refine wck (wqt (wcr (wlq (v := .agg #[(sl v0a), (sl v1a), (sl v2a), (sl v3a), iv a_g.Round, iv a_g.Year]) (plb tk_36 pz R R R) R (mv R R (bdO t0 fun v2 hv2 t0 => (wlc (co_c5 fa_19 R fun w hw => c_spec_RunActs w a_g v0a (ra r0 hw) v1a (ra r1 hw) v2a u2a (ra r2 hw) v3a (ra r3 hw) a_acts v4a (ra r4 hw) hv2) R fun x2 => (mv R R (wlq (pex R R) R (wlq (pex R R) R (wle (eal (cs := [(sl hn), (sl hn), (sl hn), (sl hn), iv 0, iv 0]) za_36) R fun b2 => (wls (sbx (cs' := [(sl x2.1), (sl x2.2.1), (sl x2.2.2.1), (sl x2.2.2.2.2.1), iv v2.1.Round, iv v2.1.Year]) tk_36 pz R R R R R R R) (asg R R (wnt (wcr (mv R R (mv R R (bdO t0 fun v3 hv3 t0 => (wlc (cz0 fa_20 R fun w hw => c_spec_l39Ints w v2.2 x2.2.2.2.2.2 (Rg.on (rgo pk5) hw) a_numbers v5a (ra r5 hw) hv3) R fun _ => (asg R R (wnt (wct ?_)))))))))))))))))))))
 obtain rfl := oi t0
 exact wq1 R R fun w hw => ⟨R, hw.weak zn⟩

theorem c_impl_within (w : World) (a_n : Int) (a_a : Int) (a_b : Int) {r : Bool} (t0 : impl_within a_n a_a a_b = some r) : Calls Tryz.prog 50 #[.int .i64 a_n, .int .i64 a_a, .int .i64 a_b] w fun e w' => e = .returned (.bool r) ∧ SH w [] [] w' := by
 refine cwc (args := [_, _, _]) Tryz.func50 R Tryz.ntmps50 R ?_
 unfold impl_within at t0
 refine wcr (asg R R (wnt (wcs (wcj (X := Unit) (fun _ => True) (fun _ => [(6, .bool ((decide (a_n ≥ a_a)) && (decide (a_n ≤ a_b))))]) (fun _ => []) ?_ ?_))))
 refine wcg (mv R R (mv R R (wlq (po_geq R R) R (mv R R (wl_fork (t := 10) R (fun h1 => ?_) fun h1 => ?_)))))
 exact wgn (j := 3) R R R (mv R R (wgn (j := 3) R R R (mv R R (wgn (j := 3) R R R (wlq (po_leq R R) R (wlq (pit R R) R (asg R R (wln (wqm () trivial (sub_b R (by rw [h1]; rfl) yn) zn)))))))))
 exact wgf (j := 3) R R R R R (wgf (j := 3) R R R R R (wgf (j := 3) R R R R R (wlq (pif R R) R (asg R R (wln (wqm () trivial (sub_b R (by rw [h1]; rfl) yn) zn))))))
 intro _ _
 refine wqt (wct ?_)
 obtain rfl := oi t0
 exact wq1 R R fun w hw => ⟨R, hw.weak zn⟩

theorem c_impl_MembersOk (w : World) (a_list : List GMember) (v0a : Hd) (r0 : rdF w (dm w []) (sl v0a) a_list) {r : Bool} (t0 : impl_MembersOk a_list = some r) : Calls Tryz.prog 45 #[(sl v0a)] w fun e w' => e = .returned (.bool r) ∧ SH w [] [] w' := by
 refine cwc (args := [_]) Tryz.func45 R Tryz.ntmps45 R ?_
 unfold impl_MembersOk at t0
 refine wcr (asg R R (wnt (wcs (wcr (mv R R (wlq (pln (rga r0) el_32 R) R (mv R R (wnt (gdO t0 fun g1 t0 => (sqO t0 fun y1 l1 t0 => (wj (J := Unit) (X := Unit) (fun z => y1 = .inl z) (fun _ _ => [(0, (sl v0a))]) (fun _ _ => []) ?_ ?_)))))))))))
 refine wcb (wcf (X := Unit) l1 (fun k1 s1 x1l => [(0, (sl v0a)), (5, (sl v0a)), (6, iv ((a_list.length : Nat) : Int)), (7, iv ((k1 : Nat) : Int))]) (fun k1 s1 x1l => []) () (su4 R R R R) zn fun k1 s1 x1l hN1 l1 => ?_)
 by_cases hk1 : k1 < a_list.length
 refine fos l1 hk1 fun _ t1 l1 => ?_
 unfold impl_MembersOk_L1 at t1
 have c1 : (decide (((k1 : Nat) : Int) < ((a_list.length : Nat) : Int))) = true := ddt (by omega)
 refine wcr (wlq (pls R R) R (wnt (wcs (wft R c1 (wck (wqt (wcs (wcb (wcr (mv R R (wlq (po_ixn (k := k1) (rga r0) el_32 R R hk1) R (wlq (v := .agg #[iv ((gx a_list k1).Number), iv ((gx a_list k1).Since), iv ((gx a_list k1).Paid)]) (po_ldfs (rga r0) tk_85 R hk1 R R R) R (wle (eal (cs := [iv 0, iv 0, iv 0]) za_85) R fun b1 => (asg R R (wls (sbx (cs' := [iv ((gx a_list k1).Number), iv ((gx a_list k1).Since), iv ((gx a_list k1).Paid)]) tk_85 pz R R R R R R R) (wnt (wcs (bdO t1 fun y2 t2 t1 => (wj (J := Bool) (X := Unit) (fun z => y2 = z) (fun z _ => [(0, (sl v0a)), (5, (sl v0a)), (6, iv ((a_list.length : Nat) : Int)), (7, iv ((k1 : Nat) : Int)), (45, .bool z)]) (fun _ _ => []) ?_ ?_)))))))))))))))))))
 refine wcd [box b1 [iv ((gx a_list k1).Number), iv ((gx a_list k1).Since), iv ((gx a_list k1).Paid)]] 34 mixed (aq 0 R (pof fo_85_0 R) so1 R (aq (v := iv ((gx a_list k1).Number)) 1 R (plx tk_3 pz R R) so1 R (a1 2 (bdO t2 fun v1 hv1 t2 => (wsc R (cz0 fa_50 R fun w hw => c_impl_within w ((gx a_list k1).Number) 1 999 hv1) (fun _ => (zt so1)) R fun _ => (aq 3 R (po_not R) so1 R (aq 4 R (pom R) so1 R (waO_ (t := 16) t2 R (fun h1 t2 => ?_) fun h1 t2 => ?_))))))))
 exact af 5 4 R R R R R so1 R (af 6 4 R R R R R so1 R (af 7 4 R R R R R so1 R (au 8 7 R R R R so1 R (au 9 7 R R R R so1 R (au 10 7 R R R R so1 R (au 11 7 R R R R so1 R (au 12 7 R R R R so1 R (au 13 7 R R R R so1 R (au 14 7 R R R R so1 R (au 15 7 R R R R so1 R (au 16 7 R R R R so1 R (af 17 4 R R R R R so1 R (aq 18 R (pit R R) so1 R (aq 19 R (pom R) so1 R (af 20 19 R R R R R so1 R (af 21 19 R R R R R so1 R (af 22 19 R R R R R so1 R (af 23 19 R R R R R so1 R (aq 24 R (pit R R) so1 R (aq 25 R (pom R) so1 R (af 26 25 R R R R R so1 R (af 27 25 R R R R R so1 R (af 28 25 R R R R R so1 R (af 29 25 R R R R R so1 R (af 30 25 R R R R R so1 R (af 31 25 R R R R R so1 R (af 32 25 R R R R R so1 R (aq 33 R (pit R R) so1 R (ae (wjm _ () (mtE t2) (su5 R R R R R) zn))))))))))))))))))))))))))))))
 refine an 5 4 R R R R (pom R) so1 R (an 6 4 R R R R (po_gtr R R) so1 R (an 7 4 R R R R (pom R) so1 R (waO_ (t := 19) t2 R (fun h2 t2 => ?_) fun h2 t2 => ?_)))
 refine an 8 7 R R R R (pof fo_85_0 R) so1 R (an (v := iv ((gx a_list k1).Number)) 9 7 R R R R (plx tk_3 pz R R) so1 R (an 10 7 R R R R (pom R) so1 R (an 11 7 R R R R (pom R) so1 R (an 12 7 R R R R (po_sub R R) so1 R (gdO t2 fun g2 t2 => (an 13 7 R R R R (po_ixr (rga r0) el_32 R R g2.1 g2.2) so1 R (an 14 7 R R R R (po_sfldr (rga r0) (ix_lt g2) fo_85_0 R) so1 R (an (v := iv ((gx a_list (((wr (((k1 : Nat) : Int) - 1))).toNat)).Number)) 15 7 R R R R (po_ldf (rga r0) tk_3 R (ix_lt g2) R) so1 R (an 16 7 R R R R (po_leq R R) so1 R (an 17 4 R R R R (pit R R) so1 R (aq 18 R (pif R R) so1 R (aq 19 R (pom R) so1 R (waO_ (t := 31) t2 R (fun h3 t2 => ?_) fun h3 t2 => ?_)))))))))))))
 exact af 20 19 R R R R R so1 R (af 21 19 R R R R R so1 R (af 22 19 R R R R R so1 R (af 23 19 R R R R R so1 R (aq 24 R (pit R R) so1 R (aq 25 R (pom R) so1 R (af 26 25 R R R R R so1 R (af 27 25 R R R R R so1 R (af 28 25 R R R R R so1 R (af 29 25 R R R R R so1 R (af 30 25 R R R R R so1 R (af 31 25 R R R R R so1 R (af 32 25 R R R R R so1 R (aq 33 R (pit R R) so1 R (ae (wjm _ () (mtE t2) (su5 R R R R R) zn)))))))))))))))
 refine an 20 19 R R R R (pof fo_85_1 R) so1 R (an (v := iv ((gx a_list k1).Since)) 21 19 R R R R (plx tk_3 pz R R) so1 R (a1 22 (bdO t2 fun v2 hv2 t2 => (ws_call_on (j := 19) R R R R (cz0 fa_50 R fun w hw => c_impl_within w ((gx a_list k1).Since) 1900 2999 hv2) (fun _ => (zt so1)) R fun _ => (an 23 19 R R R R (po_not R) so1 R (aq 24 R (pif R R) so1 R (aq 25 R (pom R) so1 R (waO_ (t := 37) t2 R (fun h4 t2 => ?_) fun h4 t2 => ?_))))))))
 exact af 26 25 R R R R R so1 R (af 27 25 R R R R R so1 R (af 28 25 R R R R R so1 R (af 29 25 R R R R R so1 R (af 30 25 R R R R R so1 R (af 31 25 R R R R R so1 R (af 32 25 R R R R R so1 R (aq 33 R (pit R R) so1 R (ae (wjm _ () (mtE t2) (su5 R R R R R) zn)))))))))
 exact an 26 25 R R R R (pof fo_85_2 R) so1 R (an (v := iv ((gx a_list k1).Paid)) 27 25 R R R R (plx tk_3 pz R R) so1 R (an 28 25 R R R R (pof fo_85_1 R) so1 R (an (v := iv ((gx a_list k1).Since)) 29 25 R R R R (plx tk_3 pz R R) so1 R (an 30 25 R R R R (po_sub R R) so1 R (a1 31 (bdO t2 fun v3 hv3 t2 => (ws_call_on (j := 25) R R R R (cz0 fa_50 R fun w hw => c_impl_within w ((gx a_list k1).Paid) (wr ((gx a_list k1).Since - 1)) 2999 hv3) (fun _ => (zt so1)) R fun _ => (an 32 25 R R R R (po_not R) so1 R (aq 33 R (pif R R) so1 R (ae (wjm _ () (mtE t2) (su5 R R R R R) zn)))))))))))
 refine af 8 7 R R R R R so1 R (af 9 7 R R R R R so1 R (af 10 7 R R R R R so1 R (af 11 7 R R R R R so1 R (af 12 7 R R R R R so1 R (af 13 7 R R R R R so1 R (af 14 7 R R R R R so1 R (af 15 7 R R R R R so1 R (af 16 7 R R R R R so1 R (an 17 4 R R R R (pif R R) so1 R (aq 18 R (pif R R) so1 R (aq 19 R (pom R) so1 R (an 20 19 R R R R (pof fo_85_1 R) so1 R (an (v := iv ((gx a_list k1).Since)) 21 19 R R R R (plx tk_3 pz R R) so1 R (a1 22 (bdO t2 fun v4 hv4 t2 => (ws_call_on (j := 19) R R R R (cz0 fa_50 R fun w hw => c_impl_within w ((gx a_list k1).Since) 1900 2999 hv4) (fun _ => (zt so1)) R fun _ => (an 23 19 R R R R (po_not R) so1 R (aq 24 R (pif R R) so1 R (aq 25 R (pom R) so1 R (waO_ (t := 37) t2 R (fun h5 t2 => ?_) fun h5 t2 => ?_))))))))))))))))))))
 exact af 26 25 R R R R R so1 R (af 27 25 R R R R R so1 R (af 28 25 R R R R R so1 R (af 29 25 R R R R R so1 R (af 30 25 R R R R R so1 R (af 31 25 R R R R R so1 R (af 32 25 R R R R R so1 R (aq 33 R (pit R R) so1 R (ae (wjm _ () (mtE t2) (su5 R R R R R) zn)))))))))
 exact an 26 25 R R R R (pof fo_85_2 R) so1 R (an (v := iv ((gx a_list k1).Paid)) 27 25 R R R R (plx tk_3 pz R R) so1 R (an 28 25 R R R R (pof fo_85_1 R) so1 R (an (v := iv ((gx a_list k1).Since)) 29 25 R R R R (plx tk_3 pz R R) so1 R (an 30 25 R R R R (po_sub R R) so1 R (a1 31 (bdO t2 fun v5 hv5 t2 => (ws_call_on (j := 25) R R R R (cz0 fa_50 R fun w hw => c_impl_within w ((gx a_list k1).Paid) (wr ((gx a_list k1).Since - 1)) 2999 hv5) (fun _ => (zt so1)) R fun _ => (an 32 25 R R R R (po_not R) so1 R (aq 33 R (pif R R) so1 R (ae (wjm _ () (mtE t2) (su5 R R R R R) zn)))))))))))
 intro j1 _ hp
 obtain rfl : j1 = y2 := hp.symm
 refine wqt (wcO t1 R (fun h6 t1 => ?_) fun h6 t1 => ?_)
 refine wcr (asg R R (wnt (wct (wbr (wqr (wqr (wbr (wqr (wqr ?_)))))))))
 replace t0 := lpR t0 l1 t1
 obtain rfl := oi t0
 exact wq1 R R fun w hw => ⟨R, hw.weak zn⟩
 refine wck (wqb (wqt (wcg (wlq (po_inc R R (by omega)) R ?_))))
 exact mv R R (wln (wq_rnd hk1 (stpN l1 t1) () (su4 R R R R) zn))
 have c1 : (decide (((k1 : Nat) : Int) < ((a_list.length : Nat) : Int))) = false := ddf (by omega)
 have en1 := foe l1 hk1
 exact wcr (wlq (pls R R) R (wnt (wcs (wff R c1 (wcx (wqe (wqe (wbx (wjm _ () en1 (su1 R) zn)))))))))
 intro e1 _ hp
 replace t0 := sqE (j := e1) t0 hp
 refine wqt (wcr (mv R R (wlq (pln (rga r0) el_32 R) R (wlq (po_leq R R) R (asg R R (wnt (wct ?_)))))))
 obtain rfl := oi t0
 exact wq1 R R fun w hw => ⟨R, hw.weak zn⟩

theorem c_impl_allWithin (w : World) (a_list : List Int) (v0a : Hd) (r0 : rdF w (dm w []) (sl v0a) a_list) (a_a : Int) (a_b : Int) {r : Bool} (t0 : impl_allWithin a_list a_a a_b = some r) : Calls Tryz.prog 72 #[(sl v0a), .int .i64 a_a, .int .i64 a_b] w fun e w' => e = .returned (.bool r) ∧ SH w [] [] w' := by
 refine cwc (args := [_, _, _]) Tryz.func72 R Tryz.ntmps72 R ?_
 unfold impl_allWithin at t0
 refine wcr (asg R R (wnt (wcs (wcr (mv R R (wlq (pln (rga r0) el_23 R) R (mv R R (wnt (gdO t0 fun g1 t0 => (sqO t0 fun y1 l1 t0 => (wj (J := Unit) (X := Unit) (fun z => y1 = .inl z) (fun _ _ => []) (fun _ _ => []) ?_ ?_)))))))))))
 refine wcb (wcf (X := Unit) l1 (fun k1 s1 x1l => [(1, iv a_a), (2, iv a_b), (9, (sl v0a)), (10, iv ((a_list.length : Nat) : Int)), (11, iv ((k1 : Nat) : Int))]) (fun k1 s1 x1l => []) () (su5 R R R R R) zn fun k1 s1 x1l hN1 l1 => ?_)
 by_cases hk1 : k1 < a_list.length
 refine fos l1 hk1 fun _ t1 l1 => ?_
 unfold impl_allWithin_L1 at t1
 have c1 : (decide (((k1 : Nat) : Int) < ((a_list.length : Nat) : Int))) = true := ddt (by omega)
 refine wcr (wlq (pls R R) R (wnt (wcs (wft R c1 (wck (wqt (wcs (wcb (wcr (wlq (po_ixn (k := k1) (rga r0) el_23 R R hk1) R (wlq (v := iv (gx a_list k1)) (po_ldf (rga r0) tk_3 R hk1 R) R (asg R R (wnt (wcr (mv R R (mv R R (mv R R (bdO t1 fun v1 hv1 t1 => (wlc (cz0 fa_50 R fun w hw => c_impl_within w (gx a_list k1) a_a a_b hv1) R fun _ => (wlq (po_not R) R (wnt (wcO t1 R (fun h1 t1 => ?_) fun h1 t1 => ?_))))))))))))))))))))))
 refine wcr (asg R R (wnt (wct (wbr (wqr (wqr (wbr (wqr (wqr ?_)))))))))
 replace t0 := lpR t0 l1 t1
 obtain rfl := oi t0
 exact wq1 R R fun w hw => ⟨R, hw.weak zn⟩
 refine wck (wqb (wqt (wcg (wlq (po_inc R R (by omega)) R ?_))))
 exact mv R R (wln (wq_rnd hk1 (stpN l1 t1) () (su5 R R R R R) zn))
 have c1 : (decide (((k1 : Nat) : Int) < ((a_list.length : Nat) : Int))) = false := ddf (by omega)
 have en1 := foe l1 hk1
 exact wcr (wlq (pls R R) R (wnt (wcs (wff R c1 (wcx (wqe (wqe (wbx (wjm _ () en1 yn zn)))))))))
 intro e1 _ hp
 replace t0 := sqE (j := e1) t0 hp
 refine wqt (wcr (asg R R (wnt (wct ?_))))
 obtain rfl := oi t0
 exact wq1 R R fun w hw => ⟨R, hw.weak zn⟩

theorem c_impl_StockOk (w : World) (a_stock : List Int) (v0a : Hd) (r0 : rdF w (dm w []) (sl v0a) a_stock) {r : Bool} (t0 : impl_StockOk a_stock = some r) : Calls Tryz.prog 46 #[(sl v0a)] w fun e w' => e = .returned (.bool r) ∧ SH w [] [] w' := by
 refine cwc (args := [_]) Tryz.func46 R Tryz.ntmps46 R ?_
 unfold impl_StockOk at t0
 refine wcr (asg R R (wnt (wcs (bdO t0 fun y1 t1 t0 => (wj (J := Bool) (X := Unit) (fun z => y1 = z) (fun z _ => [(2, .bool z)]) (fun _ _ => []) ?_ ?_)))))
 refine wcg (mv R R (wlq (pln (rga r0) el_23 R) R (wlq (pol R R) R (mv R R (wlo (t := 6) t1 R (fun h1 t1 => ?_) fun h1 t1 => ?_)))))
 exact wgn (j := 3) R R R (mv R R (bdO t1 fun v1 hv1 t1 => (wgn (j := 3) R R R (wlc (cz0 fa_72 R fun w hw => c_impl_allWithin w a_stock v0a (ra r0 hw) 0 1000000 hv1) R (fun _ => (wlq (pit R R) R (asg R R (wln (wjm _ () (mtE t1) (su1 R) zn)))))))))
 exact wgf (j := 3) R R R R R (wgf (j := 3) R R R R R (wlq (pif R R) R (asg R R (wln (wjm _ () (mtE t1) (su1 R) zn)))))
 intro j1 _ hp
 obtain rfl : j1 = y1 := hp.symm
 refine wqt (wct ?_)
 obtain rfl := oi t0
 exact wq1 R R fun w hw => ⟨R, hw.weak zn⟩

theorem c_impl_LedgerOk (w : World) (a_list : List GBooking) (v0a : Hd) (r0 : rdF w (dm w []) (sl v0a) a_list) {r : Bool} (t0 : impl_LedgerOk a_list = some r) : Calls Tryz.prog 47 #[(sl v0a)] w fun e w' => e = .returned (.bool r) ∧ SH w [] [] w' := by
 refine cwc (args := [_]) Tryz.func47 R Tryz.ntmps47 R ?_
 unfold impl_LedgerOk at t0
 refine wcr (asg R R (wnt (wcs (wcr (mv R R (wlq (pln (rga r0) el_34 R) R (mv R R (wnt (gdO t0 fun g1 t0 => (sqO t0 fun y1 l1 t0 => (wj (J := Unit) (X := Unit) (fun z => y1 = .inl z) (fun _ _ => [(0, (sl v0a))]) (fun _ _ => []) ?_ ?_)))))))))))
 refine wcb (wcf (X := Unit) l1 (fun k1 s1 x1l => [(0, (sl v0a)), (5, (sl v0a)), (6, iv ((a_list.length : Nat) : Int)), (7, iv ((k1 : Nat) : Int))]) (fun k1 s1 x1l => []) () (su4 R R R R) zn fun k1 s1 x1l hN1 l1 => ?_)
 by_cases hk1 : k1 < a_list.length
 refine fos l1 hk1 fun _ t1 l1 => ?_
 unfold impl_LedgerOk_L1 at t1
 have c1 : (decide (((k1 : Nat) : Int) < ((a_list.length : Nat) : Int))) = true := ddt (by omega)
 refine wcr (wlq (pls R R) R (wnt (wcs (wft R c1 (wck (wqt (wcs (wcb (wcr (mv R R (wlq (po_ixn (k := k1) (rga r0) el_34 R R hk1) R (wlq (v := .agg #[iv ((gx a_list k1).Day), iv ((gx a_list k1).From), iv ((gx a_list k1).To), iv ((gx a_list k1).Sum)]) (po_ldfs (rga r0) tk_90 R hk1 R R R) R (wle (eal (cs := [iv 0, iv 0, iv 0, iv 0]) za_90) R fun b1 => (asg R R (wls (sbx (cs' := [iv ((gx a_list k1).Day), iv ((gx a_list k1).From), iv ((gx a_list k1).To), iv ((gx a_list k1).Sum)]) tk_90 pz R R R R R R R) (wnt (wcs (bdO t1 fun y2 t2 t1 => (wj (J := Bool) (X := Unit) (fun z => y2 = z) (fun z _ => [(0, (sl v0a)), (5, (sl v0a)), (6, iv ((a_list.length : Nat) : Int)), (7, iv ((k1 : Nat) : Int)), (55, .bool z)]) (fun _ _ => []) ?_ ?_)))))))))))))))))))
 refine wcd [box b1 [iv ((gx a_list k1).Day), iv ((gx a_list k1).From), iv ((gx a_list k1).To), iv ((gx a_list k1).Sum)]] 44 mixed (aq 0 R (pof fo_90_0 R) so1 R (aq (v := iv ((gx a_list k1).Day)) 1 R (plx tk_3 pz R R) so1 R (a1 2 (bdO t2 fun v1 hv1 t2 => (wsc R (cz0 fa_50 R fun w hw => c_impl_within w ((gx a_list k1).Day) 0 9999 hv1) (fun _ => (zt so1)) R fun _ => (aq 3 R (po_not R) so1 R (aq 4 R (pom R) so1 R (waO_ (t := 16) t2 R (fun h1 t2 => ?_) fun h1 t2 => ?_))))))))
 refine af 5 4 R R R R R so1 R (af 6 4 R R R R R so1 R (af 7 4 R R R R R so1 R (au 8 7 R R R R so1 R (au 9 7 R R R R so1 R (au 10 7 R R R R so1 R (au 11 7 R R R R so1 R (au 12 7 R R R R so1 R (au 13 7 R R R R so1 R (au 14 7 R R R R so1 R (au 15 7 R R R R so1 R (au 16 7 R R R R so1 R (af 17 4 R R R R R so1 R (aq 18 R (pit R R) so1 R (aq 19 R (pom R) so1 R (af 20 19 R R R R R so1 R (af 21 19 R R R R R so1 R (af 22 19 R R R R R so1 R (af 23 19 R R R R R so1 R (aq 24 R (pit R R) so1 R (aq 25 R (pom R) so1 R (af 26 25 R R R R R so1 R (af 27 25 R R R R R so1 R (af 28 25 R R R R R so1 R (af 29 25 R R R R R so1 R (aq 30 R (pit R R) so1 R (aq 31 R (pom R) so1 R (af 32 31 R R R R R so1 R (af 33 31 R R R R R so1 R (af 34 31 R R R R R so1 R (af 35 31 R R R R R so1 R (af 36 31 R R R R R so1 R (aq 37 R (pit R R) so1 R (aq 38 R (pom R) so1 R (af 39 38 R R R R R so1 R (af 40 38 R R R R R so1 R (af 41 38 R R R R R so1 R (af 42 38 R R R R R so1 R (aq 43 R (pit R R) so1 R (ae ?_)))))))))))))))))))))))))))))))))))))))
 exact wjm _ () (mtE t2) (su5 R R R R R) zn
 refine an 5 4 R R R R (pom R) so1 R (an 6 4 R R R R (po_gtr R R) so1 R (an 7 4 R R R R (pom R) so1 R (waO_ (t := 19) t2 R (fun h2 t2 => ?_) fun h2 t2 => ?_)))
 refine an 8 7 R R R R (pof fo_90_0 R) so1 R (an (v := iv ((gx a_list k1).Day)) 9 7 R R R R (plx tk_3 pz R R) so1 R (an 10 7 R R R R (pom R) so1 R (an 11 7 R R R R (pom R) so1 R (an 12 7 R R R R (po_sub R R) so1 R (gdO t2 fun g2 t2 => (an 13 7 R R R R (po_ixr (rga r0) el_34 R R g2.1 g2.2) so1 R (an 14 7 R R R R (po_sfldr (rga r0) (ix_lt g2) fo_90_0 R) so1 R (an (v := iv ((gx a_list (((wr (((k1 : Nat) : Int) - 1))).toNat)).Day)) 15 7 R R R R (po_ldf (rga r0) tk_3 R (ix_lt g2) R) so1 R (an 16 7 R R R R (pls R R) so1 R (an 17 4 R R R R (pit R R) so1 R (aq 18 R (pif R R) so1 R (aq 19 R (pom R) so1 R (waO_ (t := 31) t2 R (fun h3 t2 => ?_) fun h3 t2 => ?_)))))))))))))
 exact af 20 19 R R R R R so1 R (af 21 19 R R R R R so1 R (af 22 19 R R R R R so1 R (af 23 19 R R R R R so1 R (aq 24 R (pit R R) so1 R (aq 25 R (pom R) so1 R (af 26 25 R R R R R so1 R (af 27 25 R R R R R so1 R (af 28 25 R R R R R so1 R (af 29 25 R R R R R so1 R (aq 30 R (pit R R) so1 R (aq 31 R (pom R) so1 R (af 32 31 R R R R R so1 R (af 33 31 R R R R R so1 R (af 34 31 R R R R R so1 R (af 35 31 R R R R R so1 R (af 36 31 R R R R R so1 R (aq 37 R (pit R R) so1 R (aq 38 R (pom R) so1 R (af 39 38 R R R R R so1 R (af 40 38 R R R R R so1 R (af 41 38 R R R R R so1 R (af 42 38 R R R R R so1 R (aq 43 R (pit R R) so1 R (ae (wjm _ () (mtE t2) (su5 R R R R R) zn)))))))))))))))))))))))))
 refine an 20 19 R R R R (pof fo_90_1 R) so1 R (an (v := iv ((gx a_list k1).From)) 21 19 R R R R (plx tk_3 pz R R) so1 R (a1 22 (bdO t2 fun v2 hv2 t2 => (ws_call_on (j := 19) R R R R (cz0 fa_50 R fun w hw => c_impl_within w ((gx a_list k1).From) 0 4 hv2) (fun _ => (zt so1)) R fun _ => (an 23 19 R R R R (po_not R) so1 R (aq 24 R (pif R R) so1 R (aq 25 R (pom R) so1 R (waO_ (t := 37) t2 R (fun h4 t2 => ?_) fun h4 t2 => ?_))))))))
 exact af 26 25 R R R R R so1 R (af 27 25 R R R R R so1 R (af 28 25 R R R R R so1 R (af 29 25 R R R R R so1 R (aq 30 R (pit R R) so1 R (aq 31 R (pom R) so1 R (af 32 31 R R R R R so1 R (af 33 31 R R R R R so1 R (af 34 31 R R R R R so1 R (af 35 31 R R R R R so1 R (af 36 31 R R R R R so1 R (aq 37 R (pit R R) so1 R (aq 38 R (pom R) so1 R (af 39 38 R R R R R so1 R (af 40 38 R R R R R so1 R (af 41 38 R R R R R so1 R (af 42 38 R R R R R so1 R (aq 43 R (pit R R) so1 R (ae (wjm _ () (mtE t2) (su5 R R R R R) zn)))))))))))))))))))
 refine an 26 25 R R R R (pof fo_90_2 R) so1 R (an (v := iv ((gx a_list k1).To)) 27 25 R R R R (plx tk_3 pz R R) so1 R (a1 28 (bdO t2 fun v3 hv3 t2 => (ws_call_on (j := 25) R R R R (cz0 fa_50 R fun w hw => c_impl_within w ((gx a_list k1).To) 0 4 hv3) (fun _ => (zt so1)) R fun _ => (an 29 25 R R R R (po_not R) so1 R (aq 30 R (pif R R) so1 R (aq 31 R (pom R) so1 R (waO_ (t := 43) t2 R (fun h5 t2 => ?_) fun h5 t2 => ?_))))))))
 exact af 32 31 R R R R R so1 R (af 33 31 R R R R R so1 R (af 34 31 R R R R R so1 R (af 35 31 R R R R R so1 R (af 36 31 R R R R R so1 R (aq 37 R (pit R R) so1 R (aq 38 R (pom R) so1 R (af 39 38 R R R R R so1 R (af 40 38 R R R R R so1 R (af 41 38 R R R R R so1 R (af 42 38 R R R R R so1 R (aq 43 R (pit R R) so1 R (ae (wjm _ () (mtE t2) (su5 R R R R R) zn)))))))))))))
 refine an 32 31 R R R R (pof fo_90_1 R) so1 R (an (v := iv ((gx a_list k1).From)) 33 31 R R R R (plx tk_3 pz R R) so1 R (an 34 31 R R R R (pof fo_90_2 R) so1 R (an (v := iv ((gx a_list k1).To)) 35 31 R R R R (plx tk_3 pz R R) so1 R (an 36 31 R R R R (pol R R) so1 R (aq 37 R (pif R R) so1 R (aq 38 R (pom R) so1 R (waO_ (t := 50) t2 R (fun h6 t2 => ?_) fun h6 t2 => ?_)))))))
 exact af 39 38 R R R R R so1 R (af 40 38 R R R R R so1 R (af 41 38 R R R R R so1 R (af 42 38 R R R R R so1 R (aq 43 R (pit R R) so1 R (ae (wjm _ () (mtE t2) (su5 R R R R R) zn))))))
 exact an 39 38 R R R R (pof fo_90_3 R) so1 R (an (v := iv ((gx a_list k1).Sum)) 40 38 R R R R (plx tk_3 pz R R) so1 R (a1 41 (bdO t2 fun v4 hv4 t2 => (ws_call_on (j := 38) R R R R (cz0 fa_50 R fun w hw => c_impl_within w ((gx a_list k1).Sum) 1 100000 hv4) (fun _ => (zt so1)) R fun _ => (an 42 38 R R R R (po_not R) so1 R (aq 43 R (pif R R) so1 R (ae (wjm _ () (mtE t2) (su5 R R R R R) zn))))))))
 refine af 8 7 R R R R R so1 R (af 9 7 R R R R R so1 R (af 10 7 R R R R R so1 R (af 11 7 R R R R R so1 R (af 12 7 R R R R R so1 R (af 13 7 R R R R R so1 R (af 14 7 R R R R R so1 R (af 15 7 R R R R R so1 R (af 16 7 R R R R R so1 R (an 17 4 R R R R (pif R R) so1 R (aq 18 R (pif R R) so1 R (aq 19 R (pom R) so1 R (an 20 19 R R R R (pof fo_90_1 R) so1 R (an (v := iv ((gx a_list k1).From)) 21 19 R R R R (plx tk_3 pz R R) so1 R (a1 22 (bdO t2 fun v5 hv5 t2 => (ws_call_on (j := 19) R R R R (cz0 fa_50 R fun w hw => c_impl_within w ((gx a_list k1).From) 0 4 hv5) (fun _ => (zt so1)) R fun _ => (an 23 19 R R R R (po_not R) so1 R (aq 24 R (pif R R) so1 R (aq 25 R (pom R) so1 R (waO_ (t := 37) t2 R (fun h7 t2 => ?_) fun h7 t2 => ?_))))))))))))))))))))
 exact af 26 25 R R R R R so1 R (af 27 25 R R R R R so1 R (af 28 25 R R R R R so1 R (af 29 25 R R R R R so1 R (aq 30 R (pit R R) so1 R (aq 31 R (pom R) so1 R (af 32 31 R R R R R so1 R (af 33 31 R R R R R so1 R (af 34 31 R R R R R so1 R (af 35 31 R R R R R so1 R (af 36 31 R R R R R so1 R (aq 37 R (pit R R) so1 R (aq 38 R (pom R) so1 R (af 39 38 R R R R R so1 R (af 40 38 R R R R R so1 R (af 41 38 R R R R R so1 R (af 42 38 R R R R R so1 R (aq 43 R (pit R R) so1 R (ae (wjm _ () (mtE t2) (su5 R R R R R) zn)))))))))))))))))))
 refine an 26 25 R R R R (pof fo_90_2 R) so1 R (an (v := iv ((gx a_list k1).To)) 27 25 R R R R (plx tk_3 pz R R) so1 R (a1 28 (bdO t2 fun v6 hv6 t2 => (ws_call_on (j := 25) R R R R (cz0 fa_50 R fun w hw => c_impl_within w ((gx a_list k1).To) 0 4 hv6) (fun _ => (zt so1)) R fun _ => (an 29 25 R R R R (po_not R) so1 R (aq 30 R (pif R R) so1 R (aq 31 R (pom R) so1 R (waO_ (t := 43) t2 R (fun h8 t2 => ?_) fun h8 t2 => ?_))))))))
 exact af 32 31 R R R R R so1 R (af 33 31 R R R R R so1 R (af 34 31 R R R R R so1 R (af 35 31 R R R R R so1 R (af 36 31 R R R R R so1 R (aq 37 R (pit R R) so1 R (aq 38 R (pom R) so1 R (af 39 38 R R R R R so1 R (af 40 38 R R R R R so1 R (af 41 38 R R R R R so1 R (af 42 38 R R R R R so1 R (aq 43 R (pit R R) so1 R (ae (wjm _ () (mtE t2) (su5 R R R R R) zn)))))))))))))
 refine an 32 31 R R R R (pof fo_90_1 R) so1 R (an (v := iv ((gx a_list k1).From)) 33 31 R R R R (plx tk_3 pz R R) so1 R (an 34 31 R R R R (pof fo_90_2 R) so1 R (an (v := iv ((gx a_list k1).To)) 35 31 R R R R (plx tk_3 pz R R) so1 R (an 36 31 R R R R (pol R R) so1 R (aq 37 R (pif R R) so1 R (aq 38 R (pom R) so1 R (waO_ (t := 50) t2 R (fun h9 t2 => ?_) fun h9 t2 => ?_)))))))
 exact af 39 38 R R R R R so1 R (af 40 38 R R R R R so1 R (af 41 38 R R R R R so1 R (af 42 38 R R R R R so1 R (aq 43 R (pit R R) so1 R (ae (wjm _ () (mtE t2) (su5 R R R R R) zn))))))
 exact an 39 38 R R R R (pof fo_90_3 R) so1 R (an (v := iv ((gx a_list k1).Sum)) 40 38 R R R R (plx tk_3 pz R R) so1 R (a1 41 (bdO t2 fun v7 hv7 t2 => (ws_call_on (j := 38) R R R R (cz0 fa_50 R fun w hw => c_impl_within w ((gx a_list k1).Sum) 1 100000 hv7) (fun _ => (zt so1)) R fun _ => (an 42 38 R R R R (po_not R) so1 R (aq 43 R (pif R R) so1 R (ae (wjm _ () (mtE t2) (su5 R R R R R) zn))))))))
 intro j1 _ hp
 obtain rfl : j1 = y2 := hp.symm
 refine wqt (wcO t1 R (fun h10 t1 => ?_) fun h10 t1 => ?_)
 refine wcr (asg R R (wnt (wct (wbr (wqr (wqr (wbr (wqr (wqr ?_)))))))))
 replace t0 := lpR t0 l1 t1
 obtain rfl := oi t0
 exact wq1 R R fun w hw => ⟨R, hw.weak zn⟩
 refine wck (wqb (wqt (wcg (wlq (po_inc R R (by omega)) R ?_))))
 exact mv R R (wln (wq_rnd hk1 (stpN l1 t1) () (su4 R R R R) zn))
 have c1 : (decide (((k1 : Nat) : Int) < ((a_list.length : Nat) : Int))) = false := ddf (by omega)
 have en1 := foe l1 hk1
 exact wcr (wlq (pls R R) R (wnt (wcs (wff R c1 (wcx (wqe (wqe (wbx (wjm _ () en1 (su1 R) zn)))))))))
 intro e1 _ hp
 replace t0 := sqE (j := e1) t0 hp
 refine wqt (wcr (mv R R (wlq (pln (rga r0) el_34 R) R (wlq (po_leq R R) R (asg R R (wnt (wct ?_)))))))
 obtain rfl := oi t0
 exact wq1 R R fun w hw => ⟨R, hw.weak zn⟩

theorem c_impl_isColor (w : World) (a_a : Int) {r : Bool} (t0 : impl_isColor a_a = some r) : Calls Tryz.prog 117 #[.int .i64 a_a] w fun e w' => e = .returned (.bool r) ∧ SH w [] [] w' := by
 refine cwc (args := [_]) Tryz.func117 R Tryz.ntmps117 R ?_
 unfold impl_isColor at t0
 refine wcr (asg R R (wnt (wcr (mv R R (bdO t0 fun v1 hv1 t0 => (wlc (cz0 fa_50 R fun w hw => c_impl_within w a_a 0 5 hv1) R fun _ => (asg R R (wnt (wct ?_)))))))))
 obtain rfl := oi t0
 exact wq1 R R fun w hw => ⟨R, hw.weak zn⟩

theorem c_impl_CellOk (w : World) (a_c : GCell) {r : Bool} (t0 : impl_CellOk a_c = some r) : Calls Tryz.prog 99 #[.agg #[.int .i64 a_c.Split, .int .i64 a_c.A, .int .i64 a_c.B]] w fun e w' => e = .returned (.bool r) ∧ SH w [] [] w' := by
 refine cwc (args := [_]) Tryz.func99 R Tryz.ntmps99 R ?_
 unfold impl_CellOk at t0
 refine wcr (wle (eo_box R R) R fun b1 => (asg R R (wnt (wcs (bdO t0 fun y1 t1 t0 => (wj (J := Bool) (X := Unit) (fun z => y1 = z) (fun z _ => [(2, .bool z)]) (fun _ _ => []) ?_ ?_))))))
 refine wcg (wlq (pof fo_119_0 R) R (wlq (v := iv a_c.Split) (plx tk_3 pz R R) R (bdO t1 fun v1 hv1 t1 => (wlc (cz0 fa_50 R fun w hw => c_impl_within w a_c.Split 0 2 hv1) R fun _ => (mv R R (wlo (t := 6) t1 R (fun h1 t1 => ?_) fun h1 t1 => ?_))))))
 refine wgn (j := 3) R R R (wlq (pof fo_119_1 R) R (wgn (j := 3) R R R (wlq (v := iv a_c.A) (plx tk_3 pz R R) R (bdO t1 fun v2 hv2 t1 => (wgn (j := 3) R R R (wlc (cz0 fa_117 R fun w hw => c_impl_isColor w a_c.A hv2) R (fun _ => (wlq (pit R R) R (mv R R (wlo (t := 11) t1 R (fun h2 t1 => ?_) fun h2 t1 => ?_))))))))))
 refine wgn (j := 8) R R R (wlq (pof fo_119_2 R) R (wgn (j := 8) R R R (wlq (v := iv a_c.B) (plx tk_3 pz R R) R (bdO t1 fun v3 hv3 t1 => (wgn (j := 8) R R R (wlc (cz0 fa_117 R fun w hw => c_impl_isColor w a_c.B hv3) R (fun _ => (wlq (pit R R) R (mv R R (wlo (t := 16) t1 R (fun h3 t1 => ?_) fun h3 t1 => ?_))))))))))
 exact wgn (j := 13) R R R (wlq (pof fo_119_0 R) R (wgn (j := 13) R R R (wlq (v := iv a_c.Split) (plx tk_3 pz R R) R (wgn (j := 13) R R R (wlq (pol R R) R (wgn (j := 13) R R R (wlq (pof fo_119_1 R) R (wgn (j := 13) R R R (wlq (v := iv a_c.A) (plx tk_3 pz R R) R (wgn (j := 13) R R R (wlq (pof fo_119_2 R) R (wgn (j := 13) R R R (wlq (v := iv a_c.B) (plx tk_3 pz R R) R (wgn (j := 13) R R R (wlq (pol R R) R (wgn (j := 13) R R R (wlq (po_eql_bool ub_4 R R) R (wlq (pit R R) R (asg R R (wln (wjm _ () (mtE t1) (su1 R) zn)))))))))))))))))))))
 exact wgf (j := 13) R R R R R (wgf (j := 13) R R R R R (wgf (j := 13) R R R R R (wgf (j := 13) R R R R R (wgf (j := 13) R R R R R (wgf (j := 13) R R R R R (wgf (j := 13) R R R R R (wgf (j := 13) R R R R R (wgf (j := 13) R R R R R (wlq (pif R R) R (asg R R (wln (wjm _ () (mtE t1) (su1 R) zn))))))))))))
 exact wgf (j := 8) R R R R R (wgf (j := 8) R R R R R (wgf (j := 8) R R R R R (wlq (pif R R) R (mv R R (wgf (j := 13) R R R R R (wgf (j := 13) R R R R R (wgf (j := 13) R R R R R (wgf (j := 13) R R R R R (wgf (j := 13) R R R R R (wgf (j := 13) R R R R R (wgf (j := 13) R R R R R (wgf (j := 13) R R R R R (wgf (j := 13) R R R R R (wlq (pif R R) R (asg R R (wln (wjm _ () (mtE t1) (su1 R) zn)))))))))))))))))
 exact wgf (j := 3) R R R R R (wgf (j := 3) R R R R R (wgf (j := 3) R R R R R (wlq (pif R R) R (mv R R (wgf (j := 8) R R R R R (wgf (j := 8) R R R R R (wgf (j := 8) R R R R R (wlq (pif R R) R (mv R R (wgf (j := 13) R R R R R (wgf (j := 13) R R R R R (wgf (j := 13) R R R R R (wgf (j := 13) R R R R R (wgf (j := 13) R R R R R (wgf (j := 13) R R R R R (wgf (j := 13) R R R R R (wgf (j := 13) R R R R R (wgf (j := 13) R R R R R (wlq (pif R R) R (asg R R (wln (wjm _ () (mtE t1) (su1 R) zn))))))))))))))))))))))
 intro j1 _ hp
 obtain rfl : j1 = y1 := hp.symm
 refine wqt (wct ?_)
 obtain rfl := oi t0
 exact wq1 R R fun w hw => ⟨R, hw.weak zn⟩

theorem c_impl_BlockOk (w : World) (a_b : GBlock) (v0a : Hd) (r0 : rdF w (dm w []) (sl v0a) a_b.Cells) {r : Bool} (t0 : impl_BlockOk a_b = some r) : Calls Tryz.prog 73 #[.agg #[.int .i64 a_b.Size, (sl v0a)]] w fun e w' => e = .returned (.bool r) ∧ SH w [] [] w' := by
 refine cwc (args := [_]) Tryz.func73 R Tryz.ntmps73 R ?_
 unfold impl_BlockOk at t0
 refine wcr (wle (eo_box R R) R fun b1 => (asg R R (wnt (wcs (wcs (bdO t0 fun y1 t1 t0 => (wj (J := Bool) (X := Unit) (fun z => y1 = z) (fun z _ => [(1, ptr b1 0), (19, .bool z)]) (fun _ _ => [box b1 [iv a_b.Size, (sl v0a)]]) ?_ ?_)))))))
 refine wcg (wlq (pof fo_75_0 R) R (wlq (v := iv a_b.Size) (plx tk_3 pz R R) R (bdO t1 fun v1 hv1 t1 => (wlc (cz0 fa_50 R fun w hw => c_impl_within w a_b.Size 1 4 hv1) R fun _ => (wlq (po_not R) R (mv R R (wlo (t := 9) t1 R (fun h1 t1 => ?_) fun h1 t1 => ?_)))))))
 exact wgf (j := 4) R R R R R (wgf (j := 4) R R R R R (wgf (j := 4) R R R R R (wgf (j := 4) R R R R R (wgf (j := 4) R R R R R (wgf (j := 4) R R R R R (wgf (j := 4) R R R R R (wgf (j := 4) R R R R R (wgf (j := 4) R R R R R (wlq (pit R R) R (wln (wjm _ () (mtE t1) (su2 R R) so1)))))))))))
 exact wgn (j := 4) R R R (wlq (pof fo_75_1 R) R (wgn (j := 4) R R R (wlq (v := (sl v0a)) (plx tk_73 pz R R) R (wgn (j := 4) R R R (wlq (pln (rga r0) el_73 R) R (wgn (j := 4) R R R (wlq (pof fo_75_0 R) R (wgn (j := 4) R R R (wlq (v := iv a_b.Size) (plx tk_3 pz R R) R (wgn (j := 4) R R R (wlq (pof fo_75_0 R) R (wgn (j := 4) R R R (wlq (v := iv a_b.Size) (plx tk_3 pz R R) R (wgn (j := 4) R R R (wlq (po_mul R R) R (wgn (j := 4) R R R (wlq (po_neq R R) R (wlq (pif R R) R (wln (wjm _ () (mtE t1) (su2 R R) so1))))))))))))))))))))
 intro j1 _ hp
 obtain rfl : j1 = y1 := hp.symm
 refine wqt (wcO t0 R (fun h2 t0 => ?_) fun h2 t0 => ?_)
 refine wcr (asg R R (wnt (wct (wqr ?_))))
 obtain rfl := oi t0
 exact wq1 R R fun w hw => ⟨R, hw.weak zn⟩
 refine wck (wqt (wcs (wcr (wlq (pof fo_75_1 R) R (wlq (v := (sl v0a)) (plx tk_73 pz R R) R (wlq (pln (rga r0) el_73 R) R (mv R R (wnt (gdO t0 fun g1 t0 => (sqO t0 fun y1 l1 t0 => (wj (J := Unit) (X := Unit) (fun z => y1 = .inl z) (fun _ _ => []) (fun _ _ => []) ?_ ?_)))))))))))
 refine wcb (wcf (X := Unit) l1 (fun k1 s1 x1l => [(21, (sl v0a)), (22, iv ((a_b.Cells.length : Nat) : Int)), (23, iv ((k1 : Nat) : Int))]) (fun k1 s1 x1l => []) () (su3 R R R) zn fun k1 s1 x1l hN1 l1 => ?_)
 by_cases hk1 : k1 < a_b.Cells.length
 refine fos l1 hk1 fun _ t1 l1 => ?_
 unfold impl_BlockOk_L1 at t1
 have c1 : (decide (((k1 : Nat) : Int) < ((a_b.Cells.length : Nat) : Int))) = true := ddt (by omega)
 refine wcr (wlq (pls R R) R (wnt (wcs (wft R c1 (wck (wqt (wcs (wcb (wcr (wlq (po_ixn (k := k1) (rga r0) el_73 R R hk1) R (wlq (v := .agg #[iv ((gx a_b.Cells k1).Split), iv ((gx a_b.Cells k1).A), iv ((gx a_b.Cells k1).B)]) (po_ldfs (rga r0) tk_119 R hk1 R R R) R (wle (eal (cs := [iv 0, iv 0, iv 0]) za_119) R fun b2 => (wls (sbx (cs' := [iv ((gx a_b.Cells k1).Split), iv ((gx a_b.Cells k1).A), iv ((gx a_b.Cells k1).B)]) tk_119 pz R R R R R R R) (wnt (wcr (wlq (v := .agg #[iv ((gx a_b.Cells k1).Split), iv ((gx a_b.Cells k1).A), iv ((gx a_b.Cells k1).B)]) (plb tk_119 pz R R R) R (bdO t1 fun v2 hv2 t1 => (wlc (cz0 fa_99 R fun w hw => c_impl_CellOk w (gx a_b.Cells k1) hv2) R fun _ => (wlq (po_not R) R (wnt (wcO t1 R (fun h3 t1 => ?_) fun h3 t1 => ?_)))))))))))))))))))))
 refine wcr (asg R R (wnt (wct (wbr (wqr (wqr (wbr (wqr (wqr ?_)))))))))
 replace t0 := lpR t0 l1 t1
 obtain rfl := oi t0
 exact wq1 R R fun w hw => ⟨R, hw.weak zn⟩
 refine wck (wqb (wqt (wcg (wlq (po_inc R R (by omega)) R ?_))))
 exact mv R R (wln (wq_rnd hk1 (stpN l1 t1) () (su3 R R R) zn))
 have c1 : (decide (((k1 : Nat) : Int) < ((a_b.Cells.length : Nat) : Int))) = false := ddf (by omega)
 have en1 := foe l1 hk1
 exact wcr (wlq (pls R R) R (wnt (wcs (wff R c1 (wcx (wqe (wqe (wbx (wjm _ () en1 yn zn)))))))))
 intro e1 _ hp
 replace t0 := sqE (j := e1) t0 hp
 refine wqt (wcr (asg R R (wnt (wct ?_))))
 obtain rfl := oi t0
 exact wq1 R R fun w hw => ⟨R, hw.weak zn⟩

theorem c_impl_EntryOk (w : World) (a_e : GEntry) (v0a : Hd) (r0 : rdF w (dm w []) (sl v0a) a_e.Block.Cells) {r : Bool} (t0 : impl_EntryOk a_e = some r) : Calls Tryz.prog 48 #[.agg #[.int .i64 a_e.Owner, .int .i64 a_e.Day, .int .i64 a_e.Block.Size, (sl v0a)]] w fun e w' => e = .returned (.bool r) ∧ SH w [] [] w' := by
 refine cwc (args := [_]) Tryz.func48 R Tryz.ntmps48 R ?_
 unfold impl_EntryOk at t0
 refine wcr (wle (eo_box R R) R fun b1 => (asg R R (wnt (wcs (bdO t0 fun y1 t1 t0 => (wj (J := Bool) (X := Unit) (fun z => y1 = z) (fun z _ => [(2, .bool z)]) (fun _ _ => []) ?_ ?_))))))
 refine wcg (wlq (pof fo_77_0 R) R (wlq (v := iv a_e.Owner) (plx tk_3 pz R R) R (bdO t1 fun v1 hv1 t1 => (wlc (cz0 fa_50 R fun w hw => c_impl_within w a_e.Owner 0 99 hv1) R fun _ => (mv R R (wlo (t := 6) t1 R (fun h1 t1 => ?_) fun h1 t1 => ?_))))))
 refine wgn (j := 3) R R R (wlq (pof fo_77_1 R) R (wgn (j := 3) R R R (wlq (v := iv a_e.Day) (plx tk_3 pz R R) R (bdO t1 fun v2 hv2 t1 => (wgn (j := 3) R R R (wlc (cz0 fa_50 R fun w hw => c_impl_within w a_e.Day 0 9999 hv2) R (fun _ => (wlq (pit R R) R (mv R R (wlo (t := 11) t1 R (fun h2 t1 => ?_) fun h2 t1 => ?_))))))))))
 exact wgn (j := 8) R R R (wlq (pof fo_77_2 R) R (wgn (j := 8) R R R (wlq (v := .agg #[iv a_e.Block.Size, (sl v0a)]) (plb tk_75 pz R R R) R (bdO t1 fun v3 hv3 t1 => (wgn (j := 8) R R R (wlc (cz0 fa_73 R fun w hw => c_impl_BlockOk w a_e.Block v0a (ra r0 hw) hv3) R (fun _ => (wlq (pit R R) R (asg R R (wln (wjm _ () (mtE t1) (su1 R) zn)))))))))))
 exact wgf (j := 8) R R R R R (wgf (j := 8) R R R R R (wgf (j := 8) R R R R R (wlq (pif R R) R (asg R R (wln (wjm _ () (mtE t1) (su1 R) zn))))))
 exact wgf (j := 3) R R R R R (wgf (j := 3) R R R R R (wgf (j := 3) R R R R R (wlq (pif R R) R (mv R R (wgf (j := 8) R R R R R (wgf (j := 8) R R R R R (wgf (j := 8) R R R R R (wlq (pif R R) R (asg R R (wln (wjm _ () (mtE t1) (su1 R) zn)))))))))))
 intro j1 _ hp
 obtain rfl : j1 = y1 := hp.symm
 refine wqt (wct ?_)
 obtain rfl := oi t0
 exact wq1 R R fun w hw => ⟨R, hw.weak zn⟩

theorem c_impl_isMember (w : World) (a_list : List GMember) (v0a : Hd) (r0 : rdF w (dm w []) (sl v0a) a_list) (a_number : Int) {r : Bool} (t0 : impl_isMember a_list a_number = some r) : Calls Tryz.prog 49 #[(sl v0a), .int .i64 a_number] w fun e w' => e = .returned (.bool r) ∧ SH w [] [] w' := by
 refine cwc (args := [_, _]) Tryz.func49 R Tryz.ntmps49 R ?_
 unfold impl_isMember at t0
 refine wcr (asg R R (wnt (wcs (wcr (mv R R (wlq (pln (rga r0) el_32 R) R (mv R R (wnt (gdO t0 fun g1 t0 => (sqO t0 fun y1 l1 t0 => (wj (J := Unit) (X := Unit) (fun z => y1 = .inl z) (fun _ _ => []) (fun _ _ => []) ?_ ?_)))))))))))
 refine wcb (wcf (X := Unit) l1 (fun k1 s1 x1l => [(1, iv a_number), (7, (sl v0a)), (8, iv ((a_list.length : Nat) : Int)), (9, iv ((k1 : Nat) : Int))]) (fun k1 s1 x1l => []) () (su4 R R R R) zn fun k1 s1 x1l hN1 l1 => ?_)
 by_cases hk1 : k1 < a_list.length
 refine fos l1 hk1 fun _ t1 l1 => ?_
 unfold impl_isMember_L1 at t1
 have c1 : (decide (((k1 : Nat) : Int) < ((a_list.length : Nat) : Int))) = true := ddt (by omega)
 refine wcr (wlq (pls R R) R (wnt (wcs (wft R c1 (wck (wqt (wcs (wcb (wcr (wlq (po_ixn (k := k1) (rga r0) el_32 R R hk1) R (wlq (v := .agg #[iv ((gx a_list k1).Number), iv ((gx a_list k1).Since), iv ((gx a_list k1).Paid)]) (po_ldfs (rga r0) tk_85 R hk1 R R R) R (wle (eal (cs := [iv 0, iv 0, iv 0]) za_85) R fun b1 => (wls (sbx (cs' := [iv ((gx a_list k1).Number), iv ((gx a_list k1).Since), iv ((gx a_list k1).Paid)]) tk_85 pz R R R R R R R) (wnt (wcr (wlq (pof fo_85_0 R) R (wlq (v := iv ((gx a_list k1).Number)) (plx tk_3 pz R R) R (mv R R (wlq (pol R R) R (wnt (wcO t1 R (fun h1 t1 => ?_) fun h1 t1 => ?_)))))))))))))))))))))
 refine wcr (asg R R (wnt (wct (wbr (wqr (wqr (wbr (wqr (wqr ?_)))))))))
 replace t0 := lpR t0 l1 t1
 obtain rfl := oi t0
 exact wq1 R R fun w hw => ⟨R, hw.weak zn⟩
 refine wck (wqb (wqt (wcg (wlq (po_inc R R (by omega)) R ?_))))
 exact mv R R (wln (wq_rnd hk1 (stpN l1 t1) () (su4 R R R R) zn))
 have c1 : (decide (((k1 : Nat) : Int) < ((a_list.length : Nat) : Int))) = false := ddf (by omega)
 have en1 := foe l1 hk1
 exact wcr (wlq (pls R R) R (wnt (wcs (wff R c1 (wcx (wqe (wqe (wbx (wjm _ () en1 yn zn)))))))))
 intro e1 _ hp
 replace t0 := sqE (j := e1) t0 hp
 refine wqt (wcr (asg R R (wnt (wct ?_))))
 obtain rfl := oi t0
 exact wq1 R R fun w hw => ⟨R, hw.weak zn⟩

theorem c_impl_GoodStanding (w : World) (a_list : List GMember) (v0a : Hd) (r0 : rdF w (dm w []) (sl v0a) a_list) (a_year : Int) {r : List Int} (t0 : impl_GoodStanding a_list a_year = some r) : Calls Tryz.prog 74 #[(sl v0a), .int .i64 a_year] w fun e w' => ∃ x : Hd, e = .returned ((sl x)) ∧ SH w [] [ownF (sl x) r] w' := by
 refine cwc (args := [_, _]) Tryz.func74 R Tryz.ntmps74 R ?_
 unfold impl_GoodStanding at t0
 refine wcr (asg R R (wnt (wcs (wcr (mv R R (bdO t0 fun v1 hv1 t0 => (wlc (cz0 fa_45 R fun w hw => c_impl_MembersOk w a_list v0a (ra r0 hw) hv1) R fun _ => (wlq (po_not R) R (wnt (wcO t0 R (fun h1 t0 => ?_) fun h1 t0 => ?_))))))))))
 refine wcr (asg R R (wnt (wct (wqr ?_))))
 obtain rfl := oi t0
 exact wq1 R R fun w hw => ⟨hn, R, hw.weak (zc pick_nil zn)⟩
 refine wck (wqt (wcr (wle (ebs R sb_23_0) R fun b1 => (asg R R (wnt (wcs (wcr (mv R R (wlq (pln (rga r0) el_32 R) R (mv R R (wnt (gdO t0 fun g1 t0 => (lpO_inv t0 fun y1 l1 t0 => (wj (J := List Int) (X := Hd) (fun z => y1 = z) (fun _ x => [(5, (sl x))]) (fun z x => [ownF (sl x) z]) ?_ ?_))))))))))))))
 refine wcb (wcf (X := Hd) l1 (fun k1 s1 x1l => [(1, iv a_year), (5, (sl x1l)), (12, (sl v0a)), (13, iv ((a_list.length : Nat) : Int)), (14, iv ((k1 : Nat) : Int))]) (fun k1 s1 x1l => [ownF (sl x1l) s1]) (⟨some ⟨b1, 0, none⟩, 0, 0⟩ : Hd) (su5 R R R R R) (zc (pbo pz (n := 0) (xs := ([] : List Int)) R R (by unfold maxLen; omega)) zn) fun k1 s1 x1l hN1 l1 => ?_)
 by_cases hk1 : k1 < a_list.length
 refine fos l1 hk1 fun _ t1 l1 => ?_
 unfold impl_GoodStanding_L1 at t1
 have c1 : (decide (((k1 : Nat) : Int) < ((a_list.length : Nat) : Int))) = true := ddt (by omega)
 refine wcr (wlq (pls R R) R (wnt (wcs (wft R c1 (wck (wqt (wcs (wcb (wcr (wlq (po_ixn (k := k1) (rga r0) el_32 R R hk1) R (wlq (v := .agg #[iv ((gx a_list k1).Number), iv ((gx a_list k1).Since), iv ((gx a_list k1).Paid)]) (po_ldfs (rga r0) tk_85 R hk1 R R R) R (wle (eal (cs := [iv 0, iv 0, iv 0]) za_85) R fun b2 => (wls (sbx (cs' := [iv ((gx a_list k1).Number), iv ((gx a_list k1).Since), iv ((gx a_list k1).Paid)]) tk_85 pz R R R R R R R) (wnt (wcr (wlq (pof fo_85_2 R) R (wlq (v := iv ((gx a_list k1).Paid)) (plx tk_3 pz R R) R (mv R R (wlq (po_geq R R) R (wnt (bdO t1 fun y2 t2 t1 => (wj (J := List Int) (X := Hd) (fun z => y2 = z) (fun _ x => [(1, iv a_year), (5, (sl x)), (12, (sl v0a)), (13, iv ((a_list.length : Nat) : Int)), (14, iv ((k1 : Nat) : Int))]) (fun z x => [ownF (sl x) z]) ?_ ?_))))))))))))))))))))))
 refine wcO t2 R (fun h2 t2 => ?_) fun h2 t2 => ?_
 refine wcg (mv R R (wlq (pof fo_85_0 R) R (wlq (v := iv ((gx a_list k1).Number)) (plx tk_3 pz R R) R (wle (ebs R (sb_23_1 ((gx a_list k1).Number))) R fun b3 => (gdO t2 fun g2 t2 => (wle (eo_append (xs := s1) (ys := ([(gx a_list k1).Number] : List Int)) ak_23 pk2 R R (slin_rd fun _ g => Rg.on (rgo (pbo pz (n := 1) (xs := ([(gx a_list k1).Number] : List Int)) R R (by unfold maxLen; omega))) g) g2) R fun x3 => ?_))))))
 exact asg R R (wln (wjm _ x3 (mtE t2) (su5 R R R R R) so1))
 exact wck (wjm _ x1l (mtE t2) (su5 R R R R R) (zc pk1 zn))
 intro j1 x2 hp
 obtain rfl : j1 = y2 := hp.symm
 refine wqb (wqt (wcg (wlq (po_inc R R (by omega)) R ?_)))
 exact mv R R (wln (wq_rnd hk1 (stpN l1 t1) x2 (su5 R R R R R) so1))
 have c1 : (decide (((k1 : Nat) : Int) < ((a_list.length : Nat) : Int))) = false := ddf (by omega)
 have en1 := foe l1 hk1
 exact wcr (wlq (pls R R) R (wnt (wcs (wff R c1 (wcx (wqe (wqe (wbx (wjm _ x1l (Sum.inl.inj en1) (su1 R) so1)))))))))
 intro e1 x1 hp
 obtain rfl : e1 = y1 := hp.symm
 refine wqt (wcr (mv R R (asg R R (wnt (wct ?_)))))
 obtain rfl := oi t0
 exact wq1 R R fun w hw => ⟨x1, R, hw.weak so1⟩

theorem c_impl_SwapRounds (w : World) (a_g : GGuild) (v0a : Hd) (r0 : rdF w (dm w []) (sl v0a) a_g.Members) (v1a : Hd) (_r1 : rdF w (dm w []) (sl v1a) a_g.Stock) (v2a : Hd) (u2a : List Value) (_r2 : RdL w (dm w []) (sl v2a) u2a a_g.Entries) (v3a : Hd) (_r3 : rdF w (dm w []) (sl v3a) a_g.Books) {r : Int} (t0 : impl_SwapRounds a_g = some r) : Calls Tryz.prog 51 #[.agg #[(sl v0a), (sl v1a), (sl v2a), (sl v3a), .int .i64 a_g.Round, .int .i64 a_g.Year]] w fun e w' => e = .returned (.int .i64 r) ∧ SH w [] [] w' := by
 refine cwc (args := [_]) Tryz.func51 R Tryz.ntmps51 R ?_
 unfold impl_SwapRounds at t0
 refine wcr (wle (eo_box R R) R fun b1 => (asg R R (wnt (wcs (wcr (wlq (pof fo_36_0 R) R (wlq (v := (sl v0a)) (plx tk_32 pz R R) R (wlq (pof fo_36_5 R) R (wlq (v := iv a_g.Year) (plx tk_3 pz R R) R (bdO t0 fun v1 hv1 t0 => (wlc (cz1 fa_74 R fun w hw => c_impl_GoodStanding w a_g.Members v0a (ra r0 hw) a_g.Year hv1) R fun x1 => (wlq (pln (rgo pz) el_23 R) R (asg R R (wnt (wcr (mv R R (bdO t0 fun v2 hv2 t0 => (wlc (cz0 fa_50 R fun w hw => c_impl_within w ((v1.length : Nat) : Int) 2 10 hv2) R fun _ => (wnt (wcO t0 R (fun h1 t0 => ?_) fun h1 t0 => ?_))))))))))))))))))))
 refine wcr (mv R R (wlq (po_sub R R) R (asg R R (wnt (wct (wqr ?_))))))
 obtain rfl := oi t0
 exact wq1 R R fun w hw => ⟨R, hw.weak zn⟩
 refine wck (wqt (wcr (asg R R (wnt (wct ?_)))))
 obtain rfl := oi t0
 exact wq1 R R fun w hw => ⟨R, hw.weak zn⟩

theorem c_impl_GuildOk (w : World) (a_g : GGuild) (v0a : Hd) (r0 : rdF w (dm w []) (sl v0a) a_g.Members) (v1a : Hd) (r1 : rdF w (dm w []) (sl v1a) a_g.Stock) (v2a : Hd) (u2a : List Value) (r2 : RdL w (dm w []) (sl v2a) u2a a_g.Entries) (v3a : Hd) (r3 : rdF w (dm w []) (sl v3a) a_g.Books) {r : Bool} (t0 : impl_GuildOk a_g = some r) : Calls Tryz.prog 25 #[.agg #[(sl v0a), (sl v1a), (sl v2a), (sl v3a), .int .i64 a_g.Round, .int .i64 a_g.Year]] w fun e w' => e = .returned (.bool r) ∧ SH w [] [] w' := by
 refine cwc (args := [_]) Tryz.func25 R Tryz.ntmps25 R ?_
 unfold impl_GuildOk at t0
 refine wcr (wle (eo_box R R) R fun b1 => (asg R R (wnt (wcs (wcs (bdO t0 fun y1 t1 t0 => (wj (J := Bool) (X := Unit) (fun z => y1 = z) (fun z _ => [(1, ptr b1 0), (26, .bool z)]) (fun _ _ => [box b1 [(sl v0a), (sl v1a), (sl v2a), (sl v3a), iv a_g.Round, iv a_g.Year]]) ?_ ?_)))))))
 refine wcg (wlq (pof fo_36_0 R) R (wlq (v := (sl v0a)) (plx tk_32 pz R R) R (bdO t1 fun v1 hv1 t1 => (wlc (cz0 fa_45 R fun w hw => c_impl_MembersOk w a_g.Members v0a (ra r0 hw) hv1) R fun _ => (wlq (po_not R) R (mv R R (wlo (t := 9) t1 R (fun h1 t1 => ?_) fun h1 t1 => ?_)))))))
 exact wgf (j := 4) R R R R R (wgf (j := 4) R R R R R (wgf (j := 4) R R R R R (wgf (j := 4) R R R R R (wlq (pit R R) R (mv R R (wgf (j := 10) R R R R R (wgf (j := 10) R R R R R (wgf (j := 10) R R R R R (wgf (j := 10) R R R R R (wlq (pit R R) R (mv R R (wgf (j := 16) R R R R R (wgf (j := 16) R R R R R (wgf (j := 16) R R R R R (wgf (j := 16) R R R R R (wlq (pit R R) R (wln (wjm _ () (mtE t1) (su2 R R) so1))))))))))))))))))
 refine wgn (j := 4) R R R (wlq (pof fo_36_1 R) R (wgn (j := 4) R R R (wlq (v := (sl v1a)) (plx tk_23 pz R R) R (bdO t1 fun v2 hv2 t1 => (wgn (j := 4) R R R (wlc (cz0 fa_46 R fun w hw => c_impl_StockOk w a_g.Stock v1a (ra r1 hw) hv2) R (fun _ => (wgn (j := 4) R R R (wlq (po_not R) R (wlq (pif R R) R (mv R R (wlo (t := 15) t1 R (fun h2 t1 => ?_) fun h2 t1 => ?_))))))))))))
 exact wgf (j := 10) R R R R R (wgf (j := 10) R R R R R (wgf (j := 10) R R R R R (wgf (j := 10) R R R R R (wlq (pit R R) R (mv R R (wgf (j := 16) R R R R R (wgf (j := 16) R R R R R (wgf (j := 16) R R R R R (wgf (j := 16) R R R R R (wlq (pit R R) R (wln (wjm _ () (mtE t1) (su2 R R) so1))))))))))))
 refine wgn (j := 10) R R R (wlq (pof fo_36_3 R) R (wgn (j := 10) R R R (wlq (v := (sl v3a)) (plx tk_34 pz R R) R (bdO t1 fun v3 hv3 t1 => (wgn (j := 10) R R R (wlc (cz0 fa_47 R fun w hw => c_impl_LedgerOk w a_g.Books v3a (ra r3 hw) hv3) R (fun _ => (wgn (j := 10) R R R (wlq (po_not R) R (wlq (pif R R) R (mv R R (wlo (t := 21) t1 R (fun h3 t1 => ?_) fun h3 t1 => ?_))))))))))))
 exact wgf (j := 16) R R R R R (wgf (j := 16) R R R R R (wgf (j := 16) R R R R R (wgf (j := 16) R R R R R (wlq (pit R R) R (wln (wjm _ () (mtE t1) (su2 R R) so1))))))
 exact wgn (j := 16) R R R (wlq (pof fo_36_2 R) R (wgn (j := 16) R R R (wlq (v := (sl v2a)) (plx tk_33 pz R R) R (wgn (j := 16) R R R (wlq (pln (rga r2) el_33 R) R (wgn (j := 16) R R R (wlq (po_gtr R R) R (wlq (pif R R) R (wln (wjm _ () (mtE t1) (su2 R R) so1))))))))))
 intro j1 _ hp
 obtain rfl : j1 = y1 := hp.symm
 refine wqt (wcO t0 R (fun h4 t0 => ?_) fun h4 t0 => ?_)
 refine wcr (asg R R (wnt (wct (wqr ?_))))
 obtain rfl := oi t0
 exact wq1 R R fun w hw => ⟨R, hw.weak zn⟩
 refine wck (wqt (wcs (wcr (wlq (pof fo_36_2 R) R (wlq (v := (sl v2a)) (plx tk_33 pz R R) R (wlq (pln (rga r2) el_33 R) R (mv R R (wnt (gdO t0 fun g1 t0 => (sqO t0 fun y1 l1 t0 => (wj (J := Unit) (X := Unit) (fun z => y1 = .inl z) (fun _ _ => [(1, ptr b1 0)]) (fun _ _ => [box b1 [(sl v0a), (sl v1a), (sl v2a), (sl v3a), iv a_g.Round, iv a_g.Year]]) ?_ ?_)))))))))))
 refine wcb (wcf (X := Unit) l1 (fun k1 s1 x1l => [(1, ptr b1 0), (28, (sl v2a)), (29, iv ((a_g.Entries.length : Nat) : Int)), (30, iv ((k1 : Nat) : Int))]) (fun k1 s1 x1l => [box b1 [(sl v0a), (sl v1a), (sl v2a), (sl v3a), iv a_g.Round, iv a_g.Year]]) () (su4 R R R R) so1 fun k1 s1 x1l hN1 l1 => ?_)
 by_cases hk1 : k1 < a_g.Entries.length
 refine fos l1 hk1 fun _ t1 l1 => ?_
 unfold impl_GuildOk_L1 at t1
 have c1 : (decide (((k1 : Nat) : Int) < ((a_g.Entries.length : Nat) : Int))) = true := ddt (by omega)
 refine wcr (wlq (pls R R) R (wnt (wcs (wft R c1 (wck (wqt (wcs (wcb (wcr (mv R R (wlq (po_ixn (k := k1) (rga r2) el_33 R R hk1) R (wl_elem (rga r2) hk1 ?_))))))))))))
 rintro ⟨_, _, he1⟩
 obtain ⟨w1, hc1, _⟩ := rd_GEntry.1 he1
 refine wlq (v := .agg #[iv ((gx a_g.Entries k1).Owner), iv ((gx a_g.Entries k1).Day), iv (((gx a_g.Entries k1).Block).Size), (sl w1)]) (po_ldns (rga r2) tk_77 R hc1 R R R) R (wle (eal (cs := [iv 0, iv 0, iv 0, (sl hn)]) za_77) R fun b2 => (asg R R (wls (sbx (cs' := [iv ((gx a_g.Entries k1).Owner), iv ((gx a_g.Entries k1).Day), iv (((gx a_g.Entries k1).Block).Size), (sl w1)]) tk_77 pz R R R R R R R) (wnt (wcs (bdO t1 fun y2 t2 t1 => (wj (J := Bool) (X := Unit) (fun z => y2 = z) (fun z _ => [(1, ptr b1 0), (28, (sl v2a)), (29, iv ((a_g.Entries.length : Nat) : Int)), (30, iv ((k1 : Nat) : Int)), (61, .bool z)]) (fun _ _ => [box b1 [(sl v0a), (sl v1a), (sl v2a), (sl v3a), iv a_g.Round, iv a_g.Year]]) ?_ ?_)))))))
 refine wcd [box b2 [iv ((gx a_g.Entries k1).Owner), iv ((gx a_g.Entries k1).Day), iv (((gx a_g.Entries k1).Block).Size), (sl w1)], box b1 [(sl v0a), (sl v1a), (sl v2a), (sl v3a), iv a_g.Round, iv a_g.Year]] 27 mixed (aq (v := .agg #[iv ((gx a_g.Entries k1).Owner), iv ((gx a_g.Entries k1).Day), iv (((gx a_g.Entries k1).Block).Size), (sl w1)]) 0 R (plb tk_77 pz R R R) so2 R (a1 1 (bdO t2 fun v4 hv4 t2 => (wsc R (cz0 fa_48 R fun w hw => c_impl_EntryOk w (GEntry.mk ((gx a_g.Entries k1).Owner) ((gx a_g.Entries k1).Day) ((gx a_g.Entries k1).Block)) w1 (Rg.on (er_GEntry_0 hc1 (rga r2) hk1) hw) hv4) (fun _ => (zt so2)) R fun _ => (aq 2 R (po_not R) so2 R (aq 3 R (pom R) so2 R (waO_ (t := 38) t2 R (fun h5 t2 => ?_) fun h5 t2 => ?_)))))))
 exact af 4 3 R R R R R so2 R (af 5 3 R R R R R so2 R (af 6 3 R R R R R so2 R (af 7 3 R R R R R so2 R (af 8 3 R R R R R so2 R (af 9 3 R R R R R so2 R (aq 10 R (pit R R) so2 R (aq 11 R (pom R) so2 R (af 12 11 R R R R R so2 R (af 13 11 R R R R R so2 R (af 14 11 R R R R R so2 R (au 15 14 R R R R so2 R (au 16 14 R R R R so2 R (au 17 14 R R R R so2 R (au 18 14 R R R R so2 R (au 19 14 R R R R so2 R (au 20 14 R R R R so2 R (au 21 14 R R R R so2 R (au 22 14 R R R R so2 R (au 23 14 R R R R so2 R (au 24 14 R R R R so2 R (af 25 11 R R R R R so2 R (aq 26 R (pit R R) so2 R (ae (wjm _ () (mtE t2) (su5 R R R R R) (zc pk1 zn)))))))))))))))))))))))))
 refine an 4 3 R R R R (pof fo_36_0 R) so2 R (an (v := (sl v0a)) 5 3 R R R R (plx tk_32 pk1 R R) so2 R (an 6 3 R R R R (pof fo_77_0 R) so2 R (an (v := iv ((gx a_g.Entries k1).Owner)) 7 3 R R R R (plx tk_3 pz R R) so2 R (a1 8 (bdO t2 fun v5 hv5 t2 => (ws_call_on (j := 3) R R R R (cz0 fa_49 R fun w hw => c_impl_isMember w a_g.Members v0a (ra r0 hw) ((gx a_g.Entries k1).Owner) hv5) (fun _ => (zt so2)) R fun _ => (an 9 3 R R R R (po_not R) so2 R (aq 10 R (pif R R) so2 R (aq 11 R (pom R) so2 R (waO_ (t := 46) t2 R (fun h6 t2 => ?_) fun h6 t2 => ?_))))))))))
 exact af 12 11 R R R R R so2 R (af 13 11 R R R R R so2 R (af 14 11 R R R R R so2 R (au 15 14 R R R R so2 R (au 16 14 R R R R so2 R (au 17 14 R R R R so2 R (au 18 14 R R R R so2 R (au 19 14 R R R R so2 R (au 20 14 R R R R so2 R (au 21 14 R R R R so2 R (au 22 14 R R R R so2 R (au 23 14 R R R R so2 R (au 24 14 R R R R so2 R (af 25 11 R R R R R so2 R (aq 26 R (pit R R) so2 R (ae (wjm _ () (mtE t2) (su5 R R R R R) (zc pk1 zn)))))))))))))))))
 refine an 12 11 R R R R (pom R) so2 R (an 13 11 R R R R (po_gtr R R) so2 R (an 14 11 R R R R (pom R) so2 R (waO_ (t := 49) t2 R (fun h7 t2 => ?_) fun h7 t2 => ?_)))
 refine an 15 14 R R R R (pof fo_77_1 R) so2 R (an (v := iv ((gx a_g.Entries k1).Day)) 16 14 R R R R (plx tk_3 pz R R) so2 R (an 17 14 R R R R (pof fo_36_2 R) so2 R (an (v := (sl v2a)) 18 14 R R R R (plx tk_33 pk1 R R) so2 R (an 19 14 R R R R (pom R) so2 R (an 20 14 R R R R (po_sub R R) so2 R (gdO t2 fun g2 t2 => (an 21 14 R R R R (po_ixr (rga r2) el_33 R R g2.1 g2.2) so2 R (an 22 14 R R R R (po_sfldr (rga r2) (ix_lt g2) fo_77_1 R) so2 R (wa_elem (rga r2) (ix_lt g2) ?_)))))))))
 rintro ⟨_, _, he2⟩
 obtain ⟨w2, hc2, _⟩ := rd_GEntry.1 he2
 exact an (v := iv ((gx a_g.Entries (((wr (((k1 : Nat) : Int) - 1))).toNat)).Day)) 23 14 R R R R (po_ldn (rga r2) tk_3 R hc2 R) so2 R (an 24 14 R R R R (pls R R) so2 R (an 25 11 R R R R (pit R R) so2 R (aq 26 R (pif R R) so2 R (ae (wjm _ () (mtE t2) (su5 R R R R R) (zc pk1 zn))))))
 exact af 15 14 R R R R R so2 R (af 16 14 R R R R R so2 R (af 17 14 R R R R R so2 R (af 18 14 R R R R R so2 R (af 19 14 R R R R R so2 R (af 20 14 R R R R R so2 R (af 21 14 R R R R R so2 R (af 22 14 R R R R R so2 R (af 23 14 R R R R R so2 R (af 24 14 R R R R R so2 R (an 25 11 R R R R (pif R R) so2 R (aq 26 R (pif R R) so2 R (ae (wjm _ () (mtE t2) (su5 R R R R R) (zc pk1 zn))))))))))))))
 intro j2 _ hp
 obtain rfl : j2 = y2 := hp.symm
 refine wqt (wcO t1 R (fun h8 t1 => ?_) fun h8 t1 => ?_)
 refine wcr (asg R R (wnt (wct (wbr (wqr (wqr (wbr (wqr (wqr ?_)))))))))
 replace t0 := lpR t0 l1 t1
 obtain rfl := oi t0
 exact wq1 R R fun w hw => ⟨R, hw.weak zn⟩
 refine wck (wqb (wqt (wcg (wlq (po_inc R R (by omega)) R ?_))))
 exact mv R R (wln (wq_rnd hk1 (stpN l1 t1) () (su4 R R R R) so1))
 have c1 : (decide (((k1 : Nat) : Int) < ((a_g.Entries.length : Nat) : Int))) = false := ddf (by omega)
 have en1 := foe l1 hk1
 exact wcr (wlq (pls R R) R (wnt (wcs (wff R c1 (wcx (wqe (wqe (wbx (wjm _ () en1 (su1 R) so1)))))))))
 intro e1 _ hp
 replace t0 := sqE (j := e1) t0 hp
 refine wqt (wcs (bdO t0 fun y1 t1 t0 => (wj (J := Bool) (X := Unit) (fun z => y1 = z) (fun z _ => [(2, .bool z)]) (fun _ _ => []) ?_ ?_)))
 refine wcd [box b1 [(sl v0a), (sl v1a), (sl v2a), (sl v3a), iv a_g.Round, iv a_g.Year]] 11 mixed (aq 0 R (pof fo_36_5 R) so1 R (aq (v := iv a_g.Year) 1 R (plx tk_3 pz R R) so1 R (a1 2 (bdO t1 fun v6 hv6 t1 => (wsc R (cz0 fa_50 R fun w hw => c_impl_within w a_g.Year 1900 2999 hv6) (fun _ => (zt so1)) R fun _ => (aq 3 R (pom R) so1 R (waO_ (t := 66) t1 R (fun h9 t1 => ?_) fun h9 t1 => ?_)))))))
 exact an 4 3 R R R R (pof fo_36_4 R) so1 R (an (v := iv a_g.Round) 5 3 R R R R (plx tk_3 pz R R) so1 R (an (v := .agg #[(sl v0a), (sl v1a), (sl v2a), (sl v3a), iv a_g.Round, iv a_g.Year]) 6 3 R R R R (plb tk_36 pz R R R) so1 R (a1 7 (bdO t1 fun v7 hv7 t1 => (ws_call_on (j := 3) R R R R (cz0 fa_51 R fun w hw => c_impl_SwapRounds w a_g v0a (ra r0 hw) v1a (ra r1 hw) v2a u2a (ra r2 hw) v3a (ra r3 hw) hv7) (fun _ => (zt so1)) R fun _ => (a1 8 (bdO t1 fun v8 hv8 t1 => (ws_call_on (j := 3) R R R R (cz0 fa_50 R fun w hw => c_impl_within w a_g.Round 0 v7 hv8) (fun _ => (zt so1)) R fun _ => (aq 9 R (pit R R) so1 R (aq 10 R (po_assign R) so1 R (ae (wjm _ () (mtE t1) (su1 R) zn))))))))))))
 exact af 4 3 R R R R R so1 R (af 5 3 R R R R R so1 R (af 6 3 R R R R R so1 R (af 7 3 R R R R R so1 R (af 8 3 R R R R R so1 R (aq 9 R (pif R R) so1 R (aq 10 R (po_assign R) so1 R (ae (wjm _ () (mtE t1) (su1 R) zn))))))))
 intro j3 _ hp
 obtain rfl : j3 = y1 := hp.symm
 refine wqt (wct ?_)
 obtain rfl := oi t0
 exact wq1 R R fun w hw => ⟨R, hw.weak zn⟩

theorem c_impl_copyMembers (w : World) (a_list : List GMember) (v0a : Hd) (r0 : rdF w (dm w []) (sl v0a) a_list) {r : List GMember} (t0 : impl_copyMembers a_list = some r) : Calls Tryz.prog 75 #[(sl v0a)] w fun e w' => ∃ x : Hd, e = .returned ((sl x)) ∧ SH w [] [ownF (sl x) r] w' := by
 refine cwc (args := [_]) Tryz.func75 R Tryz.ntmps75 R ?_
 unfold impl_copyMembers at t0
 refine wcr (asg R R (wnt (wcr (wle (ebs R sb_32_0) R fun b1 => (mv R R (gdO t0 fun g1 t0 => (wle (eo_append (xs := ([] : List GMember)) (ys := a_list) ak_32 (pbo pz (n := 0) (xs := ([] : List GMember)) R R (by unfold maxLen; omega)) R R (slin_rd fun _ g => Rg.on (rga r0) g) g1) R fun x1 => ?_)))))))
 refine asg R R (wnt (wct ?_))
 obtain rfl := oi t0
 exact wq1 R R fun w hw => ⟨x1, R, hw.weak so1⟩

theorem c_impl_copyOf (w : World) (a_list : List Int) (v0a : Hd) (r0 : rdF w (dm w []) (sl v0a) a_list) {r : List Int} (t0 : impl_copyOf a_list = some r) : Calls Tryz.prog 76 #[(sl v0a)] w fun e w' => ∃ x : Hd, e = .returned ((sl x)) ∧ SH w [] [ownF (sl x) r] w' := by
 refine cwc (args := [_]) Tryz.func76 R Tryz.ntmps76 R ?_
 unfold impl_copyOf at t0
 refine wcr (asg R R (wnt (wcr (wle (ebs R sb_23_0) R fun b1 => (mv R R (gdO t0 fun g1 t0 => (wle (eo_append (xs := ([] : List Int)) (ys := a_list) ak_23 (pbo pz (n := 0) (xs := ([] : List Int)) R R (by unfold maxLen; omega)) R R (slin_rd fun _ g => Rg.on (rga r0) g) g1) R fun x1 => ?_)))))))
 refine asg R R (wnt (wct ?_))
 obtain rfl := oi t0
 exact wq1 R R fun w hw => ⟨x1, R, hw.weak so1⟩

theorem c_impl_Block_copied (w : World) (a_b : GBlock) (v0a : Hd) (r0 : rdF w (dm w []) (sl v0a) a_b.Cells) {r : GBlock} (t0 : impl_Block_copied a_b = some r) : Calls Tryz.prog 77 #[.agg #[.int .i64 a_b.Size, (sl v0a)]] w fun e w' => ∃ x : Hd, e = .returned (.agg #[.int .i64 r.Size, (sl x)]) ∧ SH w [] [ownF (sl x) r.Cells] w' := by
 refine cwc (args := [_]) Tryz.func77 R Tryz.ntmps77 R ?_
 unfold impl_Block_copied at t0
 refine wcr (wle (eo_box R R) R fun b1 => (wle (eal (cs := [iv 0, (sl hn)]) za_75) R fun b2 => (wnt (wcs (wcd [box b2 [iv 0, (sl hn)], box b1 [iv a_b.Size, (sl v0a)]] 7 mixed (aq 0 R (pof fo_75_0 R) so2 R (aq (v := iv a_b.Size) 1 R (plx tk_3 pk1 R R) so2 R (aq 3 R (pof fo_75_1 R) so2 R (aq (v := (sl v0a)) 4 R (plx tk_73 pk1 R R) so2 R (a1 2 (wse R (ebs R sb_73_0) (fun _ => (zt (zc pk1 (zc pk1 zn)))) R fun b3 => (a1 5 (gdO t0 fun g1 t0 => (wse R (eo_append (xs := ([] : List GCell)) (ys := a_b.Cells) ak_73 (pbo pz (n := 0) (xs := ([] : List GCell)) R R (by unfold maxLen; omega)) R R (slin_rd fun _ g => Rg.on (rga r0) g) g1) (fun _ => (zt (zc pk1 (zc pk1 zn)))) R fun x1 => ?_))))))))))))))
 refine aq 6 R (po_build R (bd_75_0_1 a_b.Size x1)) (zc pk1 (zc pk1 zn)) R (a1 7 (ws_skipop R (sbx (cs' := [iv a_b.Size, (sl x1)]) tk_75 pk1 R R R R R R R) (sts_past (by kernel_rfl)) ?_))
 refine ae (wqt (wct ?_))
 obtain rfl := oi t0
 exact wqc R tk_75 R pz R fun w hw => ⟨x1, R, hw.weak (zc pk1 zn)⟩

theorem c_impl_Guild_copied (w : World) (a_g : GGuild) (v0a : Hd) (r0 : rdF w (dm w []) (sl v0a) a_g.Members) (v1a : Hd) (r1 : rdF w (dm w []) (sl v1a) a_g.Stock) (v2a : Hd) (u2a : List Value) (r2 : RdL w (dm w []) (sl v2a) u2a a_g.Entries) (v3a : Hd) (r3 : rdF w (dm w []) (sl v3a) a_g.Books) {r : GGuild} (t0 : impl_Guild_copied a_g = some r) : Calls Tryz.prog 52 #[.agg #[(sl v0a), (sl v1a), (sl v2a), (sl v3a), .int .i64 a_g.Round, .int .i64 a_g.Year]] w fun e w' => ∃ x : Hd × Hd × Hd × (List Value) × Hd, e = .returned (.agg #[(sl x.1), (sl x.2.1), (sl x.2.2.1), (sl x.2.2.2.2), .int .i64 r.Round, .int .i64 r.Year]) ∧ SH w [] [ownF (sl x.1) r.Members, ownF (sl x.2.1) r.Stock, own (sl x.2.2.1) x.2.2.2.1 r.Entries, ownF (sl x.2.2.2.2) r.Books] w' := by
 refine cwc (args := [_]) Tryz.func52 R Tryz.ntmps52 R ?_
 unfold impl_Guild_copied at t0
 refine wcr (wle (eo_box R R) R fun b1 => (wle (eal (cs := [(sl hn), (sl hn), (sl hn), (sl hn), iv 0, iv 0]) za_36) R fun b2 => (wnt (wcs (bdO t0 fun v1 hv1 t0 => (bdO t0 fun v2 hv2 t0 => (gdO t0 fun g1 t0 => (wcj (X := Nat × Hd × Hd × Hd) (fun _ => True) (fun z => [(1, ptr b1 0), (2, ptr b2 0), (3, ptr z.1 0)]) (fun z => [box z.1 [(sl z.2.1), (sl z.2.2.1), (sl hn), (sl z.2.2.2), iv a_g.Round, iv a_g.Year], ownF (sl z.2.2.2) (([] : List GBooking) ++ a_g.Books), ownF (sl z.2.2.1) v2, ownF (sl z.2.1) v1, box b2 [(sl hn), (sl hn), (sl hn), (sl hn), iv 0, iv 0], box b1 [(sl v0a), (sl v1a), (sl v2a), (sl v3a), iv a_g.Round, iv a_g.Year]]) ?_ ?_))))))))
 refine wcd [box b2 [(sl hn), (sl hn), (sl hn), (sl hn), iv 0, iv 0], box b1 [(sl v0a), (sl v1a), (sl v2a), (sl v3a), iv a_g.Round, iv a_g.Year]] 16 mixed (wa_dag [⟨7, #[true, true, false, true, true, false, false, true, true, false, true, true, true, true, false, false, false], Unit, fun _ => [(1, ptr b1 0), (2, ptr b2 0), (7, (sl v0a)), (10, (sl v1a)), (14, (sl v3a)), (17, iv a_g.Round), (19, iv a_g.Year)], fun _ => [box b2 [(sl hn), (sl hn), (sl hn), (sl hn), iv 0, iv 0], box b1 [(sl v0a), (sl v1a), (sl v2a), (sl v3a), iv a_g.Round, iv a_g.Year]]⟩, ⟨6, #[true, true, true, true, true, false, false, true, true, false, true, true, true, true, false, false, false], Hd, fun z => [(1, ptr b1 0), (2, ptr b2 0), (8, (sl z)), (10, (sl v1a)), (14, (sl v3a)), (17, iv a_g.Round), (19, iv a_g.Year)], fun z => [ownF (sl z) v1, box b2 [(sl hn), (sl hn), (sl hn), (sl hn), iv 0, iv 0], box b1 [(sl v0a), (sl v1a), (sl v2a), (sl v3a), iv a_g.Round, iv a_g.Year]]⟩, ⟨6, #[true, true, false, true, true, false, true, true, true, false, true, true, true, true, false, false, false], Nat, fun z => [(1, ptr b1 0), (2, ptr b2 0), (7, (sl v0a)), (10, (sl v1a)), (12, (sl (⟨some ⟨z, 0, none⟩, 0, 0⟩ : Hd))), (14, (sl v3a)), (17, iv a_g.Round), (19, iv a_g.Year)], fun z => [box z [], box b2 [(sl hn), (sl hn), (sl hn), (sl hn), iv 0, iv 0], box b1 [(sl v0a), (sl v1a), (sl v2a), (sl v3a), iv a_g.Round, iv a_g.Year]]⟩, ⟨6, #[true, true, false, true, true, false, false, true, true, false, true, true, true, true, false, true, false], Nat, fun z => [(1, ptr b1 0), (2, ptr b2 0), (3, ptr z 0), (7, (sl v0a)), (10, (sl v1a)), (14, (sl v3a)), (17, iv a_g.Round), (19, iv a_g.Year)], fun z => [box z [(sl hn), (sl hn), (sl hn), (sl hn), iv 0, iv 0], box b2 [(sl hn), (sl hn), (sl hn), (sl hn), iv 0, iv 0], box b1 [(sl v0a), (sl v1a), (sl v2a), (sl v3a), iv a_g.Round, iv a_g.Year]]⟩, ⟨5, #[true, true, true, true, true, true, false, true, true, false, true, true, true, true, false, false, false], Hd × Hd, fun z => [(1, ptr b1 0), (2, ptr b2 0), (8, (sl z.1)), (11, (sl z.2)), (14, (sl v3a)), (17, iv a_g.Round), (19, iv a_g.Year)], fun z => [ownF (sl z.2) v2, ownF (sl z.1) v1, box b2 [(sl hn), (sl hn), (sl hn), (sl hn), iv 0, iv 0], box b1 [(sl v0a), (sl v1a), (sl v2a), (sl v3a), iv a_g.Round, iv a_g.Year]]⟩, ⟨5, #[true, true, true, true, true, false, true, true, true, false, true, true, true, true, false, false, false], Hd × Nat, fun z => [(1, ptr b1 0), (2, ptr b2 0), (8, (sl z.1)), (10, (sl v1a)), (12, (sl (⟨some ⟨z.2, 0, none⟩, 0, 0⟩ : Hd))), (14, (sl v3a)), (17, iv a_g.Round), (19, iv a_g.Year)], fun z => [box z.2 [], ownF (sl z.1) v1, box b2 [(sl hn), (sl hn), (sl hn), (sl hn), iv 0, iv 0], box b1 [(sl v0a), (sl v1a), (sl v2a), (sl v3a), iv a_g.Round, iv a_g.Year]]⟩, ⟨5, #[true, true, true, true, true, false, false, true, true, false, true, true, true, true, false, true, false], Nat × Hd, fun z => [(1, ptr b1 0), (2, ptr b2 0), (3, ptr z.1 0), (8, (sl z.2)), (10, (sl v1a)), (14, (sl v3a)), (17, iv a_g.Round), (19, iv a_g.Year)], fun z => [box z.1 [(sl hn), (sl hn), (sl hn), (sl hn), iv 0, iv 0], ownF (sl z.2) v1, box b2 [(sl hn), (sl hn), (sl hn), (sl hn), iv 0, iv 0], box b1 [(sl v0a), (sl v1a), (sl v2a), (sl v3a), iv a_g.Round, iv a_g.Year]]⟩, ⟨5, #[true, true, false, true, true, false, true, true, true, false, true, true, true, true, false, true, false], Nat × Nat, fun z => [(1, ptr b1 0), (2, ptr b2 0), (3, ptr z.1 0), (7, (sl v0a)), (10, (sl v1a)), (12, (sl (⟨some ⟨z.2, 0, none⟩, 0, 0⟩ : Hd))), (14, (sl v3a)), (17, iv a_g.Round), (19, iv a_g.Year)], fun z => [box z.1 [(sl hn), (sl hn), (sl hn), (sl hn), iv 0, iv 0], box z.2 [], box b2 [(sl hn), (sl hn), (sl hn), (sl hn), iv 0, iv 0], box b1 [(sl v0a), (sl v1a), (sl v2a), (sl v3a), iv a_g.Round, iv a_g.Year]]⟩, ⟨4, #[true, true, true, true, true, true, true, true, true, false, true, true, true, true, false, false, false], Hd × Hd × Nat, fun z => [(1, ptr b1 0), (2, ptr b2 0), (8, (sl z.1)), (11, (sl z.2.1)), (12, (sl (⟨some ⟨z.2.2, 0, none⟩, 0, 0⟩ : Hd))), (14, (sl v3a)), (17, iv a_g.Round), (19, iv a_g.Year)], fun z => [box z.2.2 [], ownF (sl z.2.1) v2, ownF (sl z.1) v1, box b2 [(sl hn), (sl hn), (sl hn), (sl hn), iv 0, iv 0], box b1 [(sl v0a), (sl v1a), (sl v2a), (sl v3a), iv a_g.Round, iv a_g.Year]]⟩, ⟨4, #[true, true, true, true, true, true, false, true, true, false, true, true, true, true, false, true, false], Nat × Hd × Hd, fun z => [(1, ptr b1 0), (2, ptr b2 0), (3, ptr z.1 0), (8, (sl z.2.1)), (11, (sl z.2.2)), (14, (sl v3a)), (17, iv a_g.Round), (19, iv a_g.Year)], fun z => [box z.1 [(sl hn), (sl hn), (sl hn), (sl hn), iv 0, iv 0], ownF (sl z.2.2) v2, ownF (sl z.2.1) v1, box b2 [(sl hn), (sl hn), (sl hn), (sl hn), iv 0, iv 0], box b1 [(sl v0a), (sl v1a), (sl v2a), (sl v3a), iv a_g.Round, iv a_g.Year]]⟩, ⟨4, #[true, true, true, true, true, false, true, true, true, false, true, true, true, true, false, true, false], Nat × Hd × Nat, fun z => [(1, ptr b1 0), (2, ptr b2 0), (3, ptr z.1 0), (8, (sl z.2.1)), (10, (sl v1a)), (12, (sl (⟨some ⟨z.2.2, 0, none⟩, 0, 0⟩ : Hd))), (14, (sl v3a)), (17, iv a_g.Round), (19, iv a_g.Year)], fun z => [box z.1 [(sl hn), (sl hn), (sl hn), (sl hn), iv 0, iv 0], box z.2.2 [], ownF (sl z.2.1) v1, box b2 [(sl hn), (sl hn), (sl hn), (sl hn), iv 0, iv 0], box b1 [(sl v0a), (sl v1a), (sl v2a), (sl v3a), iv a_g.Round, iv a_g.Year]]⟩, ⟨2, #[true, true, true, true, true, true, true, true, true, true, true, true, true, true, true, false, false], Hd × Hd × Hd, fun z => [(1, ptr b1 0), (2, ptr b2 0), (20, .agg #[(sl z.1), (sl z.2.1), (sl hn), (sl z.2.2), iv a_g.Round, iv a_g.Year])], fun z => [ownF (sl z.2.2) (([] : List GBooking) ++ a_g.Books), ownF (sl z.2.1) v2, ownF (sl z.1) v1, box b2 [(sl hn), (sl hn), (sl hn), (sl hn), iv 0, iv 0], box b1 [(sl v0a), (sl v1a), (sl v2a), (sl v3a), iv a_g.Round, iv a_g.Year]]⟩, ⟨3, #[true, true, true, true, true, true, true, true, true, false, true, true, true, true, false, true, false], Nat × Hd × Hd × Nat, fun z => [(1, ptr b1 0), (2, ptr b2 0), (3, ptr z.1 0), (8, (sl z.2.1)), (11, (sl z.2.2.1)), (12, (sl (⟨some ⟨z.2.2.2, 0, none⟩, 0, 0⟩ : Hd))), (14, (sl v3a)), (17, iv a_g.Round), (19, iv a_g.Year)], fun z => [box z.1 [(sl hn), (sl hn), (sl hn), (sl hn), iv 0, iv 0], box z.2.2.2 [], ownF (sl z.2.2.1) v2, ownF (sl z.2.1) v1, box b2 [(sl hn), (sl hn), (sl hn), (sl hn), iv 0, iv 0], box b1 [(sl v0a), (sl v1a), (sl v2a), (sl v3a), iv a_g.Round, iv a_g.Year]]⟩, ⟨1, #[true, true, true, true, true, true, true, true, true, true, true, true, true, true, true, true, false], Nat × Hd × Hd × Hd, fun z => [(1, ptr b1 0), (2, ptr b2 0), (3, ptr z.1 0), (20, .agg #[(sl z.2.1), (sl z.2.2.1), (sl hn), (sl z.2.2.2), iv a_g.Round, iv a_g.Year])], fun z => [box z.1 [(sl hn), (sl hn), (sl hn), (sl hn), iv 0, iv 0], ownF (sl z.2.2.2) (([] : List GBooking) ++ a_g.Books), ownF (sl z.2.2.1) v2, ownF (sl z.2.1) v1, box b2 [(sl hn), (sl hn), (sl hn), (sl hn), iv 0, iv 0], box b1 [(sl v0a), (sl v1a), (sl v2a), (sl v3a), iv a_g.Round, iv a_g.Year]]⟩] ?_ fun H => ?_)
 refine List.forall_mem_cons.2 ⟨fun H => ?_, ?_⟩
 intro _
 dsimp only
 refine wa_3 (i := 2) (j := 6) (k := 15) (by kernel_rfl) ?_ ?_ ?_
 exact wsc R (cz1 fa_75 R fun w hw => c_impl_copyMembers w a_g.Members v0a (ra r0 hw) hv1) (fun _ => (zt (zc pk1 (zc pk1 zn)))) R fun x2o => waj H 1 R (nl R) x2o R R (su7 R R R R R R R) so3
 exact wse R (ebs R sb_34_0) (fun _ => (zt (zc pk1 (zc pk1 zn)))) R fun b6o => waj H 2 R (nl R) b6o R R (su8 R R R R R R R R) so3
 exact wse R (eal (cs := [(sl hn), (sl hn), (sl hn), (sl hn), iv 0, iv 0]) za_36) (fun _ => (zt (zc pk1 (zc pk1 zn)))) R fun b15o => waj H 3 R (nl R) b15o R R (su8 R R R R R R R R) so3
 refine List.forall_mem_cons.2 ⟨fun H => ?_, ?_⟩
 intro z
 dsimp only
 refine wa_3 (i := 5) (j := 6) (k := 15) (by kernel_rfl) ?_ ?_ ?_
 exact wsc R (cz1 fa_76 R fun w hw => c_impl_copyOf w a_g.Stock v1a (ra r1 hw) hv2) (fun _ => (zt (zc pk2 (zc pk2 zn)))) R fun x5o => waj H 4 R (nl R) (z, x5o) R R (su7 R R R R R R R) so4
 exact wse R (ebs R sb_34_0) (fun _ => (zt (zc pk2 (zc pk2 zn)))) R fun b6o => waj H 5 R (nl R) (z, b6o) R R (su8 R R R R R R R R) so4
 exact wse R (eal (cs := [(sl hn), (sl hn), (sl hn), (sl hn), iv 0, iv 0]) za_36) (fun _ => (zt (zc pk2 (zc pk2 zn)))) R fun b15o => waj H 6 R (nl R) (b15o, z) R R (su8 R R R R R R R R) so4
 refine List.forall_mem_cons.2 ⟨fun H => ?_, ?_⟩
 intro z
 dsimp only
 refine wa_2 (i := 2) (j := 15) (by kernel_rfl) ?_ ?_
 exact wsc R (cz1 fa_75 R fun w hw => c_impl_copyMembers w a_g.Members v0a (ra r0 hw) hv1) (fun _ => (zt (zc pk2 (zc pk2 zn)))) R fun x2o => waj H 5 R (nl R) (x2o, z) R R (su8 R R R R R R R R) (zc pk1 so3)
 exact wse R (eal (cs := [(sl hn), (sl hn), (sl hn), (sl hn), iv 0, iv 0]) za_36) (fun _ => (zt (zc pk2 (zc pk2 zn)))) R fun b15o => waj H 7 R (nl R) (b15o, z) R R (su9 R R R R R R R R R) so4
 refine List.forall_mem_cons.2 ⟨fun H => ?_, ?_⟩
 intro z
 dsimp only
 refine wa_2 (i := 2) (j := 6) (by kernel_rfl) ?_ ?_
 exact wsc R (cz1 fa_75 R fun w hw => c_impl_copyMembers w a_g.Members v0a (ra r0 hw) hv1) (fun _ => (zt (zc pk2 (zc pk2 zn)))) R fun x2o => waj H 6 R (nl R) (z, x2o) R R (su8 R R R R R R R R) (zc pk1 so3)
 exact wse R (ebs R sb_34_0) (fun _ => (zt (zc pk2 (zc pk2 zn)))) R fun b6o => waj H 7 R (nl R) (z, b6o) R R (su9 R R R R R R R R R) (zc pk1 so3)
 refine List.forall_mem_cons.2 ⟨fun H => ?_, ?_⟩
 intro z
 dsimp only
 refine wa_2 (i := 6) (j := 15) (by kernel_rfl) ?_ ?_
 exact wse R (ebs R sb_34_0) (fun _ => (zt (zc pk3 (zc pk3 zn)))) R fun b6o => waj H 8 R (nl R) (z.1, z.2, b6o) R R (su8 R R R R R R R R) so5
 exact wse R (eal (cs := [(sl hn), (sl hn), (sl hn), (sl hn), iv 0, iv 0]) za_36) (fun _ => (zt (zc pk3 (zc pk3 zn)))) R fun b15o => waj H 9 R (nl R) (b15o, z.1, z.2) R R (su8 R R R R R R R R) so5
 refine List.forall_mem_cons.2 ⟨fun H => ?_, ?_⟩
 intro z
 dsimp only
 refine wa_2 (i := 5) (j := 15) (by kernel_rfl) ?_ ?_
 exact wsc R (cz1 fa_76 R fun w hw => c_impl_copyOf w a_g.Stock v1a (ra r1 hw) hv2) (fun _ => (zt (zc pk3 (zc pk3 zn)))) R fun x5o => waj H 8 R (nl R) (z.1, x5o, z.2) R R (su8 R R R R R R R R) (zc pk1 so4)
 exact wse R (eal (cs := [(sl hn), (sl hn), (sl hn), (sl hn), iv 0, iv 0]) za_36) (fun _ => (zt (zc pk3 (zc pk3 zn)))) R fun b15o => waj H 10 R (nl R) (b15o, z.1, z.2) R R (su9 R R R R R R R R R) so5
 refine List.forall_mem_cons.2 ⟨fun H => ?_, ?_⟩
 intro z
 dsimp only
 refine wa_2 (i := 5) (j := 6) (by kernel_rfl) ?_ ?_
 exact wsc R (cz1 fa_76 R fun w hw => c_impl_copyOf w a_g.Stock v1a (ra r1 hw) hv2) (fun _ => (zt (zc pk3 (zc pk3 zn)))) R fun x5o => waj H 9 R (nl R) (z.1, z.2, x5o) R R (su8 R R R R R R R R) (zc pk1 so4)
 exact wse R (ebs R sb_34_0) (fun _ => (zt (zc pk3 (zc pk3 zn)))) R fun b6o => waj H 10 R (nl R) (z.1, z.2, b6o) R R (su9 R R R R R R R R R) (zc pk1 so4)
 refine List.forall_mem_cons.2 ⟨fun H => ?_, ?_⟩
 intro z
 dsimp only
 exact a1 2 (wsc R (cz1 fa_75 R fun w hw => c_impl_copyMembers w a_g.Members v0a (ra r0 hw) hv1) (fun _ => (zt (zc pk3 (zc pk3 zn)))) R fun x2o => (waj H 10 R (nl R) (z.1, x2o, z.2) R R (su9 R R R R R R R R R) (zc pk1 (zc pk1 so3))))
 refine List.forall_mem_cons.2 ⟨fun H => ?_, ?_⟩
 intro z
 dsimp only
 refine wa_2 (i := 9) (j := 15) (by kernel_rfl) ?_ ?_
 refine wse R (eo_append (xs := ([] : List GBooking)) (ys := a_g.Books) ak_34 (pbo pz (n := 0) (xs := ([] : List GBooking)) R R (by unfold maxLen; omega)) R R (slin_rd fun _ g => Rg.on (rga r3) g) g1) (fun _ => (zt (zc pk3 (zc pk3 zn)))) R fun x9o => ?_
 exact aq 14 R (po_build R (bd_36_0_1_3_4_5 z.1 z.2.1 x9o a_g.Round a_g.Year)) (zc pk3 (zc pk3 zn)) R (waj H 11 R (nl R) (z.1, z.2.1, x9o) R R (su3 R R R) so5)
 exact wse R (eal (cs := [(sl hn), (sl hn), (sl hn), (sl hn), iv 0, iv 0]) za_36) (fun _ => (zt (zc pk4 (zc pk4 zn)))) R fun b15o => waj H 12 R (nl R) (b15o, z.1, z.2.1, z.2.2) R R (su9 R R R R R R R R R) so6
 refine List.forall_mem_cons.2 ⟨fun H => ?_, ?_⟩
 intro z
 dsimp only
 exact a1 6 (wse R (ebs R sb_34_0) (fun _ => (zt (zc pk4 (zc pk4 zn)))) R fun b6o => (waj H 12 R (nl R) (z.1, z.2.1, z.2.2, b6o) R R (su9 R R R R R R R R R) (zc pk1 so5)))
 refine List.forall_mem_cons.2 ⟨fun H => ?_, ?_⟩
 intro z
 dsimp only
 exact a1 5 (wsc R (cz1 fa_76 R fun w hw => c_impl_copyOf w a_g.Stock v1a (ra r1 hw) hv2) (fun _ => (zt (zc pk4 (zc pk4 zn)))) R fun x5o => (waj H 12 R (nl R) (z.1, z.2.1, x5o, z.2.2) R R (su9 R R R R R R R R R) (zc pk1 (zc pk1 so4))))
 refine List.forall_mem_cons.2 ⟨fun H => ?_, ?_⟩
 intro z
 dsimp only
 exact a1 15 (wse R (eal (cs := [(sl hn), (sl hn), (sl hn), (sl hn), iv 0, iv 0]) za_36) (fun _ => (zt (zc pk4 (zc pk4 zn)))) R fun b15o => (waj H 13 R (nl R) (b15o, z.1, z.2.1, z.2.2) R R (su4 R R R R) so6))
 refine List.forall_mem_cons.2 ⟨fun H => ?_, ?_⟩
 intro z
 dsimp only
 refine a1 9 (wse R (eo_append (xs := ([] : List GBooking)) (ys := a_g.Books) ak_34 (pbo pk1 (n := 0) (xs := ([] : List GBooking)) R R (by unfold maxLen; omega)) R R (slin_rd fun _ g => Rg.on (rga r3) g) g1) (fun _ => (zt (zc pk4 (zc pk4 zn)))) R fun x9o => ?_)
 exact aq 14 R (po_build R (bd_36_0_1_3_4_5 z.2.1 z.2.2.1 x9o a_g.Round a_g.Year)) (zc pk4 (zc pk4 zn)) R (waj H 13 R (nl R) (z.1, z.2.1, z.2.2.1, x9o) R R (su4 R R R R) (zc pk1 so5))
 refine List.forall_mem_cons.2 ⟨fun H => ?_, ?_⟩
 intro z
 dsimp only
 refine a1 16 (ws_skipop R (sbx (cs' := [(sl z.2.1), (sl z.2.2.1), (sl hn), (sl z.2.2.2), iv a_g.Round, iv a_g.Year]) tk_36 pz R R R R R R R) (sts_past (by kernel_rfl)) ?_)
 exact ae (wqm (z.1, z.2.1, z.2.2.1, z.2.2.2) trivial (su3 R R R) so6)
 exact fun _ h => nomatch h
 exact aq 0 R (pof fo_36_0 R) so2 R (aq (v := (sl v0a)) 1 R (plx tk_32 pk1 R R) so2 R (aq 3 R (pof fo_36_1 R) so2 R (aq (v := (sl v1a)) 4 R (plx tk_23 pk1 R R) so2 R (aq 7 R (pof fo_36_3 R) so2 R (aq (v := (sl v3a)) 8 R (plx tk_34 pk1 R R) so2 R (aq 10 R (pof fo_36_4 R) so2 R (aq (v := iv a_g.Round) 11 R (plx tk_3 pk1 R R) so2 R (aq 12 R (pof fo_36_5 R) so2 R (aq (v := iv a_g.Year) 13 R (plx tk_3 pk1 R R) so2 R (waj H 0 R (nl R) () R R (su7 R R R R R R R) so2))))))))))
 intro x1 _
 refine wqt (wcs (wcr (wlq (pof fo_36_2 R) R (wlq (v := (sl v2a)) (plx tk_33 pk5 R R) R (wlq (pln (rga r2) el_33 R) R (mv R R (wnt (gdO t0 fun g2 t0 => (lpO_inv t0 fun y1 l1 t0 => (wj (J := List GEntry) (X := Hd × (List Value)) (fun z => y1 = z) (fun _ _ => [(2, ptr b2 0), (3, ptr x1.1 0)]) (fun z x => [box x1.1 [(sl x1.2.1), (sl x1.2.2.1), (sl x.1), (sl x1.2.2.2), iv a_g.Round, iv a_g.Year], ownF (sl x1.2.2.2) (([] : List GBooking) ++ a_g.Books), ownF (sl x1.2.2.1) v2, ownF (sl x1.2.1) v1, box b2 [(sl hn), (sl hn), (sl hn), (sl hn), iv 0, iv 0], own (sl x.1) x.2 z]) ?_ ?_))))))))))
 refine wcb (wcf (X := Hd × (List Value)) l1 (fun k1 s1 x1l => [(2, ptr b2 0), (3, ptr x1.1 0), (22, (sl v2a)), (23, iv ((a_g.Entries.length : Nat) : Int)), (24, iv ((k1 : Nat) : Int))]) (fun k1 s1 x1l => [box x1.1 [(sl x1.2.1), (sl x1.2.2.1), (sl x1l.1), (sl x1.2.2.2), iv a_g.Round, iv a_g.Year], ownF (sl x1.2.2.2) (([] : List GBooking) ++ a_g.Books), ownF (sl x1.2.2.1) v2, ownF (sl x1.2.1) v1, box b2 [(sl hn), (sl hn), (sl hn), (sl hn), iv 0, iv 0], own (sl x1l.1) x1l.2 s1]) (hn, []) (su5 R R R R R) (zc pz (zc pz (zc pz (zc pz (zc pz (zc pick_nil zn)))))) fun k1 s1 x1l hN1 l1 => ?_)
 by_cases hk1 : k1 < a_g.Entries.length
 refine fos l1 hk1 fun _ t1 l1 => ?_
 unfold impl_Guild_copied_L1 at t1
 have c1 : (decide (((k1 : Nat) : Int) < ((a_g.Entries.length : Nat) : Int))) = true := ddt (by omega)
 refine wcr (wlq (pls R R) R (wnt (wcs (wft R c1 (wck (wqt (wcs (wcb (wcr (wlq (po_ixn (k := k1) (rga r2) el_33 R R hk1) R (wl_elem (rga r2) hk1 ?_)))))))))))
 rintro ⟨_, _, he1⟩
 obtain ⟨w1, hc1, _⟩ := rd_GEntry.1 he1
 refine wlq (v := .agg #[iv ((gx a_g.Entries k1).Owner), iv ((gx a_g.Entries k1).Day), iv (((gx a_g.Entries k1).Block).Size), (sl w1)]) (po_ldns (rga r2) tk_77 R hc1 R R R) R (wle (eal (cs := [iv 0, iv 0, iv 0, (sl hn)]) za_77) R fun b3 => (wls (sbx (cs' := [iv ((gx a_g.Entries k1).Owner), iv ((gx a_g.Entries k1).Day), iv (((gx a_g.Entries k1).Block).Size), (sl w1)]) tk_77 pz R R R R R R R) (wnt (wcd [box b3 [iv ((gx a_g.Entries k1).Owner), iv ((gx a_g.Entries k1).Day), iv (((gx a_g.Entries k1).Block).Size), (sl w1)], box x1.1 [(sl x1.2.1), (sl x1.2.2.1), (sl x1l.1), (sl x1.2.2.2), iv a_g.Round, iv a_g.Year], ownF (sl x1.2.2.2) (([] : List GBooking) ++ a_g.Books), ownF (sl x1.2.2.1) v2, ownF (sl x1.2.1) v1, box b2 [(sl hn), (sl hn), (sl hn), (sl hn), iv 0, iv 0]] 13 mixed (aq 0 R (pof fo_36_2 R) so6 R (aq (v := (sl x1l.1)) 1 R (plx tk_33 pk1 R R) so6 R (aq 2 R (pof fo_77_0 R) so6 R (aq (v := iv ((gx a_g.Entries k1).Owner)) 3 R (plx tk_3 pz R R) so6 R (aq 4 R (pof fo_77_1 R) so6 R (aq (v := iv ((gx a_g.Entries k1).Day)) 5 R (plx tk_3 pz R R) so6 R (aq 6 R (pof fo_77_2 R) so6 R (aq (v := .agg #[iv (((gx a_g.Entries k1).Block).Size), (sl w1)]) 7 R (plb tk_75 pz R R R) so6 R (a1 8 (bdO t1 fun v3 hv3 t1 => (wsc R (cz1 fa_77 R fun w hw => c_impl_Block_copied w ((gx a_g.Entries k1).Block) w1 (Rg.on (er_GEntry_0 hc1 (rga r2) hk1) hw) hv3) (fun _ => (zt (zc pk1 (zc pk1 (zc pk1 (zc pk1 (zc pk1 (zc pk1 zn)))))))) R fun x3 => (aq 9 R (po_build R (bd_77_0_1_2 ((gx a_g.Entries k1).Owner) ((gx a_g.Entries k1).Day) v3.Size x3)) (zc pk1 (zc pk1 (zc pk1 (zc pk1 (zc pk1 (zc pk1 zn)))))) R (a1 10 (wse R (ebs R (sb_33_1 ((gx a_g.Entries k1).Owner) ((gx a_g.Entries k1).Day) v3.Size x3)) (fun _ => (zt (zc pk2 (zc pk2 (zc pk2 (zc pk2 (zc pk2 (zc pk2 zn)))))))) R fun b4 => (a1 11 (gdO t1 fun g3 t1 => (wse R (eo_append_one (us := x1l.2) (xs := s1) ak_33 pk8 (pow_GEntry (x := (GEntry.mk ((gx a_g.Entries k1).Owner) ((gx a_g.Entries k1).Day) v3)) pk1) pz R R R g3) (fun _ => (zt (zc pk2 (zc pk2 (zc pk2 (zc pk2 (zc pk2 (zc pk2 zn)))))))) R fun x4 => (aq 12 R (pof fo_36_2 R) (zc pk2 (zc pk2 (zc pk2 (zc pk2 (zc pk2 (zc pk2 zn)))))) R (a1 13 (ws_skipop R (sbx (cs' := [(sl x1.2.1), (sl x1.2.2.1), (sl x4), (sl x1.2.2.2), iv a_g.Round, iv a_g.Year]) tk_33 pk3 R R R R R R R) (sts_past (by kernel_rfl)) ?_))))))))))))))))))))))))
 refine ae (wqb (wqt (wcg (wlq (po_inc R R (by omega)) R ?_))))
 exact mv R R (wln (wq_rnd hk1 (stpN l1 t1) (x4, (x1l.2 ++ [iv ((gx a_g.Entries k1).Owner), iv ((gx a_g.Entries k1).Day), iv v3.Size, (sl x3)])) (su5 R R R R R) (zc pz (zc pk3 (zc pk3 (zc pk3 (zc pk3 so1)))))))
 have c1 : (decide (((k1 : Nat) : Int) < ((a_g.Entries.length : Nat) : Int))) = false := ddf (by omega)
 have en1 := foe l1 hk1
 exact wcr (wlq (pls R R) R (wnt (wcs (wff R c1 (wcx (wqe (wqe (wbx (wjm _ (x1l.1, x1l.2) (Sum.inl.inj en1) (su2 R R) so6)))))))))
 intro e1 x2 hp
 obtain rfl : e1 = y1 := hp.symm
 refine wqt (wcr (wlq (v := .agg #[(sl x1.2.1), (sl x1.2.2.1), (sl x2.1), (sl x1.2.2.2), iv a_g.Round, iv a_g.Year]) (plb tk_36 pz R R R) R (wls (sbx (cs' := [(sl x1.2.1), (sl x1.2.2.1), (sl x2.1), (sl x1.2.2.2), iv a_g.Round, iv a_g.Year]) tk_36 pk4 R R R R R R R) (wnt (wct ?_)))))
 obtain rfl := oi t0
 exact wqc R tk_36 R pz R fun w hw => ⟨(x1.2.1, x1.2.2.1, x2.1, x2.2, x1.2.2.2), R, hw.weak (zc pk4 (zc pk3 (zc pk3 (zc pk2 zn))))⟩

end Go.Proofs.YtmkmlnfkokfmaabGreatDoor
