/-
 Each Go function computes its Lean function (part 3).
-/
import Derived.Test.YtkahnmhkfmjomacGreatDoorWalks2
namespace Go.Proofs.YtkahnmhkfmjomacGreatDoor
open Go Go.RowKit Go.Proofs
set_option maxRecDepth 100000

theorem c_laws_FnExactFormatGuild (w : World) (ht : Tb w) (a_aG : GGuild) (v0a : Hd) (r0 : rdF w (dm w []) (sl v0a) a_aG.Members) (v1a : Hd) (r1 : rdF w (dm w []) (sl v1a) a_aG.Stock) (v2a : Hd) (u2a : List Value) (r2 : RdL w (dm w []) (sl v2a) u2a a_aG.Entries) (v3a : Hd) (r3 : rdF w (dm w []) (sl v3a) a_aG.Books) {r : Bool} (t0 : laws_FnExactFormatGuild a_aG = some r) : Calls Tryz.prog 3 #[.agg #[(sl v0a), (sl v1a), (sl v2a), (sl v3a), .int .i64 a_aG.Round, .int .i64 a_aG.Year]] w fun e w' => e = .returned (.bool r) ∧ SH w [] [] w' := by
 refine cwc (args := [_]) Tryz.func3 R Tryz.ntmps3 R ?_
 unfold laws_FnExactFormatGuild at t0
 refine wcr (wle (eo_box R R) R fun b1 => (asg R R (wnt (wcr (asg R R (wnt (wcr (wlq (v := .agg #[(sl v0a), (sl v1a), (sl v2a), (sl v3a), iv a_aG.Round, iv a_aG.Year]) (plb tk_27 pz R R R) R (mv R R (bdO t0 fun v1 hv1 t0 => (wlc (cz0 fa_4 R fun w hw => c_laws_szGuild w a_aG v0a (ra r0 hw) v1a (ra r1 hw) v2a u2a (ra r2 hw) v3a (ra r3 hw) 1048576 hv1) R fun _ => (asg R R (wnt (wcs (wcr (mv R R (wlq (pls R R) R (wnt (wcO t0 R (fun h1 t0 => ?_) fun h1 t0 => ?_)))))))))))))))))))
 refine wcr (asg R R (wnt (wct (wqr ?_))))
 obtain rfl := oi t0
 exact wq1 R R fun w hw => ⟨R, hw.weak zn⟩
 refine wck (wqt (wcr (wlq (v := .agg #[(sl v0a), (sl v1a), (sl v2a), (sl v3a), iv a_aG.Round, iv a_aG.Year]) (plb tk_27 pz R R R) R (bdO t0 fun v2 hv2 t0 => (wlc (co_c4 fa_6 R fun w hw => c_laws_toGuild w a_aG v0a (ra r0 hw) v1a (ra r1 hw) v2a u2a (ra r2 hw) v3a (ra r3 hw) hv2) R fun x1 => (bdO t0 fun v3 hv3 t0 => (wlc (cz1 fa_5 R fun w hw => c_spec_FormatGuild w v2 x1.1 (Rg.on (rgo pz) hw) x1.2.1 (Rg.on (rgo pk1) hw) x1.2.2.1 x1.2.2.2.1 (Rg.on (rgo pk2) hw) x1.2.2.2.2 (Rg.on (rgo pk3) hw) hv3) R fun x2 => (asg R R (wnt (wcr (wlq (v := .agg #[(sl v0a), (sl v1a), (sl v2a), (sl v3a), iv a_aG.Round, iv a_aG.Year]) (plb tk_27 pk5 R R R) R (bdO t0 fun v4 hv4 t0 => (wlc (co_c4 fa_6 R fun w hw => c_laws_toGuild w a_aG v0a (ra r0 hw) v1a (ra r1 hw) v2a u2a (ra r2 hw) v3a (ra r3 hw) hv4) R fun x3 => (wle (eal (cs := [(sl hn), (sl hn), (sl hn), (sl hn), iv 0, iv 0]) za_35) R fun b2 => (wls (sbx (cs' := [(sl x3.1), (sl x3.2.1), (sl x3.2.2.1), (sl x3.2.2.2.2), iv v4.Round, iv v4.Year]) tk_35 pz R R R R R R R) (wnt (wcr (wlq (v := .agg #[(sl x3.1), (sl x3.2.1), (sl x3.2.2.1), (sl x3.2.2.2.2), iv v4.Round, iv v4.Year]) (plb tk_35 pz R R R) R (bdO t0 fun v5 hv5 t0 => (wlc (cz1 fa_7 R fun w hw => c_impl_FormatGuild w (hw.tab ht) v4 x3.1 (Rg.on (rgo pk1) hw) x3.2.1 (Rg.on (rgo pk2) hw) x3.2.2.1 x3.2.2.2.1 (Rg.on (rgo pk3) hw) x3.2.2.2.2 (Rg.on (rgo pk4) hw) hv5) R fun x4 => (asg R R (wnt (wcs (wcr (mv R R (mv R R (bdO t0 fun v6 hv6 t0 => (wlc (cz0 fa_8 R fun w hw => c_laws_eqStringS w v5 x4 (Rg.on (rgo pz) hw) v3 x2 (Rg.on (rgo pk6) hw) hv6) R fun _ => (wlq (po_not R) R (wnt (wcO t0 R (fun h2 t0 => ?_) fun h2 t0 => ?_)))))))))))))))))))))))))))))))
 refine wcr (asg R R (wnt (wct (wqr ?_))))
 obtain rfl := oi t0
 exact wq1 R R fun w hw => ⟨R, hw.weak zn⟩
 refine wck (wqt (wcs (wcs (wcd [ownF (sl x4) v5, box b2 [(sl x3.1), (sl x3.2.1), (sl x3.2.2.1), (sl x3.2.2.2.2), iv v4.Round, iv v4.Year], ownF (sl x3.1) v4.Members, ownF (sl x3.2.1) v4.Stock, own (sl x3.2.2.1) x3.2.2.2.1 v4.Entries, ownF (sl x3.2.2.2.2) v4.Books, ownF (sl x2) v3, ownF (sl x1.1) v2.Members, ownF (sl x1.2.1) v2.Stock, own (sl x1.2.2.1) x1.2.2.2.1 v2.Entries, ownF (sl x1.2.2.2.2) v2.Books, box b1 [(sl v0a), (sl v1a), (sl v2a), (sl v3a), iv a_aG.Round, iv a_aG.Year]] 5 mixed (aq (v := .agg #[(sl x3.1), (sl x3.2.1), (sl x3.2.2.1), (sl x3.2.2.2.2), iv v4.Round, iv v4.Year]) 0 R (plb tk_35 pk1 R R R) so12 R (aq (v := .agg #[(sl v0a), (sl v1a), (sl v2a), (sl v3a), iv a_aG.Round, iv a_aG.Year]) 1 R (plb tk_27 pk11 R R R) so12 R (a1 2 (bdO t0 fun v7 hv7 t0 => (wsc R (co_c4 fa_6 R fun w hw => c_laws_toGuild w a_aG v0a (ra r0 hw) v1a (ra r1 hw) v2a u2a (ra r2 hw) v3a (ra r3 hw) hv7) (fun _ => (zt (zc pk4 (zc pk4 (zc pk4 (zc pk4 (zc pk4 (zc pk4 (zc pk4 (zc pk4 (zc pk4 (zc pk4 (zc pk4 (zc pk4 zn)))))))))))))) R fun x5 => (a1 3 (bdO t0 fun v8 hv8 t0 => (wsc R (cz0 fa_9 R fun w hw => c_laws_eqGuild w v4 x3.1 (Rg.on (rgo pk6) hw) x3.2.1 (Rg.on (rgo pk7) hw) x3.2.2.1 x3.2.2.2.1 (Rg.on (rgo pk8) hw) x3.2.2.2.2 (Rg.on (rgo pk9) hw) v7 x5.1 (Rg.on (rgo pz) hw) x5.2.1 (Rg.on (rgo pk1) hw) x5.2.2.1 x5.2.2.2.1 (Rg.on (rgo pk2) hw) x5.2.2.2.2 (Rg.on (rgo pk3) hw) hv8) (fun _ => (zt (zc pk4 (zc pk4 (zc pk4 (zc pk4 (zc pk4 (zc pk4 (zc pk4 (zc pk4 (zc pk4 (zc pk4 (zc pk4 (zc pk4 zn)))))))))))))) R fun _ => (aq 4 R (po_not R) (zc pk4 (zc pk4 (zc pk4 (zc pk4 (zc pk4 (zc pk4 (zc pk4 (zc pk4 (zc pk4 (zc pk4 (zc pk4 (zc pk4 zn)))))))))))) R (ae (wqt (wcO t0 R (fun h3 t0 => ?_) fun h3 t0 => ?_))))))))))))))))
 refine wcr (asg R R (wnt (wct (wqr ?_))))
 obtain rfl := oi t0
 exact wq1 R R fun w hw => ⟨R, hw.weak zn⟩
 refine wck (wqt (wcr (asg R R (wnt (wcr (wlq (v := .agg #[(sl x3.1), (sl x3.2.1), (sl x3.2.2.1), (sl x3.2.2.2.2), iv v4.Round, iv v4.Year]) (plb tk_35 pk5 R R R) R (mv R R (bdO t0 fun v9 hv9 t0 => (wlc (co_o4 [ownF (sl x3.1) v4.Members, ownF (sl x3.2.1) v4.Stock, own (sl x3.2.2.1) x3.2.2.2.1 v4.Entries, ownF (sl x3.2.2.2.2) v4.Books] fa_10 (zc pk6 (zc pk6 (zc pk6 (zc pk6 some_refl)))) R fun w fp hw => c_laws_markGuild w fp v4 x3.1 x3.2.1 x3.2.2.1 x3.2.2.2.1 x3.2.2.2.2 1 hw.ow hv9) R fun x6 => (asg R R (wnt (wcs (wcs (bdO t0 fun y1 t1 t0 => (wj (J := Bool) (X := Unit) (fun z => y1 = z) (fun z _ => [(1, ptr b1 0), (4, (sl x2)), (6, (sl x4)), (42, .bool z)]) (fun _ _ => [box b1 [(sl v0a), (sl v1a), (sl v2a), (sl v3a), iv a_aG.Round, iv a_aG.Year], ownF (sl x2) v3, ownF (sl x4) v5]) ?_ ?_)))))))))))))))
 refine wcg (mv R R (wlq (pls R R) R (mv R R (wlo (t := 37) t1 R (fun h4 t1 => ?_) fun h4 t1 => ?_))))
 exact wgf (j := 2) R R R R R (wgf (j := 2) R R R R R (wgf (j := 2) R R R R R (wgf (j := 2) R R R R R (wlq (pit R R) R (wln (wjm _ () (mtE t1) (su4 R R R R) (zc (pickS pk14) (zc pk10 (zc pk8 zn)))))))))
 exact wgn (j := 2) R R R (mv R R (wgn (j := 2) R R R (mv R R (bdO t1 fun v10 hv10 t1 => (wgn (j := 2) R R R (wlc (cz0 fa_8 R fun w hw => c_laws_eqStringS w v5 x4 (Rg.on (rgo pk8) hw) v3 x2 (Rg.on (rgo pk10) hw) hv10) R (fun _ => (wgn (j := 2) R R R (wlq (po_not R) R (wlq (pif R R) R (wln (wjm _ () (mtE t1) (su4 R R R R) (zc (pickS pk14) (zc pk10 (zc pk8 zn)))))))))))))))
 intro j1 _ hp
 obtain rfl : j1 = y1 := hp.symm
 refine wqt (wcO t0 R (fun h5 t0 => ?_) fun h5 t0 => ?_)
 refine wcr (asg R R (wnt (wct (wqr ?_))))
 obtain rfl := oi t0
 exact wq1 R R fun w hw => ⟨R, hw.weak zn⟩
 refine wck (wqt (wcr (asg R R (wnt (wcr (mv R R (mv R R (bdO t0 fun v11 hv11 t0 => (wlc (co_o1 [ownF (sl x4) v5] fa_11 (zc pk2 some_refl) R fun w fp hw => c_laws_markStringS w fp v5 x4 1 hw.ow hv11) R fun _ => (asg R R (wnt (wcr (asg R R (wnt (wcr (mv R R (mv R R (bdO t0 fun v12 hv12 t0 => (wlc (cz0 fa_12 R fun w hw => c_laws_heldStringS w v11.2 x4 (Rg.on (rgo pz) hw) 1 hv12) R fun _ => (asg R R (wnt (wcs (wcr (mv R R (wlq (pls R R) R (wnt (wcO t0 R (fun h6 t0 => ?_) fun h6 t0 => ?_)))))))))))))))))))))))))))
 refine wcr (asg R R (wnt (wct (wqr ?_))))
 obtain rfl := oi t0
 exact wq1 R R fun w hw => ⟨R, hw.weak zn⟩
 refine wck (wqt (wcs (wcr (mv R R (mv R R (wlq (po_neq R R) R (wnt (wcO t0 R (fun h7 t0 => ?_) fun h7 t0 => ?_))))))))
 refine wcr (asg R R (wnt (wct (wqr ?_))))
 obtain rfl := oi t0
 exact wq1 R R fun w hw => ⟨R, hw.weak zn⟩
 refine wck (wqt (wcr (wlq (v := .agg #[(sl v0a), (sl v1a), (sl v2a), (sl v3a), iv a_aG.Round, iv a_aG.Year]) (plb tk_27 pk1 R R R) R (bdO t0 fun v13 hv13 t0 => (wlc (co_c4 fa_6 R fun w hw => c_laws_toGuild w a_aG v0a (ra r0 hw) v1a (ra r1 hw) v2a u2a (ra r2 hw) v3a (ra r3 hw) hv13) R fun x8 => (bdO t0 fun v14 hv14 t0 => (wlc (cz1 fa_7 R fun w hw => c_impl_FormatGuild w (hw.tab ht) v13 x8.1 (Rg.on (rgo pz) hw) x8.2.1 (Rg.on (rgo pk1) hw) x8.2.2.1 x8.2.2.2.1 (Rg.on (rgo pk2) hw) x8.2.2.2.2 (Rg.on (rgo pk3) hw) hv14) R fun x9 => (asg R R (wnt (wcs (wcr (mv R R (mv R R (bdO t0 fun v15 hv15 t0 => (wlc (cz0 fa_8 R fun w hw => c_laws_eqStringS w v14 x9 (Rg.on (rgo pz) hw) v3 x2 (Rg.on (rgo pk7) hw) hv15) R fun _ => (wlq (po_not R) R (wnt (wcO t0 R (fun h8 t0 => ?_) fun h8 t0 => ?_))))))))))))))))))
 refine wcr (asg R R (wnt (wct (wqr ?_))))
 obtain rfl := oi t0
 exact wq1 R R fun w hw => ⟨R, hw.weak zn⟩
 refine wck (wqt (wcr (asg R R (wnt (wcr (mv R R (mv R R (bdO t0 fun v16 hv16 t0 => (wlc (cz0 fa_12 R fun w hw => c_laws_heldStringS w v11.2 x4 (Rg.on (rgo pk5) hw) 1 hv16) R fun _ => (asg R R (wnt (wcs (wcr (mv R R (wlq (pls R R) R (wnt (wcO t0 R (fun h9 t0 => ?_) fun h9 t0 => ?_)))))))))))))))))
 refine wcr (asg R R (wnt (wct (wqr ?_))))
 obtain rfl := oi t0
 exact wq1 R R fun w hw => ⟨R, hw.weak zn⟩
 refine wck (wqt (wcs (wcr (mv R R (mv R R (wlq (po_neq R R) R (wnt (wcO t0 R (fun h10 t0 => ?_) fun h10 t0 => ?_))))))))
 refine wcr (asg R R (wnt (wct (wqr ?_))))
 obtain rfl := oi t0
 exact wq1 R R fun w hw => ⟨R, hw.weak zn⟩
 refine wck (wqt (wcr (asg R R (wnt (wct ?_)))))
 obtain rfl := oi t0
 exact wq1 R R fun w hw => ⟨R, hw.weak zn⟩

end Go.Proofs.YtkahnmhkfmjomacGreatDoor
