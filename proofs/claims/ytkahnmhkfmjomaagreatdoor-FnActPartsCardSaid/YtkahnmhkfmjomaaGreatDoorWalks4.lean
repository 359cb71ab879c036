/-
 Each Go function computes its Lean function (part 4).
-/
import Derived.Test.YtkahnmhkfmjomaaGreatDoorWalks3
namespace Go.Proofs.YtkahnmhkfmjomaaGreatDoor
open Go Go.RowKit Go.Proofs
set_option maxRecDepth 100000

theorem c_impl_GuildOk (w : World) (a_g : GGuild) (v0a : Hd) (r0 : rdF w (dm w []) (sl v0a) a_g.Members) (v1a : Hd) (r1 : rdF w (dm w []) (sl v1a) a_g.Stock) (v2a : Hd) (u2a : List Value) (r2 : RdL w (dm w []) (sl v2a) u2a a_g.Entries) (v3a : Hd) (r3 : rdF w (dm w []) (sl v3a) a_g.Books) {r : Bool} (t0 : impl_GuildOk a_g = some r) : Calls Tryz.prog 16 #[.agg #[(sl v0a), (sl v1a), (sl v2a), (sl v3a), .int .i64 a_g.Round, .int .i64 a_g.Year]] w fun e w' => e = .returned (.bool r) ∧ SH w [] [] w' := by
 refine cwc (args := [_]) Tryz.func16 R Tryz.ntmps16 R ?_
 unfold impl_GuildOk at t0
 refine wcr (wle (eo_box R R) R fun b1 => (asg R R (wnt (wcs (wcs (bdO t0 fun y1 t1 t0 => (wj (J := Bool) (X := Unit) (fun z => y1 = z) (fun z _ => [(1, ptr b1 0), (26, .bool z)]) (fun _ _ => [box b1 [(sl v0a), (sl v1a), (sl v2a), (sl v3a), iv a_g.Round, iv a_g.Year]]) ?_ ?_)))))))
 refine wcg (wlq (pof fo_29_0 R) R (wlq (v := (sl v0a)) (plx tk_24 pz R R) R (bdO t1 fun v1 hv1 t1 => (wlc (cz0 fa_30 R fun w hw => c_impl_MembersOk w a_g.Members v0a (ra r0 hw) hv1) R fun _ => (wlq (po_not R) R (mv R R (wlo (t := 9) t1 R (fun h1 t1 => ?_) fun h1 t1 => ?_)))))))
 exact wgf (j := 4) R R R R R (wgf (j := 4) R R R R R (wgf (j := 4) R R R R R (wgf (j := 4) R R R R R (wlq (pit R R) R (mv R R (wgf (j := 10) R R R R R (wgf (j := 10) R R R R R (wgf (j := 10) R R R R R (wgf (j := 10) R R R R R (wlq (pit R R) R (mv R R (wgf (j := 16) R R R R R (wgf (j := 16) R R R R R (wgf (j := 16) R R R R R (wgf (j := 16) R R R R R (wlq (pit R R) R (wln (wjm _ () (mtE t1) (su2 R R) so1))))))))))))))))))
 refine wgn (j := 4) R R R (wlq (pof fo_29_1 R) R (wgn (j := 4) R R R (wlq (v := (sl v1a)) (plx tk_25 pz R R) R (bdO t1 fun v2 hv2 t1 => (wgn (j := 4) R R R (wlc (cz0 fa_31 R fun w hw => c_impl_StockOk w a_g.Stock v1a (ra r1 hw) hv2) R (fun _ => (wgn (j := 4) R R R (wlq (po_not R) R (wlq (pif R R) R (mv R R (wlo (t := 15) t1 R (fun h2 t1 => ?_) fun h2 t1 => ?_))))))))))))
 exact wgf (j := 10) R R R R R (wgf (j := 10) R R R R R (wgf (j := 10) R R R R R (wgf (j := 10) R R R R R (wlq (pit R R) R (mv R R (wgf (j := 16) R R R R R (wgf (j := 16) R R R R R (wgf (j := 16) R R R R R (wgf (j := 16) R R R R R (wlq (pit R R) R (wln (wjm _ () (mtE t1) (su2 R R) so1))))))))))))
 refine wgn (j := 10) R R R (wlq (pof fo_29_3 R) R (wgn (j := 10) R R R (wlq (v := (sl v3a)) (plx tk_27 pz R R) R (bdO t1 fun v3 hv3 t1 => (wgn (j := 10) R R R (wlc (cz0 fa_32 R fun w hw => c_impl_LedgerOk w a_g.Books v3a (ra r3 hw) hv3) R (fun _ => (wgn (j := 10) R R R (wlq (po_not R) R (wlq (pif R R) R (mv R R (wlo (t := 21) t1 R (fun h3 t1 => ?_) fun h3 t1 => ?_))))))))))))
 exact wgf (j := 16) R R R R R (wgf (j := 16) R R R R R (wgf (j := 16) R R R R R (wgf (j := 16) R R R R R (wlq (pit R R) R (wln (wjm _ () (mtE t1) (su2 R R) so1))))))
 exact wgn (j := 16) R R R (wlq (pof fo_29_2 R) R (wgn (j := 16) R R R (wlq (v := (sl v2a)) (plx tk_26 pz R R) R (wgn (j := 16) R R R (wlq (pln (rga r2) el_26 R) R (wgn (j := 16) R R R (wlq (po_gtr R R) R (wlq (pif R R) R (wln (wjm _ () (mtE t1) (su2 R R) so1))))))))))
 intro j1 _ hp
 obtain rfl : j1 = y1 := hp.symm
 refine wqt (wcO t0 R (fun h4 t0 => ?_) fun h4 t0 => ?_)
 refine wcr (asg R R (wnt (wct (wqr ?_))))
 obtain rfl := oi t0
 exact wq1 R R fun w hw => ⟨R, hw.weak zn⟩
 refine wck (wqt (wcs (wcr (wlq (pof fo_29_2 R) R (wlq (v := (sl v2a)) (plx tk_26 pz R R) R (wlq (pln (rga r2) el_26 R) R (mv R R (wnt (gdO t0 fun g1 t0 => (sqO t0 fun y1 l1 t0 => (wj (J := Unit) (X := Unit) (fun z => y1 = .inl z) (fun _ _ => [(1, ptr b1 0)]) (fun _ _ => [box b1 [(sl v0a), (sl v1a), (sl v2a), (sl v3a), iv a_g.Round, iv a_g.Year]]) ?_ ?_)))))))))))
 refine wcb (wcf (X := Unit) l1 (fun k1 s1 x1l => [(1, ptr b1 0), (28, (sl v2a)), (29, iv ((a_g.Entries.length : Nat) : Int)), (30, iv ((k1 : Nat) : Int))]) (fun k1 s1 x1l => [box b1 [(sl v0a), (sl v1a), (sl v2a), (sl v3a), iv a_g.Round, iv a_g.Year]]) () (su4 R R R R) so1 fun k1 s1 x1l hN1 l1 => ?_)
 by_cases hk1 : k1 < a_g.Entries.length
 refine fos l1 hk1 fun _ t1 l1 => ?_
 unfold impl_GuildOk_L1 at t1
 have c1 : (decide (((k1 : Nat) : Int) < ((a_g.Entries.length : Nat) : Int))) = true := ddt (by omega)
 refine wcr (wlq (pls R R) R (wnt (wcs (wft R c1 (wck (wqt (wcs (wcb (wcr (mv R R (wlq (po_ixn (k := k1) (rga r2) el_26 R R hk1) R (wl_elem (rga r2) hk1 ?_))))))))))))
 rintro ⟨_, _, he1⟩
 obtain ⟨w1, hc1, _⟩ := rd_GEntry.1 he1
 refine wlq (v := .agg #[iv ((gx a_g.Entries k1).Owner), iv ((gx a_g.Entries k1).Day), iv (((gx a_g.Entries k1).Block).Size), (sl w1)]) (po_ldns (rga r2) tk_58 R hc1 R R R) R (wle (eal (cs := [iv 0, iv 0, iv 0, (sl hn)]) za_58) R fun b2 => (asg R R (wls (sbx (cs' := [iv ((gx a_g.Entries k1).Owner), iv ((gx a_g.Entries k1).Day), iv (((gx a_g.Entries k1).Block).Size), (sl w1)]) tk_58 pz R R R R R R R) (wnt (wcs (bdO t1 fun y2 t2 t1 => (wj (J := Bool) (X := Unit) (fun z => y2 = z) (fun z _ => [(1, ptr b1 0), (28, (sl v2a)), (29, iv ((a_g.Entries.length : Nat) : Int)), (30, iv ((k1 : Nat) : Int)), (61, .bool z)]) (fun _ _ => [box b1 [(sl v0a), (sl v1a), (sl v2a), (sl v3a), iv a_g.Round, iv a_g.Year]]) ?_ ?_)))))))
 refine wcd [box b2 [iv ((gx a_g.Entries k1).Owner), iv ((gx a_g.Entries k1).Day), iv (((gx a_g.Entries k1).Block).Size), (sl w1)], box b1 [(sl v0a), (sl v1a), (sl v2a), (sl v3a), iv a_g.Round, iv a_g.Year]] 27 mixed (aq (v := .agg #[iv ((gx a_g.Entries k1).Owner), iv ((gx a_g.Entries k1).Day), iv (((gx a_g.Entries k1).Block).Size), (sl w1)]) 0 R (plb tk_58 pz R R R) so2 R (a1 1 (bdO t2 fun v4 hv4 t2 => (wsc R (cz0 fa_33 R fun w hw => c_impl_EntryOk w (GEntry.mk ((gx a_g.Entries k1).Owner) ((gx a_g.Entries k1).Day) ((gx a_g.Entries k1).Block)) w1 (Rg.on (er_GEntry_0 hc1 (rga r2) hk1) hw) hv4) (fun _ => (zt so2)) R fun _ => (aq 2 R (po_not R) so2 R (aq 3 R (pom R) so2 R (waO_ (t := 38) t2 R (fun h5 t2 => ?_) fun h5 t2 => ?_)))))))
 exact af 4 3 R R R R R so2 R (af 5 3 R R R R R so2 R (af 6 3 R R R R R so2 R (af 7 3 R R R R R so2 R (af 8 3 R R R R R so2 R (af 9 3 R R R R R so2 R (aq 10 R (pit R R) so2 R (aq 11 R (pom R) so2 R (af 12 11 R R R R R so2 R (af 13 11 R R R R R so2 R (af 14 11 R R R R R so2 R (au 15 14 R R R R so2 R (au 16 14 R R R R so2 R (au 17 14 R R R R so2 R (au 18 14 R R R R so2 R (au 19 14 R R R R so2 R (au 20 14 R R R R so2 R (au 21 14 R R R R so2 R (au 22 14 R R R R so2 R (au 23 14 R R R R so2 R (au 24 14 R R R R so2 R (af 25 11 R R R R R so2 R (aq 26 R (pit R R) so2 R (ae (wjm _ () (mtE t2) (su5 R R R R R) (zc pk1 zn)))))))))))))))))))))))))
 refine an 4 3 R R R R (pof fo_29_0 R) so2 R (an (v := (sl v0a)) 5 3 R R R R (plx tk_24 pk1 R R) so2 R (an 6 3 R R R R (pof fo_58_0 R) so2 R (an (v := iv ((gx a_g.Entries k1).Owner)) 7 3 R R R R (plx tk_3 pz R R) so2 R (a1 8 (bdO t2 fun v5 hv5 t2 => (ws_call_on (j := 3) R R R R (cz0 fa_34 R fun w hw => c_impl_isMember w a_g.Members v0a (ra r0 hw) ((gx a_g.Entries k1).Owner) hv5) (fun _ => (zt so2)) R fun _ => (an 9 3 R R R R (po_not R) so2 R (aq 10 R (pif R R) so2 R (aq 11 R (pom R) so2 R (waO_ (t := 46) t2 R (fun h6 t2 => ?_) fun h6 t2 => ?_))))))))))
 exact af 12 11 R R R R R so2 R (af 13 11 R R R R R so2 R (af 14 11 R R R R R so2 R (au 15 14 R R R R so2 R (au 16 14 R R R R so2 R (au 17 14 R R R R so2 R (au 18 14 R R R R so2 R (au 19 14 R R R R so2 R (au 20 14 R R R R so2 R (au 21 14 R R R R so2 R (au 22 14 R R R R so2 R (au 23 14 R R R R so2 R (au 24 14 R R R R so2 R (af 25 11 R R R R R so2 R (aq 26 R (pit R R) so2 R (ae (wjm _ () (mtE t2) (su5 R R R R R) (zc pk1 zn)))))))))))))))))
 refine an 12 11 R R R R (pom R) so2 R (an 13 11 R R R R (po_gtr R R) so2 R (an 14 11 R R R R (pom R) so2 R (waO_ (t := 49) t2 R (fun h7 t2 => ?_) fun h7 t2 => ?_)))
 refine an 15 14 R R R R (pof fo_58_1 R) so2 R (an (v := iv ((gx a_g.Entries k1).Day)) 16 14 R R R R (plx tk_3 pz R R) so2 R (an 17 14 R R R R (pof fo_29_2 R) so2 R (an (v := (sl v2a)) 18 14 R R R R (plx tk_26 pk1 R R) so2 R (an 19 14 R R R R (pom R) so2 R (an 20 14 R R R R (po_sub R R) so2 R (gdO t2 fun g2 t2 => (an 21 14 R R R R (po_ixr (rga r2) el_26 R R g2.1 g2.2) so2 R (an 22 14 R R R R (po_sfldr (rga r2) (ix_lt g2) fo_58_1 R) so2 R (wa_elem (rga r2) (ix_lt g2) ?_)))))))))
 rintro ⟨_, _, he2⟩
 obtain ⟨w2, hc2, _⟩ := rd_GEntry.1 he2
 exact an (v := iv ((gx a_g.Entries (((wr (((k1 : Nat) : Int) - 1))).toNat)).Day)) 23 14 R R R R (po_ldn (rga r2) tk_3 R hc2 R) so2 R (an 24 14 R R R R (pls R R) so2 R (an 25 11 R R R R (pit R R) so2 R (aq 26 R (pif R R) so2 R (ae (wjm _ () (mtE t2) (su5 R R R R R) (zc pk1 zn))))))
 exact af 15 14 R R R R R so2 R (af 16 14 R R R R R so2 R (af 17 14 R R R R R so2 R (af 18 14 R R R R R so2 R (af 19 14 R R R R R so2 R (af 20 14 R R R R R so2 R (af 21 14 R R R R R so2 R (af 22 14 R R R R R so2 R (af 23 14 R R R R R so2 R (af 24 14 R R R R R so2 R (an 25 11 R R R R (pif R R) so2 R (aq 26 R (pif R R) so2 R (ae (wjm _ () (mtE t2) (su5 R R R R R) (zc pk1 zn))))))))))))))
 intro j2 _ hp
 obtain rfl : j2 = y2 := hp.symm
 refine wqt (wcO t1 R (fun h8 t1 => ?_) fun h8 t1 => ?_)
 refine wcr (asg R R (wnt (wct (wbr (wqr (wqr (wbr (wqr (wqr ?_)))))))))
 replace t0 := lpR t0 l1 t1
 obtain rfl := oi t0
 exact wq1 R R fun w hw => ⟨R, hw.weak zn⟩
 refine wck (wqb (wqt (wcg (wlq (po_inc R R (by omega)) R ?_))))
 exact mv R R (wln (wq_rnd hk1 (stpN l1 t1) () (su4 R R R R) so1))
 have c1 : (decide (((k1 : Nat) : Int) < ((a_g.Entries.length : Nat) : Int))) = false := ddf (by omega)
 have en1 := foe l1 hk1
 exact wcr (wlq (pls R R) R (wnt (wcs (wff R c1 (wcx (wqe (wqe (wbx (wjm _ () en1 (su1 R) so1)))))))))
 intro e1 _ hp
 replace t0 := sqE (j := e1) t0 hp
 refine wqt (wcs (bdO t0 fun y1 t1 t0 => (wj (J := Bool) (X := Unit) (fun z => y1 = z) (fun z _ => [(2, .bool z)]) (fun _ _ => []) ?_ ?_)))
 refine wcd [box b1 [(sl v0a), (sl v1a), (sl v2a), (sl v3a), iv a_g.Round, iv a_g.Year]] 11 mixed (aq 0 R (pof fo_29_5 R) so1 R (aq (v := iv a_g.Year) 1 R (plx tk_3 pz R R) so1 R (a1 2 (bdO t1 fun v6 hv6 t1 => (wsc R (cz0 fa_35 R fun w hw => c_impl_within w a_g.Year 1900 2999 hv6) (fun _ => (zt so1)) R fun _ => (aq 3 R (pom R) so1 R (waO_ (t := 66) t1 R (fun h9 t1 => ?_) fun h9 t1 => ?_)))))))
 exact an 4 3 R R R R (pof fo_29_4 R) so1 R (an (v := iv a_g.Round) 5 3 R R R R (plx tk_3 pz R R) so1 R (an (v := .agg #[(sl v0a), (sl v1a), (sl v2a), (sl v3a), iv a_g.Round, iv a_g.Year]) 6 3 R R R R (plb tk_29 pz R R R) so1 R (a1 7 (bdO t1 fun v7 hv7 t1 => (ws_call_on (j := 3) R R R R (cz0 fa_21 R fun w hw => c_impl_SwapRounds w a_g v0a (ra r0 hw) v1a (ra r1 hw) v2a u2a (ra r2 hw) v3a (ra r3 hw) hv7) (fun _ => (zt so1)) R fun _ => (a1 8 (bdO t1 fun v8 hv8 t1 => (ws_call_on (j := 3) R R R R (cz0 fa_35 R fun w hw => c_impl_within w a_g.Round 0 v7 hv8) (fun _ => (zt so1)) R fun _ => (aq 9 R (pit R R) so1 R (aq 10 R (po_assign R) so1 R (ae (wjm _ () (mtE t1) (su1 R) zn))))))))))))
 exact af 4 3 R R R R R so1 R (af 5 3 R R R R R so1 R (af 6 3 R R R R R so1 R (af 7 3 R R R R R so1 R (af 8 3 R R R R R so1 R (aq 9 R (pif R R) so1 R (aq 10 R (po_assign R) so1 R (ae (wjm _ () (mtE t1) (su1 R) zn))))))))
 intro j3 _ hp
 obtain rfl : j3 = y1 := hp.symm
 refine wqt (wct ?_)
 obtain rfl := oi t0
 exact wq1 R R fun w hw => ⟨R, hw.weak zn⟩

theorem c_impl_ActOk (w : World) (a_a : GAct) {r : Bool} (t0 : impl_ActOk a_a = some r) : Calls Tryz.prog 36 #[.agg #[.int .i64 a_a.Kind, .int .i64 a_a.A, .int .i64 a_a.B]] w fun e w' => e = .returned (.bool r) ∧ SH w [] [] w' := by
 refine cwc (args := [_]) Tryz.func36 R Tryz.ntmps36 R ?_
 unfold impl_ActOk at t0
 refine wcr (wle (eo_box R R) R fun b1 => (asg R R (wnt (wcs (wcr (wlq (pof fo_48_0 R) R (wlq (v := iv a_a.Kind) (plx tk_3 pz R R) R (wnt (wcb (wcr (wlq (pol R R) R (asg R R (wnt (wcO t0 R (fun h1 t0 => ?_) fun h1 t0 => ?_))))))))))))))
 refine wcs (bdO t0 fun y1 t1 t0 => (wj (J := Bool) (X := Unit) (fun z => y1 = z) (fun z _ => [(2, .bool z)]) (fun _ _ => []) ?_ ?_))
 refine wcg (wlq (pof fo_48_1 R) R (wlq (v := iv a_a.A) (plx tk_3 pz R R) R (bdO t1 fun v1 hv1 t1 => (wlc (cz0 fa_35 R fun w hw => c_impl_within w a_a.A 1 999 hv1) R fun _ => (mv R R (wlo (t := 10) t1 R (fun h2 t1 => ?_) fun h2 t1 => ?_))))))
 exact wgn (j := 3) R R R (wlq (pof fo_48_2 R) R (wgn (j := 3) R R R (wlq (v := iv a_a.B) (plx tk_3 pz R R) R (wgn (j := 3) R R R (wlq (pol R R) R (wlq (pit R R) R (asg R R (wln (wjm _ () (mtE t1) (su1 R) zn)))))))))
 exact wgf (j := 3) R R R R R (wgf (j := 3) R R R R R (wgf (j := 3) R R R R R (wlq (pif R R) R (asg R R (wln (wjm _ () (mtE t1) (su1 R) zn))))))
 intro j1 _ hp
 obtain rfl : j1 = y1 := hp.symm
 refine wqt (wct (wbr (wqr ?_)))
 obtain rfl := oi t0
 exact wq1 R R fun w hw => ⟨R, hw.weak zn⟩
 refine wcr (wlq (pol R R) R (asg R R (wnt (wcO t0 R (fun h3 t0 => ?_) fun h3 t0 => ?_))))
 refine wcs (bdO t0 fun y1 t1 t0 => (wj (J := Bool) (X := Unit) (fun z => y1 = z) (fun z _ => [(2, .bool z)]) (fun _ _ => []) ?_ ?_))
 refine wcg (wlq (pof fo_48_1 R) R (wlq (v := iv a_a.A) (plx tk_3 pz R R) R (bdO t1 fun v2 hv2 t1 => (wlc (cz0 fa_35 R fun w hw => c_impl_within w a_a.A 1 999 hv2) R fun _ => (mv R R (wlo (t := 20) t1 R (fun h4 t1 => ?_) fun h4 t1 => ?_))))))
 exact wgn (j := 3) R R R (wlq (pof fo_48_2 R) R (wgn (j := 3) R R R (wlq (v := iv a_a.B) (plx tk_3 pz R R) R (bdO t1 fun v3 hv3 t1 => (wgn (j := 3) R R R (wlc (cz0 fa_35 R fun w hw => c_impl_within w a_a.B 0 9 hv3) R (fun _ => (wlq (pit R R) R (asg R R (wln (wjm _ () (mtE t1) (su1 R) zn)))))))))))
 exact wgf (j := 3) R R R R R (wgf (j := 3) R R R R R (wgf (j := 3) R R R R R (wlq (pif R R) R (asg R R (wln (wjm _ () (mtE t1) (su1 R) zn))))))
 intro j2 _ hp
 obtain rfl : j2 = y1 := hp.symm
 refine wqt (wct (wbr (wqr ?_)))
 obtain rfl := oi t0
 exact wq1 R R fun w hw => ⟨R, hw.weak zn⟩
 refine wcs (wcr (wlq (pol R R) R (asg R R (wnt (wcj (X := Unit) (fun _ => True) (fun _ => [(1, ptr b1 0), (25, .bool ((a_a.Kind == 3) || (a_a.Kind == 6)))]) (fun _ => [box b1 [iv a_a.Kind, iv a_a.A, iv a_a.B]]) ?_ ?_)))))
 refine wc_cond R (fun h5 => ?_) fun h5 => ?_
 exact wck (wqm () trivial (yc R (sub_b R (by rw [h5]; rfl) yn)) so1)
 exact wcg (wlq (pol R R) R (asg R R (wln (wqm () trivial (yc R (sub_b R (by rw [h5]; rfl) yn)) so1))))
 intro _ _
 refine wqt (wcO t0 R (fun h6 t0 => ?_) fun h6 t0 => ?_)
 refine wcs (bdO t0 fun y1 t1 t0 => (wj (J := Bool) (X := Unit) (fun z => y1 = z) (fun z _ => [(2, .bool z)]) (fun _ _ => []) ?_ ?_))
 refine wcg (wlq (pof fo_48_1 R) R (wlq (v := iv a_a.A) (plx tk_3 pz R R) R (bdO t1 fun v4 hv4 t1 => (wlc (cz0 fa_35 R fun w hw => c_impl_within w a_a.A 0 9 hv4) R fun _ => (mv R R (wlo (t := 31) t1 R (fun h7 t1 => ?_) fun h7 t1 => ?_))))))
 exact wgn (j := 3) R R R (wlq (pof fo_48_2 R) R (wgn (j := 3) R R R (wlq (v := iv a_a.B) (plx tk_3 pz R R) R (wgn (j := 3) R R R (wlq (pol R R) R (wlq (pit R R) R (asg R R (wln (wjm _ () (mtE t1) (su1 R) zn)))))))))
 exact wgf (j := 3) R R R R R (wgf (j := 3) R R R R R (wgf (j := 3) R R R R R (wlq (pif R R) R (asg R R (wln (wjm _ () (mtE t1) (su1 R) zn))))))
 intro j4 _ hp
 obtain rfl : j4 = y1 := hp.symm
 refine wqt (wct (wbr (wqr ?_)))
 obtain rfl := oi t0
 exact wq1 R R fun w hw => ⟨R, hw.weak zn⟩
 refine wck (wqb (wqt (wcs (wcj (X := Unit) (fun _ => True) (fun _ => [(2, .bool (bif (a_a.Kind == 4) then ((a_a.A == 0) && (a_a.B == 0)) else ((a_a.Kind == 5) && ((a_a.A == 0) && (a_a.B == 0)))))]) (fun _ => []) ?_ ?_))))
 refine wcg (wlq (pof fo_48_0 R) R (wlq (v := iv a_a.Kind) (plx tk_3 pz R R) R (wlq (pol R R) R (mv R R (wl_fork (t := 39) R (fun h8 => ?_) fun h8 => ?_)))))
 refine wgf (j := 3) R R R R R (wgf (j := 3) R R R R R (wgf (j := 3) R R R R R (wlq (pit R R) R (mv R R (wgn (j := 8) R R R (wlq (pof fo_48_1 R) R (wgn (j := 8) R R R (wlq (v := iv a_a.A) (plx tk_3 pz R R) R (wgn (j := 8) R R R (wlq (pol R R) R (wlq (pit R R) R (mv R R (wl_fork (t := 49) R (fun h9 => ?_) fun h9 => ?_)))))))))))))
 exact wgn (j := 13) R R R (wlq (pof fo_48_2 R) R (wgn (j := 13) R R R (wlq (v := iv a_a.B) (plx tk_3 pz R R) R (wgn (j := 13) R R R (wlq (pol R R) R (wlq (pit R R) R (asg R R (wln (wqm () trivial (sub_b R (by rw [h8, h9]; rfl) yn) zn)))))))))
 exact wgf (j := 13) R R R R R (wgf (j := 13) R R R R R (wgf (j := 13) R R R R R (wlq (pif R R) R (asg R R (wln (wqm () trivial (sub_b R (by rw [h8, h9]; rfl) yn) zn))))))
 refine wgn (j := 3) R R R (wlq (pof fo_48_0 R) R (wgn (j := 3) R R R (wlq (v := iv a_a.Kind) (plx tk_3 pz R R) R (wgn (j := 3) R R R (wlq (pol R R) R (wlq (pif R R) R (mv R R (wl_fork (t := 44) R (fun h10 => ?_) fun h10 => ?_))))))))
 refine wgn (j := 8) R R R (wlq (pof fo_48_1 R) R (wgn (j := 8) R R R (wlq (v := iv a_a.A) (plx tk_3 pz R R) R (wgn (j := 8) R R R (wlq (pol R R) R (wlq (pit R R) R (mv R R (wl_fork (t := 49) R (fun h11 => ?_) fun h11 => ?_))))))))
 exact wgn (j := 13) R R R (wlq (pof fo_48_2 R) R (wgn (j := 13) R R R (wlq (v := iv a_a.B) (plx tk_3 pz R R) R (wgn (j := 13) R R R (wlq (pol R R) R (wlq (pit R R) R (asg R R (wln (wqm () trivial (sub_b R (by rw [h8, h10, h11]; rfl) yn) zn)))))))))
 exact wgf (j := 13) R R R R R (wgf (j := 13) R R R R R (wgf (j := 13) R R R R R (wlq (pif R R) R (asg R R (wln (wqm () trivial (sub_b R (by rw [h8, h10, h11]; rfl) yn) zn))))))
 exact wgf (j := 8) R R R R R (wgf (j := 8) R R R R R (wgf (j := 8) R R R R R (wlq (pif R R) R (mv R R (wgf (j := 13) R R R R R (wgf (j := 13) R R R R R (wgf (j := 13) R R R R R (wlq (pif R R) R (asg R R (wln (wqm () trivial (sub_b R (by rw [h8, h10]; rfl) yn) zn)))))))))))
 intro _ _
 refine wqt (wct ?_)
 obtain rfl := oi t0
 exact wq1 R R fun w hw => ⟨R, hw.weak zn⟩

theorem c_impl_JoinGuild (w : World) (a_list : List GMember) (v0a : Hd) (r0 : rdF w (dm w []) (sl v0a) a_list) (a_number : Int) (a_year : Int) {r : (List GMember) × Bool} (t0 : impl_JoinGuild a_list a_number a_year = some r) : Calls Tryz.prog 57 #[(sl v0a), .int .i64 a_number, .int .i64 a_year] w fun e w' => ∃ x : Hd, e = .returned (.tuple #[(sl x), .bool r.2]) ∧ SH w [] [ownF (sl x) r.1] w' := by
 refine cwc (args := [_, _, _]) Tryz.func57 R Tryz.ntmps57 R ?_
 unfold impl_JoinGuild at t0
 refine wcr (asg R R (asg R R (wnt (wcr (wle (ebs R sb_24_0) R fun b1 => (asg R R (asg R R (wnt (wcs (wlO_inv t0 fun y1 l1 t0 => (wj (J := Int) (X := Unit) (fun z => y1 = z) (fun z _ => [(0, (sl v0a)), (1, iv a_number), (2, iv a_year), (8, (sl (⟨some ⟨b1, 0, none⟩, 0, 0⟩ : Hd))), (9, iv z)]) (fun _ _ => [box b1 []]) ?_ ?_)))))))))))
 refine wcb (wc_whO (X := Unit) l1 (fun s1 x1l => [(0, (sl v0a)), (1, iv a_number), (2, iv a_year), (8, (sl (⟨some ⟨b1, 0, none⟩, 0, 0⟩ : Hd))), (9, iv s1)]) (fun s1 x1l => [box b1 []]) () (su5 R R R R R) so1 fun m1 s1 x1l l1 => (whO_step l1 fun _ t1 l1 => ?_))
 unfold impl_JoinGuild_L1 at t1
 refine wcs (wcs (bdO t1 fun y2 t2 t1 => (wj (J := Bool) (X := Unit) (fun z => y2 = z) (fun z _ => [(0, (sl v0a)), (1, iv a_number), (2, iv a_year), (8, (sl (⟨some ⟨b1, 0, none⟩, 0, 0⟩ : Hd))), (9, iv s1), (23, .bool z)]) (fun _ _ => [box b1 []]) ?_ ?_)))
 refine wcg (mv R R (mv R R (wlq (pln (rga r0) el_24 R) R (wlq (pls R R) R (mv R R (wlo (t := 15) t2 R (fun h1 t2 => ?_) fun h1 t2 => ?_))))))
 exact wgn (j := 4) R R R (mv R R (wgn (j := 4) R R R (mv R R (gdO t2 fun g1 t2 => (wgn (j := 4) R R R (wlq (po_ixr (rga r0) el_24 R R g1.1 g1.2) R (wgn (j := 4) R R R (wlq (po_sfldr (rga r0) (ix_lt g1) fo_52_0 R) R (wgn (j := 4) R R R (wlq (v := iv ((gx a_list ((s1).toNat)).Number)) (po_ldf (rga r0) tk_3 R (ix_lt g1) R) R (wgn (j := 4) R R R (mv R R (wgn (j := 4) R R R (wlq (pls R R) R (wlq (pit R R) R (wln (wjm _ () (mtE t2) (su6 R R R R R R) so1)))))))))))))))))
 exact wgf (j := 4) R R R R R (wgf (j := 4) R R R R R (wgf (j := 4) R R R R R (wgf (j := 4) R R R R R (wgf (j := 4) R R R R R (wgf (j := 4) R R R R R (wgf (j := 4) R R R R R (wlq (pif R R) R (wln (wjm _ () (mtE t2) (su6 R R R R R R) so1)))))))))
 intro j1 _ hp
 obtain rfl : j1 = y2 := hp.symm
 refine wqt (wcO t1 R (fun h2 t1 => ?_) fun h2 t1 => ?_)
 exact wck (wqt (wcb (wcg (mv R R (wlq (po_add R R) R (asg R R (wln (wqb (wq_rndw (stwN l1 t1) () (su5 R R R R R) so1)))))))))
 exact wcx (wqe (wqe (wbx (wjm _ () (Sum.inl.inj (stwB l1 t1)) (su5 R R R R R) so1))))
 intro e1 _ hp
 obtain rfl : e1 = y1 := hp.symm
 refine wqt (wcr (mv R R (mv R R (mv R R (gdO t0 fun g2 t0 => (wlq (po_cutr (l := 0) (h := (e1).toNat) (rga r0) el_24 R (.inl ⟨R, R⟩) (.inr ⟨_, R, ixn g2.1⟩) g2.2.1 g2.2.2) R (gdO t0 fun g3 t0 => (wle (eo_append (xs := ([] : List GMember)) (ys := ((a_list.drop 0).take ((e1).toNat - 0))) ak_24 (pbo pz (n := 0) (xs := ([] : List GMember)) R R (by unfold maxLen; omega)) R R (slin_rd fun _ g => Rg.on (rds_cut (rga r0) g2.2.1 g2.2.2) g) g3) R fun x3 => ?_))))))))
 refine mv R R (mv R R (mv R R (wlq (po_sub R R) R (wlq (po_build R (bd_52_0_1_2 a_number a_year (wr (a_year - 1)))) R (wle (ebs R (sb_24_1 a_number a_year (wr (a_year - 1)))) R fun b2 => (gdO t0 fun g4 t0 => (wle (eo_append (xs := (([] : List GMember) ++ ((a_list.drop 0).take ((e1).toNat - 0)))) (ys := ([(GMember.mk a_number a_year (wr (a_year - 1)))] : List GMember)) ak_24 pk1 R R (slin_rd fun _ g => Rg.on (rgo (pbo pz (n := 1) (xs := ([(GMember.mk a_number a_year (wr (a_year - 1)))] : List GMember)) R R (by unfold maxLen; omega))) g) g4) R fun x4 => ?_)))))))
 refine asg R R (wnt (wcr (mv R R (mv R R (mv R R (gdO t0 fun g5 t0 => (wlq (po_cutr (l := (e1).toNat) (h := a_list.length) (rga r0) el_24 R (.inr ⟨_, R, ixn g5.1⟩) (.inl ⟨R, R⟩) g5.2.1 g5.2.2) R (gdO t0 fun g6 t0 => (wle (eo_append (xs := ((([] : List GMember) ++ ((a_list.drop 0).take ((e1).toNat - 0))) ++ [(GMember.mk a_number a_year (wr (a_year - 1)))])) (ys := ((a_list.drop ((e1).toNat)).take (a_list.length - ((e1).toNat)))) ak_24 pz R R (slin_rd fun _ g => Rg.on (rds_cut (rga r0) g5.2.1 g5.2.2) g) g6) R fun x5 => (asg R R (wnt (wcs (wcs (bdO t0 fun y1 t1 t0 => (wj (J := Bool) (X := Unit) (fun z => y1 = z) (fun z _ => [(0, (sl v0a)), (8, (sl x5)), (50, .bool z)]) (fun _ _ => [ownF (sl x5) (((([] : List GMember) ++ ((a_list.drop 0).take ((e1).toNat - 0))) ++ [(GMember.mk a_number a_year (wr (a_year - 1)))]) ++ ((a_list.drop ((e1).toNat)).take (a_list.length - ((e1).toNat))))]) ?_ ?_)))))))))))))))
 refine wcg (mv R R (bdO t1 fun v1 hv1 t1 => (wlc (cz0 fa_30 R fun w hw => c_impl_MembersOk w a_list v0a (ra r0 hw) hv1) R fun _ => (wlq (po_not R) R (mv R R (wlo (t := 46) t1 R (fun h3 t1 => ?_) fun h3 t1 => ?_))))))
 exact wgf (j := 3) R R R R R (wgf (j := 3) R R R R R (wgf (j := 3) R R R R R (wlq (pit R R) R (wln (wjm _ () (mtE t1) (su3 R R R) so1)))))
 exact wgn (j := 3) R R R (mv R R (bdO t1 fun v2 hv2 t1 => (wgn (j := 3) R R R (wlc (cz0 fa_30 R fun w hw => c_impl_MembersOk w (((([] : List GMember) ++ ((a_list.drop 0).take ((e1).toNat - 0))) ++ [(GMember.mk a_number a_year (wr (a_year - 1)))]) ++ ((a_list.drop ((e1).toNat)).take (a_list.length - ((e1).toNat)))) x5 (Rg.on (rgo pz) hw) hv2) R (fun _ => (wgn (j := 3) R R R (wlq (po_not R) R (wlq (pif R R) R (wln (wjm _ () (mtE t1) (su3 R R R) so1))))))))))
 intro j2 _ hp
 obtain rfl : j2 = y1 := hp.symm
 refine wqt (wcO t0 R (fun h4 t0 => ?_) fun h4 t0 => ?_)
 refine wcr (mv R R (bdO t0 fun v3 hv3 t0 => (wlc (cz1 fa_27 R fun w hw => c_impl_copyMembers w a_list v0a (ra r0 hw) hv3) R fun x7 => (asg R R (asg R R (wnt (wct (wqr ?_))))))))
 obtain rfl := oi t0
 exact wq_ret2 R R R fun w hw => ⟨x7, R, hw.weak so1⟩
 refine wck (wqt (wcr (mv R R (asg R R (asg R R (wnt (wct ?_)))))))
 obtain rfl := oi t0
 exact wq_ret2 R R R fun w hw => ⟨x5, R, hw.weak so1⟩

theorem c_impl_PayDues (w : World) (a_list : List GMember) (v0a : Hd) (r0 : rdF w (dm w []) (sl v0a) a_list) (a_number : Int) (a_years : Int) {r : (List GMember) × Bool} (t0 : impl_PayDues a_list a_number a_years = some r) : Calls Tryz.prog 58 #[(sl v0a), .int .i64 a_number, .int .i64 a_years] w fun e w' => ∃ x : Hd, e = .returned (.tuple #[(sl x), .bool r.2]) ∧ SH w [] [ownF (sl x) r.1] w' := by
 refine cwc (args := [_, _, _]) Tryz.func58 R Tryz.ntmps58 R ?_
 unfold impl_PayDues at t0
 refine wcr (asg R R (asg R R (wnt (wcr (mv R R (bdO t0 fun v1 hv1 t0 => (wlc (cz1 fa_27 R fun w hw => c_impl_copyMembers w a_list v0a (ra r0 hw) hv1) R fun x1 => (asg R R (asg R R (wnt (wcs (wcs (bdO t0 fun y1 t1 t0 => (wj (J := Bool) (X := Unit) (fun z => y1 = z) (fun z _ => [(0, (sl v0a)), (1, iv a_number), (2, iv a_years), (8, (sl x1)), (9, .bool false), (20, .bool z)]) (fun _ _ => [ownF (sl x1) v1]) ?_ ?_))))))))))))))
 refine wcg (mv R R (bdO t1 fun v2 hv2 t1 => (wlc (cz0 fa_30 R fun w hw => c_impl_MembersOk w a_list v0a (ra r0 hw) hv2) R fun _ => (wlq (po_not R) R (mv R R (wlo (t := 16) t1 R (fun h1 t1 => ?_) fun h1 t1 => ?_))))))
 exact wgf (j := 3) R R R R R (wgf (j := 3) R R R R R (wgf (j := 3) R R R R R (wlq (pit R R) R (wln (wjm _ () (mtE t1) (su6 R R R R R R) so1)))))
 exact wgn (j := 3) R R R (mv R R (bdO t1 fun v3 hv3 t1 => (wgn (j := 3) R R R (wlc (cz0 fa_35 R fun w hw => c_impl_within w a_years 1 10 hv3) R (fun _ => (wgn (j := 3) R R R (wlq (po_not R) R (wlq (pif R R) R (wln (wjm _ () (mtE t1) (su6 R R R R R R) so1))))))))))
 intro j1 _ hp
 obtain rfl : j1 = y1 := hp.symm
 refine wqt (wcO t0 R (fun h2 t0 => ?_) fun h2 t0 => ?_)
 refine wcr (mv R R (asg R R (asg R R (wnt (wct (wqr ?_))))))
 obtain rfl := oi t0
 exact wq_ret2 R R R fun w hw => ⟨x1, R, hw.weak so1⟩
 refine wck (wqt (wcs (wcr (mv R R (wlq (pln (rgo pz) el_24 R) R (mv R R (wnt (gdO t0 fun g1 t0 => (lpO_inv t0 fun y1 l1 t0 => (wj (J := (List GMember) × Bool) (X := Unit) (fun z => y1 = z) (fun z _ => [(0, (sl v0a)), (8, (sl x1)), (9, .bool z.2)]) (fun z _ => [ownF (sl x1) z.1]) ?_ ?_))))))))))
 refine wcb (wcf (X := Unit) l1 (fun k1 s1 x1l => [(0, (sl v0a)), (1, iv a_number), (2, iv a_years), (8, (sl x1)), (9, .bool s1.2), (23, iv ((v1.length : Nat) : Int)), (24, iv ((k1 : Nat) : Int))]) (fun k1 s1 x1l => [ownF (sl x1) s1.1]) () (su7 R R R R R R R) so1 fun k1 s1 x1l hN1 l1 => ?_)
 by_cases hk1 : k1 < v1.length
 refine fos l1 hk1 fun _ t1 l1 => ?_
 unfold impl_PayDues_L1 at t1
 have c1 : (decide (((k1 : Nat) : Int) < ((v1.length : Nat) : Int))) = true := ddt (by omega)
 refine wcr (wlq (pls R R) R (wnt (wcs (wft R c1 (wck (wqt (wcs (wcb (wcr (mv R R (asg R R (wnt (wcr (mv R R (mv R R (gdO t1 fun g2 t1 => (wlq (po_ixn (k := k1) (rgo pz) el_24 R R g2) R (wlq (po_sfldr (rgo pz) g2 fo_52_0 R) R (wlq (v := iv ((gx s1.1 k1).Number)) (po_ldf (rgo pz) tk_3 R g2 R) R (mv R R (wlq (pol R R) R (wnt (wcj (X := Unit) (fun _ => True) (fun _ => [(0, (sl v0a)), (1, iv a_number), (2, iv a_years), (8, (sl x1)), (9, .bool (((gx s1.1 k1).Number == a_number) || s1.2)), (23, iv ((v1.length : Nat) : Int)), (24, iv ((k1 : Nat) : Int))]) (fun _ => [ownF (sl x1) (bif ((gx s1.1 k1).Number == a_number) then (s1.1.set k1 (GMember.mk ((gx s1.1 k1).Number) ((gx s1.1 k1).Since) (wr ((gx s1.1 k1).Paid + a_years)))) else s1.1)]) ?_ ?_)))))))))))))))))))))))
 refine wc_cond R (fun h3 => ?_) fun h3 => ?_
 exact wcr (mv R R (mv R R (wlq (po_ixn (k := k1) (rgo pz) el_24 R R g2) R (wlq (po_sfldr (rgo pz) g2 fo_52_2 R) R (wlq (v := iv ((gx s1.1 k1).Paid)) (po_ldf (rgo pz) tk_3 R g2 R) R (mv R R (wlq (po_add R R) R (wlq (po_ixn (k := k1) (rgo pz) el_24 R R g2) R (wlq (po_sfldr (rgo pz) g2 fo_52_2 R) R (wls (so_own (x' := (GMember.mk ((gx s1.1 k1).Number) ((gx s1.1 k1).Since) (wr ((gx s1.1 k1).Paid + a_years)))) tk_3 pz R R R R R R g2 R) (wnt (wcg (asg R R (wln (wqm () trivial (yc R (yc R (yc R (yc R (sub_b R (by rw [h3]; rfl) (su2 R R)))))) (zc (by simp only [h3, cond_true]; exact pz) zn))))))))))))))))
 exact wck (wqm () trivial (yc R (yc R (yc R (yc R (sub_b R (by rw [h3]; rfl) (su2 R R)))))) (zc (by simp only [h3, cond_false]; exact pz) zn))
 intro _ _
 refine wqb (wqt (wcg (wlq (po_inc R R (by omega)) R ?_)))
 exact mv R R (wln (wq_rnd hk1 (stpN l1 t1) () (su7 R R R R R R R) so1))
 have c1 : (decide (((k1 : Nat) : Int) < ((v1.length : Nat) : Int))) = false := ddf (by omega)
 have en1 := foe l1 hk1
 exact wcr (wlq (pls R R) R (wnt (wcs (wff R c1 (wcx (wqe (wqe (wbx (wjm _ () (Sum.inl.inj en1) (su3 R R R) so1)))))))))
 intro e1 _ hp
 obtain rfl : e1 = y1 := hp.symm
 refine wqt (wcs (wcs (bdO t0 fun y1 t1 t0 => (wj (J := Bool) (X := Unit) (fun z => y1 = z) (fun z _ => [(0, (sl v0a)), (8, (sl x1)), (50, .bool z)]) (fun _ _ => [ownF (sl x1) e1.1]) ?_ ?_))))
 refine wcg (mv R R (wlq (po_not R) R (mv R R (wlo (t := 46) t1 R (fun h4 t1 => ?_) fun h4 t1 => ?_))))
 exact wgf (j := 2) R R R R R (wgf (j := 2) R R R R R (wgf (j := 2) R R R R R (wlq (pit R R) R (wln (wjm _ () (mtE t1) (su3 R R R) so1)))))
 exact wgn (j := 2) R R R (mv R R (bdO t1 fun v4 hv4 t1 => (wgn (j := 2) R R R (wlc (cz0 fa_30 R fun w hw => c_impl_MembersOk w e1.1 x1 (Rg.on (rgo pz) hw) hv4) R (fun _ => (wgn (j := 2) R R R (wlq (po_not R) R (wlq (pif R R) R (wln (wjm _ () (mtE t1) (su3 R R R) so1))))))))))
 intro j3 _ hp
 obtain rfl : j3 = y1 := hp.symm
 refine wqt (wcO t0 R (fun h5 t0 => ?_) fun h5 t0 => ?_)
 refine wcr (mv R R (bdO t0 fun v5 hv5 t0 => (wlc (cz1 fa_27 R fun w hw => c_impl_copyMembers w a_list v0a (ra r0 hw) hv5) R fun x6 => (asg R R (asg R R (wnt (wct (wqr ?_))))))))
 obtain rfl := oi t0
 exact wq_ret2 R R R fun w hw => ⟨x6, R, hw.weak so1⟩
 refine wck (wqt (wcr (mv R R (asg R R (asg R R (wnt (wct ?_)))))))
 obtain rfl := oi t0
 exact wq_ret2 R R R fun w hw => ⟨x1, R, hw.weak so1⟩

theorem c_impl_BookSum (w : World) (a_list : List GBooking) (v0a : Hd) (r0 : rdF w (dm w []) (sl v0a) a_list) (a_b : GBooking) {r : (List GBooking) × Bool} (t0 : impl_BookSum a_list a_b = some r) : Calls Tryz.prog 59 #[(sl v0a), .agg #[.int .i64 a_b.Day, .int .i64 a_b.From, .int .i64 a_b.To, .int .i64 a_b.Sum]] w fun e w' => ∃ x : Hd, e = .returned (.tuple #[(sl x), .bool r.2]) ∧ SH w [] [ownF (sl x) r.1] w' := by
 refine cwc (args := [_, _]) Tryz.func59 R Tryz.ntmps59 R ?_
 unfold impl_BookSum at t0
 refine wcr (wle (eo_box R R) R fun b1 => (asg R R (asg R R (wnt (wcs (gdO t0 fun g1 t0 => (gdO t0 fun g2 t0 => (wcj (X := Hd) (fun _ => True) (fun z => [(0, (sl v0a)), (6, (sl z))]) (fun z => [ownF (sl z) ((([] : List GBooking) ++ a_list) ++ [a_b])]) ?_ ?_))))))))
 refine wcd [box b1 [iv a_b.Day, iv a_b.From, iv a_b.To, iv a_b.Sum]] 7 mixed (aq 1 R (pom R) so1 R (aq (v := .agg #[iv a_b.Day, iv a_b.From, iv a_b.To, iv a_b.Sum]) 3 R (plb tk_96 pz R R R) so1 R (wa_2 (i := 0) (j := 4) (by kernel_rfl) ?_ ?_)))
 refine wse R (ebs R sb_27_0) (fun _ => (zt (zc pk1 zn))) R fun b2 => wa_2 (i := 2) (j := 4) (by kernel_rfl) ?_ ?_
 refine wse R (eo_append (xs := ([] : List GBooking)) (ys := a_list) ak_27 (pbo pz (n := 0) (xs := ([] : List GBooking)) R R (by unfold maxLen; omega)) R R (slin_rd fun _ g => Rg.on (rga r0) g) g1) (fun _ => (zt (zc pk1 zn))) R fun x1 => ?_
 refine a1 4 (wse R (ebs R (sb_27_1 a_b.Day a_b.From a_b.To a_b.Sum)) (fun _ => (zt (zc pk2 zn))) R fun b3 => (a1 5 (wse R (eo_append (xs := (([] : List GBooking) ++ a_list)) (ys := ([a_b] : List GBooking)) ak_27 pk1 R R (slin_rd fun _ g => Rg.on (rgo (pbo pz (n := 1) (xs := ([a_b] : List GBooking)) R R (by unfold maxLen; omega))) g) g2) (fun _ => (zt (zc pk2 zn))) R fun x2 => ?_)))
 exact aq 6 R (po_assign R) (zc pk2 zn) R (ae (wqm x2 trivial (su2 R R) so1))
 refine wse R (ebs R (sb_27_1 a_b.Day a_b.From a_b.To a_b.Sum)) (fun _ => (zt (zc pk2 zn))) R fun b4 => a1 2 (wse R (eo_append (xs := ([] : List GBooking)) (ys := a_list) ak_27 (pbo pk1 (n := 0) (xs := ([] : List GBooking)) R R (by unfold maxLen; omega)) R R (slin_rd fun _ g => Rg.on (rga r0) g) g1) (fun _ => (zt (zc pk2 zn))) R fun x3 => ?_)
 refine a1 5 (wse R (eo_append (xs := (([] : List GBooking) ++ a_list)) (ys := ([a_b] : List GBooking)) ak_27 pz R R (slin_rd fun _ g => Rg.on (rgo (pbo pk1 (n := 1) (xs := ([a_b] : List GBooking)) R R (by unfold maxLen; omega))) g) g2) (fun _ => (zt (zc pk2 zn))) R fun x4 => ?_)
 exact aq 6 R (po_assign R) (zc pk2 zn) R (ae (wqm x4 trivial (su2 R R) so1))
 refine wse R (ebs R (sb_27_1 a_b.Day a_b.From a_b.To a_b.Sum)) (fun _ => (zt (zc pk1 zn))) R fun b5 => a1 0 (wse R (ebs R sb_27_0) (fun _ => (zt (zc pk2 zn))) R fun b6 => (a1 2 (wse R (eo_append (xs := ([] : List GBooking)) (ys := a_list) ak_27 (pbo pz (n := 0) (xs := ([] : List GBooking)) R R (by unfold maxLen; omega)) R R (slin_rd fun _ g => Rg.on (rga r0) g) g1) (fun _ => (zt (zc pk2 zn))) R fun x5 => ?_)))
 refine a1 5 (wse R (eo_append (xs := (([] : List GBooking) ++ a_list)) (ys := ([a_b] : List GBooking)) ak_27 pz R R (slin_rd fun _ g => Rg.on (rgo (pbo pk1 (n := 1) (xs := ([a_b] : List GBooking)) R R (by unfold maxLen; omega))) g) g2) (fun _ => (zt (zc pk2 zn))) R fun x6 => ?_)
 exact aq 6 R (po_assign R) (zc pk2 zn) R (ae (wqm x6 trivial (su2 R R) so1))
 intro x7 _
 refine wqt (wcs (wcs (bdO t0 fun y1 t1 t0 => (wj (J := Bool) (X := Unit) (fun z => y1 = z) (fun z _ => [(0, (sl v0a)), (6, (sl x7)), (20, .bool z)]) (fun _ _ => [ownF (sl x7) ((([] : List GBooking) ++ a_list) ++ [a_b])]) ?_ ?_))))
 refine wcg (mv R R (bdO t1 fun v1 hv1 t1 => (wlc (cz0 fa_32 R fun w hw => c_impl_LedgerOk w a_list v0a (ra r0 hw) hv1) R fun _ => (wlq (po_not R) R (mv R R (wlo (t := 16) t1 R (fun h1 t1 => ?_) fun h1 t1 => ?_))))))
 exact wgf (j := 3) R R R R R (wgf (j := 3) R R R R R (wgf (j := 3) R R R R R (wlq (pit R R) R (wln (wjm _ () (mtE t1) (su3 R R R) so1)))))
 exact wgn (j := 3) R R R (mv R R (bdO t1 fun v2 hv2 t1 => (wgn (j := 3) R R R (wlc (cz0 fa_32 R fun w hw => c_impl_LedgerOk w ((([] : List GBooking) ++ a_list) ++ [a_b]) x7 (Rg.on (rgo pz) hw) hv2) R (fun _ => (wgn (j := 3) R R R (wlq (po_not R) R (wlq (pif R R) R (wln (wjm _ () (mtE t1) (su3 R R R) so1))))))))))
 intro j1 _ hp
 obtain rfl : j1 = y1 := hp.symm
 refine wqt (wcO t0 R (fun h2 t0 => ?_) fun h2 t0 => ?_)
 refine wcr (wle (ebs R sb_27_0) R fun b7 => (mv R R (wle (eo_append (xs := ([] : List GBooking)) (ys := a_list) ak_27 (pbo pz (n := 0) (xs := ([] : List GBooking)) R R (by unfold maxLen; omega)) R R (slin_rd fun _ g => Rg.on (rga r0) g) g1) R fun x9 => ?_)))
 refine asg R R (asg R R (wnt (wct (wqr ?_))))
 obtain rfl := oi t0
 exact wq_ret2 R R R fun w hw => ⟨x9, R, hw.weak so1⟩
 refine wck (wqt (wcr (mv R R (asg R R (asg R R (wnt (wct ?_)))))))
 obtain rfl := oi t0
 exact wq_ret2 R R R fun w hw => ⟨x7, R, hw.weak so1⟩

theorem c_impl_Guild_becomes (w : World) (fp : List Nat) (a_g : GGuild) (v0a : Hd) (r0 : rdF w (dm w fp) (sl v0a) a_g.Members) (v1a : Hd) (r1 : rdF w (dm w fp) (sl v1a) a_g.Stock) (v2a : Hd) (u2a : List Value) (r2 : RdL w (dm w fp) (sl v2a) u2a a_g.Entries) (v3a : Hd) (r3 : rdF w (dm w fp) (sl v3a) a_g.Books) (a_next : GGuild) (v4a : Hd) (v5a : Hd) (v6a : Hd) (u6a : List Value) (v7a : Hd) (a_ok : Bool) (o : Ow w [ownF (sl v4a) a_next.Members, ownF (sl v5a) a_next.Stock, own (sl v6a) u6a a_next.Entries, ownF (sl v7a) a_next.Books] fp) {r : GGuild × Bool} (t0 : impl_Guild_becomes a_g a_next a_ok = some r) : Calls Tryz.prog 60 #[.agg #[(sl v0a), (sl v1a), (sl v2a), (sl v3a), .int .i64 a_g.Round, .int .i64 a_g.Year], .agg #[(sl v4a), (sl v5a), (sl v6a), (sl v7a), .int .i64 a_next.Round, .int .i64 a_next.Year], .bool a_ok] w fun e w' => ∃ x : Hd × Hd × Hd × (List Value) × Hd, e = .returned (.tuple #[.agg #[(sl x.1), (sl x.2.1), (sl x.2.2.1), (sl x.2.2.2.2), .int .i64 r.1.Round, .int .i64 r.1.Year], .bool r.2]) ∧ SH w fp [ownF (sl x.1) r.1.Members, ownF (sl x.2.1) r.1.Stock, own (sl x.2.2.1) x.2.2.2.1 r.1.Entries, ownF (sl x.2.2.2.2) r.1.Books] w' := by
 refine calls_of_wc_own (args := [_, _, _]) o Tryz.func60 R Tryz.ntmps60 R ?_
 unfold impl_Guild_becomes at t0
 refine wcr (wle (eo_box R R) R fun b1 => (wle (eo_box R R) R fun b2 => (wle (eal (cs := [(sl hn), (sl hn), (sl hn), (sl hn), iv 0, iv 0]) za_29) R fun b3 => (asg R R (wnt (wcs (wcs (bdO t0 fun y1 t1 t0 => (wj (J := Bool) (X := Unit) (fun z => y1 = z) (fun z _ => [(3, ptr b1 0), (4, ptr b2 0), (6, ptr b3 0), (19, .bool z)]) (fun _ _ => [box b3 [(sl hn), (sl hn), (sl hn), (sl hn), iv 0, iv 0], box b2 [(sl v4a), (sl v5a), (sl v6a), (sl v7a), iv a_next.Round, iv a_next.Year], box b1 [(sl v0a), (sl v1a), (sl v2a), (sl v3a), iv a_g.Round, iv a_g.Year], ownF (sl v4a) a_next.Members, ownF (sl v5a) a_next.Stock, own (sl v6a) u6a a_next.Entries, ownF (sl v7a) a_next.Books]) ?_ ?_)))))))))
 refine wcg (wlq (v := .agg #[(sl v0a), (sl v1a), (sl v2a), (sl v3a), iv a_g.Round, iv a_g.Year]) (plb tk_29 pk2 R R R) R (bdO t1 fun v1 hv1 t1 => (wlc (cz0 fa_16 R fun w hw => c_impl_GuildOk w a_g v0a (ra r0 hw) v1a (ra r1 hw) v2a u2a (ra r2 hw) v3a (ra r3 hw) hv1) R fun _ => (wlq (po_not R) R (mv R R (wlo (t := 11) t1 R (fun h1 t1 => ?_) fun h1 t1 => ?_))))))
 exact wgf (j := 3) R R R R R (wgf (j := 3) R R R R R (wlq (pit R R) R (mv R R (wgf (j := 7) R R R R R (wgf (j := 7) R R R R R (wgf (j := 7) R R R R R (wlq (pit R R) R (wln (wjm _ () (mtE t1) (su4 R R R R) so7)))))))))
 refine wgn (j := 3) R R R (mv R R (wgn (j := 3) R R R (wlq (po_not R) R (wlq (pif R R) R (mv R R (wlo (t := 15) t1 R (fun h2 t1 => ?_) fun h2 t1 => ?_))))))
 exact wgf (j := 7) R R R R R (wgf (j := 7) R R R R R (wgf (j := 7) R R R R R (wlq (pit R R) R (wln (wjm _ () (mtE t1) (su4 R R R R) so7)))))
 exact wgn (j := 7) R R R (wlq (v := .agg #[(sl v4a), (sl v5a), (sl v6a), (sl v7a), iv a_next.Round, iv a_next.Year]) (plb tk_29 pk1 R R R) R (bdO t1 fun v2 hv2 t1 => (wgn (j := 7) R R R (wlc (cz0 fa_16 R fun w hw => c_impl_GuildOk w a_next v4a (Rg.on (rgo pk3) hw) v5a (Rg.on (rgo pk4) hw) v6a u6a (Rg.on (rgo pk5) hw) v7a (Rg.on (rgo pk6) hw) hv2) R (fun _ => (wgn (j := 7) R R R (wlq (po_not R) R (wlq (pif R R) R (wln (wjm _ () (mtE t1) (su4 R R R R) so7))))))))))
 intro j1 _ hp
 obtain rfl : j1 = y1 := hp.symm
 refine wqt (wcO t0 R (fun h3 t0 => ?_) fun h3 t0 => ?_)
 refine wcr (wlq (v := .agg #[(sl v0a), (sl v1a), (sl v2a), (sl v3a), iv a_g.Round, iv a_g.Year]) (plb tk_29 pk2 R R R) R (bdO t0 fun v3 hv3 t0 => (wlc (co_c4 fa_15 R fun w hw => c_impl_Guild_copied w a_g v0a (ra r0 hw) v1a (ra r1 hw) v2a u2a (ra r2 hw) v3a (ra r3 hw) hv3) R fun x2 => (wls (sbx (cs' := [(sl x2.1), (sl x2.2.1), (sl x2.2.2.1), (sl x2.2.2.2.2), iv v3.Round, iv v3.Year]) tk_29 pk4 R R R R R R R) (asg R R (wnt (wct (wqr ?_))))))))
 obtain rfl := oi t0
 exact wq_retc1 R tk_29 R R pz R fun w hw => ⟨(x2.1, x2.2.1, x2.2.2.1, x2.2.2.2.1, x2.2.2.2.2), R, hw.weak (zc pk1 (zc pk1 (zc pk1 (zc pk1 zn))))⟩
 refine wck (wqt (wcr (wlq (v := .agg #[(sl v4a), (sl v5a), (sl v6a), (sl v7a), iv a_next.Round, iv a_next.Year]) (plb tk_29 pk1 R R R) R (wls (sbx (cs' := [(sl v4a), (sl v5a), (sl v6a), (sl v7a), iv a_next.Round, iv a_next.Year]) tk_29 pz R R R R R R R) (asg R R (wnt (wct ?_)))))))
 obtain rfl := oi t0
 exact wq_retc1 R tk_29 R R pz R fun w hw => ⟨(v4a, v5a, v6a, u6a, v7a), R, hw.weak (zc pk3 (zc pk3 (zc pk3 (zc pk3 zn))))⟩

theorem c_impl_Admit (w : World) (a_g : GGuild) (v0a : Hd) (r0 : rdF w (dm w []) (sl v0a) a_g.Members) (v1a : Hd) (r1 : rdF w (dm w []) (sl v1a) a_g.Stock) (v2a : Hd) (u2a : List Value) (r2 : RdL w (dm w []) (sl v2a) u2a a_g.Entries) (v3a : Hd) (r3 : rdF w (dm w []) (sl v3a) a_g.Books) (a_number : Int) {r : GGuild × Bool} (t0 : impl_Admit a_g a_number = some r) : Calls Tryz.prog 37 #[.agg #[(sl v0a), (sl v1a), (sl v2a), (sl v3a), .int .i64 a_g.Round, .int .i64 a_g.Year], .int .i64 a_number] w fun e w' => ∃ x : Hd × Hd × Hd × (List Value) × Hd, e = .returned (.tuple #[.agg #[(sl x.1), (sl x.2.1), (sl x.2.2.1), (sl x.2.2.2.2), .int .i64 r.1.Round, .int .i64 r.1.Year], .bool r.2]) ∧ SH w [] [ownF (sl x.1) r.1.Members, ownF (sl x.2.1) r.1.Stock, own (sl x.2.2.1) x.2.2.2.1 r.1.Entries, ownF (sl x.2.2.2.2) r.1.Books] w' := by
 refine cwc (args := [_, _]) Tryz.func37 R Tryz.ntmps37 R ?_
 unfold impl_Admit at t0
 refine wcr (wle (eo_box R R) R fun b1 => (wle (eal (cs := [(sl hn), (sl hn), (sl hn), (sl hn), iv 0, iv 0]) za_29) R fun b2 => (asg R R (wnt (wcr (wlq (v := .agg #[(sl v0a), (sl v1a), (sl v2a), (sl v3a), iv a_g.Round, iv a_g.Year]) (plb tk_29 pk1 R R R) R (bdO t0 fun v1 hv1 t0 => (wlc (co_c4 fa_15 R fun w hw => c_impl_Guild_copied w a_g v0a (ra r0 hw) v1a (ra r1 hw) v2a u2a (ra r2 hw) v3a (ra r3 hw) hv1) R fun x1 => (wle (eal (cs := [(sl hn), (sl hn), (sl hn), (sl hn), iv 0, iv 0]) za_29) R fun b3 => (wls (sbx (cs' := [(sl x1.1), (sl x1.2.1), (sl x1.2.2.1), (sl x1.2.2.2.2), iv v1.Round, iv v1.Year]) tk_29 pz R R R R R R R) (asg R R (wnt (wcs (wcr (wlq (pof fo_29_3 R) R (wlq (v := (sl v3a)) (plx tk_27 pk6 R R) R (wlq (pln (rga r3) el_27 R) R (asg R R (wnt (wcr (mv R R (wlq (po_gtr R R) R (wnt (bdO t0 fun y1 t1 t0 => (wj (J := Int) (X := Unit) (fun z => y1 = z) (fun z _ => [(1, iv a_number), (2, ptr b1 0), (4, ptr b2 0), (6, ptr b3 0), (7, iv z)]) (fun _ _ => [box b3 [(sl x1.1), (sl x1.2.1), (sl x1.2.2.1), (sl x1.2.2.2.2), iv v1.Round, iv v1.Year], box b2 [(sl hn), (sl hn), (sl hn), (sl hn), iv 0, iv 0], box b1 [(sl v0a), (sl v1a), (sl v2a), (sl v3a), iv a_g.Round, iv a_g.Year], ownF (sl x1.1) v1.Members, ownF (sl x1.2.1) v1.Stock, own (sl x1.2.2.1) x1.2.2.2.1 v1.Entries, ownF (sl x1.2.2.2.2) v1.Books]) ?_ ?_)))))))))))))))))))))))))
 refine wcO t1 R (fun h1 t1 => ?_) fun h1 t1 => ?_
 exact wcg (wlq (pof fo_29_3 R) R (wlq (v := (sl v3a)) (plx tk_27 pk6 R R) R (mv R R (wlq (po_sub R R) R (gdO t1 fun g1 t1 => (wlq (po_ixr (rga r3) el_27 R R g1.1 g1.2) R (wlq (po_sfldr (rga r3) (ix_lt g1) fo_96_0 R) R (wlq (v := iv ((gx a_g.Books (((wr (((a_g.Books.length : Nat) : Int) - 1))).toNat)).Day)) (po_ldf (rga r3) tk_3 R (ix_lt g1) R) R (asg R R (wln (wjm _ () (mtE t1) (su5 R R R R R) (zc pz (zc pk4 (zc pk4 so4))))))))))))))
 exact wck (wjm _ () (mtE t1) (su5 R R R R R) (zc pz (zc pk4 (zc pk4 so4))))
 intro j1 _ hp
 obtain rfl : j1 = y1 := hp.symm
 refine wqt (wcr (wlq (pof fo_29_0 R) R (wlq (v := (sl x1.1)) (plx tk_24 pz R R) R (mv R R (wlq (pof fo_29_5 R) R (wlq (v := iv a_g.Year) (plx tk_3 pk2 R R) R (bdO t0 fun v2 hv2 t0 => (wlc (cz1 fa_57 R fun w hw => c_impl_JoinGuild w v1.Members x1.1 (Rg.on (rgo pk3) hw) a_number a_g.Year hv2) R fun x3 => (mv R R (wlq (pex R R) R (wlq (pex R R) R (asg R R (asg R R (wnt (wcr (mv R R (mv R R (bdO t0 fun v3 hv3 t0 => (wlc (cz1 fa_58 R fun w hw => c_impl_PayDues w v2.1 x3 (Rg.on (rgo pz) hw) a_number 1 hv3) R fun x4 => (mv R R (wlq (pex R R) R (wlq (pex R R) R (asg R R (asg R R (wnt (wcr (wlq (pof fo_29_3 R) R (wlq (v := (sl x1.2.2.2.2)) (plx tk_27 pk2 R R) R (mv R R (wlq (po_build R (bd_96_0_1_2_3 j1 0 1 20)) R (bdO t0 fun v4 hv4 t0 => (wlc (cz1 fa_59 R fun w hw => c_impl_BookSum w v1.Books x1.2.2.2.2 (Rg.on (rgo pk8) hw) (GBooking.mk j1 0 1 20) hv4) R fun x5 => (mv R R (wlq (pex R R) R (wlq (pex R R) R (asg R R (asg R R (wnt (wcr ?_)))))))))))))))))))))))))))))))))))))))
 refine mv R R (mv R R (wlq (pof fo_29_0 R) R (wls (sbx (cs' := [(sl x4), (sl x1.2.1), (sl x1.2.2.1), (sl x1.2.2.2.2), iv v1.Round, iv v1.Year]) tk_24 pk3 R R R R R R R) (wlq (pof fo_29_3 R) R (wls (sbx (cs' := [(sl x4), (sl x1.2.1), (sl x1.2.2.1), (sl x5), iv v1.Round, iv v1.Year]) tk_27 pz R R R R R R R) (wnt (wcs (bdO t0 fun y1 t1 t0 => (wj (J := Bool × GGuild) (X := Hd × Hd × Hd × (List Value) × Hd) (fun z => y1 = z) (fun z _ => [(4, ptr b2 0), (5, .bool z.1)]) (fun z x => [box b2 [(sl x.1), (sl x.2.1), (sl x.2.2.1), (sl x.2.2.2.2), iv ((z.2).Round), iv ((z.2).Year)], ownF (sl x.1) ((z.2).Members), ownF (sl x.2.1) ((z.2).Stock), own (sl x.2.2.1) x.2.2.2.1 ((z.2).Entries), ownF (sl x.2.2.2.2) ((z.2).Books)]) ?_ ?_)))))))))
 refine wcg (wlq (v := .agg #[(sl v0a), (sl v1a), (sl v2a), (sl v3a), iv a_g.Round, iv a_g.Year]) (plb tk_29 pk5 R R R) R (wlq (v := .agg #[(sl x4), (sl x1.2.1), (sl x1.2.2.1), (sl x5), iv v1.Round, iv v1.Year]) (plb tk_29 pz R R R) R (mv R R (mv R R (wlo (t := 59) t1 R (fun h2 t1 => ?_) fun h2 t1 => ?_)))))
 refine wgn (j := 3) R R R (mv R R (wlq (pit R R) R (mv R R (wlo (t := 62) t1 R (fun h3 t1 => ?_) fun h3 t1 => ?_))))
 refine wgn (j := 6) R R R (mv R R (wlq (pit R R) R (mv R R (wlo (t := 65) t1 R (fun h4 t1 => ?_) fun h4 t1 => ?_))))
 exact wgn (j := 9) R R R (wlq (pof fo_29_4 R) R (wgn (j := 9) R R R (wlq (v := iv a_g.Round) (plx tk_3 pk5 R R) R (wgn (j := 9) R R R (wlq (pol R R) R (wlq (pit R R) R (bdO t1 fun v5 hv5 t1 => (wlc (co_o4 [ownF (sl x4) v3.1, ownF (sl x1.2.1) v1.Stock, own (sl x1.2.2.1) x1.2.2.2.1 v1.Entries, ownF (sl x5) v4.1] fa_60 (zc pk2 (zc pk6 (zc pk6 (zc pk1 some_refl)))) R fun w fp hw => c_impl_Guild_becomes w fp a_g v0a ((rdo_arg r0) w fp hw) v1a ((rdo_arg r1) w fp hw) v2a u2a ((rdo_arg r2) w fp hw) v3a ((rdo_arg r3) w fp hw) (GGuild.mk v3.1 v1.Stock v1.Entries v4.1 v1.Round v1.Year) x4 x1.2.1 x1.2.2.1 x1.2.2.2.1 x5 (a_g.Round == 0) hw.ow hv5) R fun x7 => (wlq (pex R R) R (wlq (pex R R) R (wls (sbx (cs' := [(sl x7.1), (sl x7.2.1), (sl x7.2.2.1), (sl x7.2.2.2.2), iv v5.1.Round, iv v5.1.Year]) tk_29 pk6 R R R R R R R) (asg R R (wln (wjm _ (x7.1, x7.2.1, x7.2.2.1, x7.2.2.2.1, x7.2.2.2.2) (mtE t1) (su2 R R) so5))))))))))))))
 exact wgf (j := 9) R R R R R (wgf (j := 9) R R R R R (wgf (j := 9) R R R R R (wlq (pif R R) R (bdO t1 fun v6 hv6 t1 => (wlc (co_o4 [ownF (sl x4) v3.1, ownF (sl x1.2.1) v1.Stock, own (sl x1.2.2.1) x1.2.2.2.1 v1.Entries, ownF (sl x5) v4.1] fa_60 (zc pk2 (zc pk6 (zc pk6 (zc pk1 some_refl)))) R fun w fp hw => c_impl_Guild_becomes w fp a_g v0a ((rdo_arg r0) w fp hw) v1a ((rdo_arg r1) w fp hw) v2a u2a ((rdo_arg r2) w fp hw) v3a ((rdo_arg r3) w fp hw) (GGuild.mk v3.1 v1.Stock v1.Entries v4.1 v1.Round v1.Year) x4 x1.2.1 x1.2.2.1 x1.2.2.2.1 x5 false hw.ow hv6) R fun x8 => (wlq (pex R R) R (wlq (pex R R) R (wls (sbx (cs' := [(sl x8.1), (sl x8.2.1), (sl x8.2.2.1), (sl x8.2.2.2.2), iv v6.1.Round, iv v6.1.Year]) tk_29 pk6 R R R R R R R) (asg R R (wln (wjm _ (x8.1, x8.2.1, x8.2.2.1, x8.2.2.2.1, x8.2.2.2.2) (mtE t1) (su2 R R) so5)))))))))))
 exact wgf (j := 6) R R R R R (wlq (pif R R) R (mv R R (wgf (j := 9) R R R R R (wgf (j := 9) R R R R R (wgf (j := 9) R R R R R (wlq (pif R R) R (bdO t1 fun v7 hv7 t1 => (wlc (co_o4 [ownF (sl x4) v3.1, ownF (sl x1.2.1) v1.Stock, own (sl x1.2.2.1) x1.2.2.2.1 v1.Entries, ownF (sl x5) v4.1] fa_60 (zc pk2 (zc pk6 (zc pk6 (zc pk1 some_refl)))) R fun w fp hw => c_impl_Guild_becomes w fp a_g v0a ((rdo_arg r0) w fp hw) v1a ((rdo_arg r1) w fp hw) v2a u2a ((rdo_arg r2) w fp hw) v3a ((rdo_arg r3) w fp hw) (GGuild.mk v3.1 v1.Stock v1.Entries v4.1 v1.Round v1.Year) x4 x1.2.1 x1.2.2.1 x1.2.2.2.1 x5 false hw.ow hv7) R fun x9 => (wlq (pex R R) R (wlq (pex R R) R (wls (sbx (cs' := [(sl x9.1), (sl x9.2.1), (sl x9.2.2.1), (sl x9.2.2.2.2), iv v7.1.Round, iv v7.1.Year]) tk_29 pk6 R R R R R R R) (asg R R (wln (wjm _ (x9.1, x9.2.1, x9.2.2.1, x9.2.2.2.1, x9.2.2.2.2) (mtE t1) (su2 R R) so5))))))))))))))
 exact wgf (j := 3) R R R R R (wlq (pif R R) R (mv R R (wgf (j := 6) R R R R R (wlq (pif R R) R (mv R R (wgf (j := 9) R R R R R (wgf (j := 9) R R R R R (wgf (j := 9) R R R R R (wlq (pif R R) R (bdO t1 fun v8 hv8 t1 => (wlc (co_o4 [ownF (sl x4) v3.1, ownF (sl x1.2.1) v1.Stock, own (sl x1.2.2.1) x1.2.2.2.1 v1.Entries, ownF (sl x5) v4.1] fa_60 (zc pk2 (zc pk6 (zc pk6 (zc pk1 some_refl)))) R fun w fp hw => c_impl_Guild_becomes w fp a_g v0a ((rdo_arg r0) w fp hw) v1a ((rdo_arg r1) w fp hw) v2a u2a ((rdo_arg r2) w fp hw) v3a ((rdo_arg r3) w fp hw) (GGuild.mk v3.1 v1.Stock v1.Entries v4.1 v1.Round v1.Year) x4 x1.2.1 x1.2.2.1 x1.2.2.2.1 x5 false hw.ow hv8) R fun x10 => (wlq (pex R R) R (wlq (pex R R) R (wls (sbx (cs' := [(sl x10.1), (sl x10.2.1), (sl x10.2.2.1), (sl x10.2.2.2.2), iv v8.1.Round, iv v8.1.Year]) tk_29 pk6 R R R R R R R) (asg R R (wln (wjm _ (x10.1, x10.2.1, x10.2.2.1, x10.2.2.2.1, x10.2.2.2.2) (mtE t1) (su2 R R) so5)))))))))))))))))
 intro j2 x6 hp
 obtain rfl : j2 = y1 := hp.symm
 refine wqt (wct ?_)
 obtain rfl := oi t0
 exact wq_retc1 R tk_29 R R pz R fun w hw => ⟨(x6.1, x6.2.1, x6.2.2.1, x6.2.2.2.1, x6.2.2.2.2), R, hw.weak (zc pk1 (zc pk1 (zc pk1 (zc pk1 zn))))⟩

theorem c_impl_WholeCell (w : World) (a_a : Int) {r : GCell} (t0 : impl_WholeCell a_a = some r) : Calls Tryz.prog 66 #[.int .i64 a_a] w fun e w' => e = .returned (.agg #[.int .i64 r.Split, .int .i64 r.A, .int .i64 r.B]) ∧ SH w [] [] w' := by
 refine cwc (args := [_]) Tryz.func66 R Tryz.ntmps66 R ?_
 unfold impl_WholeCell at t0
 refine wcr (wle (eal (cs := [iv 0, iv 0, iv 0]) za_87) R fun b1 => (wnt (wcs (wcr (mv R R (bdO t0 fun v1 hv1 t0 => (wlc (cz0 fa_85 R fun w hw => c_impl_isColor w a_a hv1) R fun _ => (wlq (po_not R) R (wnt (wcO t0 R (fun h1 t0 => ?_) fun h1 t0 => ?_))))))))))
 refine wcr (wlq (po_build R bd_87) R (wls (sbx (cs' := [iv 0, iv 0, iv 0]) tk_87 pz R R R R R R R) (wnt (wct (wqr ?_)))))
 obtain rfl := oi t0
 exact wqc R tk_87 R pz R fun w hw => ⟨R, hw.weak zn⟩
 refine wck (wqt (wcr (mv R R (mv R R (wlq (po_build R (bd_87_1_2 a_a a_a)) R (wls (sbx (cs' := [iv 0, iv a_a, iv a_a]) tk_87 pz R R R R R R R) (wnt (wct ?_))))))))
 obtain rfl := oi t0
 exact wqc R tk_87 R pz R fun w hw => ⟨R, hw.weak zn⟩

theorem c_impl_SplitCell (w : World) (a_split : Int) (a_a : Int) (a_b : Int) {r : GCell} (t0 : impl_SplitCell a_split a_a a_b = some r) : Calls Tryz.prog 65 #[.int .i64 a_split, .int .i64 a_a, .int .i64 a_b] w fun e w' => e = .returned (.agg #[.int .i64 r.Split, .int .i64 r.A, .int .i64 r.B]) ∧ SH w [] [] w' := by
 refine cwc (args := [_, _, _]) Tryz.func65 R Tryz.ntmps65 R ?_
 unfold impl_SplitCell at t0
 refine wcr (wle (eal (cs := [iv 0, iv 0, iv 0]) za_87) R fun b1 => (wnt (wcs (wcr (mv R R (mv R R (wlq (pol R R) R (wnt (wcO t0 R (fun h1 t0 => ?_) fun h1 t0 => ?_)))))))))
 refine wcr (mv R R (bdO t0 fun v1 hv1 t0 => (wlc (cz0 fa_66 R fun w hw => c_impl_WholeCell w a_a hv1) R fun _ => (wls (sbx (cs' := [iv v1.Split, iv v1.A, iv v1.B]) tk_87 pz R R R R R R R) (wnt (wct (wqr ?_)))))))
 obtain rfl := oi t0
 exact wqc R tk_87 R pz R fun w hw => ⟨R, hw.weak zn⟩
 refine wck (wqt (wcr (mv R R (mv R R (mv R R (wlq (po_build R (bd_87_0_1_2 a_split a_a a_b)) R (wle (eal (cs := [iv 0, iv 0, iv 0]) za_87) R fun b2 => (wls (sbx (cs' := [iv a_split, iv a_a, iv a_b]) tk_87 pz R R R R R R R) (wnt (wcs (wcr (wlq (v := .agg #[iv a_split, iv a_a, iv a_b]) (plb tk_87 pz R R R) R (bdO t0 fun v2 hv2 t0 => (wlc (cz0 fa_74 R fun w hw => c_impl_CellOk w (GCell.mk a_split a_a a_b) hv2) R fun _ => (wlq (po_not R) R (wnt (wcO t0 R (fun h2 t0 => ?_) fun h2 t0 => ?_)))))))))))))))))
 refine wcr (wlq (po_build R bd_87) R (wls (sbx (cs' := [iv 0, iv 0, iv 0]) tk_87 pk1 R R R R R R R) (wnt (wct (wqr ?_)))))
 obtain rfl := oi t0
 exact wqc R tk_87 R pz R fun w hw => ⟨R, hw.weak zn⟩
 refine wck (wqt (wcr (wlq (v := .agg #[iv a_split, iv a_a, iv a_b]) (plb tk_87 pz R R R) R (wls (sbx (cs' := [iv a_split, iv a_a, iv a_b]) tk_87 pk1 R R R R R R R) (wnt (wct ?_))))))
 obtain rfl := oi t0
 exact wqc R tk_87 R pz R fun w hw => ⟨R, hw.weak zn⟩

theorem c_impl_StarBlock (w : World)  {r : GBlock} (t0 : impl_StarBlock = some r) : Calls Tryz.prog 62 #[] w fun e w' => ∃ x : Hd, e = .returned (.agg #[.int .i64 r.Size, (sl x)]) ∧ SH w [] [ownF (sl x) r.Cells] w' := by
 refine cwc (args := []) Tryz.func62 R Tryz.ntmps62 R ?_
 unfold impl_StarBlock at t0
 refine wcr (wle (eal (cs := [iv 0, (sl hn)]) za_56) R fun b1 => (wnt (wcr (bdO t0 fun v1 hv1 t0 => (wlc (cz0 fa_66 R fun w hw => c_impl_WholeCell w 1 hv1) R fun _ => (wle (eal (cs := [iv 0, iv 0, iv 0]) za_87) R fun b2 => (wls (sbx (cs' := [iv v1.Split, iv v1.A, iv v1.B]) tk_87 pz R R R R R R R) (wnt (wcs (wcd [box b2 [iv v1.Split, iv v1.A, iv v1.B], box b1 [iv 0, (sl hn)]] 11 mixed (aq (v := .agg #[iv v1.Split, iv v1.A, iv v1.B]) 1 R (plb tk_87 pz R R R) so2 R (aq (v := .agg #[iv v1.Split, iv v1.A, iv v1.B]) 3 R (plb tk_87 pz R R R) so2 R (aq (v := .agg #[iv v1.Split, iv v1.A, iv v1.B]) 4 R (plb tk_87 pz R R R) so2 R (aq (v := .agg #[iv v1.Split, iv v1.A, iv v1.B]) 5 R (plb tk_87 pz R R R) so2 R (aq (v := .agg #[iv v1.Split, iv v1.A, iv v1.B]) 7 R (plb tk_87 pz R R R) so2 R (a1 0 (bdO t0 fun v2 hv2 t0 => (wsc R (cz0 fa_65 R fun w hw => c_impl_SplitCell w 1 0 1 hv2) (fun _ => (zt so2)) R fun _ => (a1 2 (bdO t0 fun v3 hv3 t0 => (wsc R (cz0 fa_65 R fun w hw => c_impl_SplitCell w 2 1 0 hv3) (fun _ => (zt so2)) R fun _ => (a1 6 (bdO t0 fun v4 hv4 t0 => (wsc R (cz0 fa_65 R fun w hw => c_impl_SplitCell w 2 0 1 hv4) (fun _ => (zt so2)) R fun _ => (a1 8 (bdO t0 fun v5 hv5 t0 => (wsc R (cz0 fa_65 R fun w hw => c_impl_SplitCell w 1 1 0 hv5) (fun _ => (zt so2)) R fun _ => (a1 9 (wse R (ebs (qs := [(0, .agg #[iv v2.Split, iv v2.A, iv v2.B]), (1, .agg #[iv v1.Split, iv v1.A, iv v1.B]), (2, .agg #[iv v3.Split, iv v3.A, iv v3.B]), (3, .agg #[iv v1.Split, iv v1.A, iv v1.B]), (4, .agg #[iv v1.Split, iv v1.A, iv v1.B]), (5, .agg #[iv v1.Split, iv v1.A, iv v1.B]), (6, .agg #[iv v4.Split, iv v4.A, iv v4.B]), (7, .agg #[iv v1.Split, iv v1.A, iv v1.B]), (8, .agg #[iv v5.Split, iv v5.A, iv v5.B])]) R (sb_54_9 v2.Split v2.A v2.B v1.Split v1.A v1.B v3.Split v3.A v3.B v1.Split v1.A v1.B v1.Split v1.A v1.B v1.Split v1.A v1.B v4.Split v4.A v4.B v1.Split v1.A v1.B v5.Split v5.A v5.B)) (fun _ => (zt (zc pk1 (zc pk1 zn)))) R fun b3 => (aq 10 R (po_build R (bd_56_0_1 3 (⟨some ⟨b3, 0, none⟩, 9, 9⟩ : Hd))) (zc pk1 (zc pk1 zn)) R (a1 11 (ws_skipop R (sbx (cs' := [iv 3, (sl (⟨some ⟨b3, 0, none⟩, 9, 9⟩ : Hd))]) tk_56 pk2 R R R R R R R) (sts_past (by kernel_rfl)) ?_))))))))))))))))))))))))))))))))
 refine ae (wqt (wct ?_))
 obtain rfl := oi t0
 exact wqc R tk_56 R pz R fun w hw => ⟨(⟨some ⟨b3, 0, none⟩, 9, 9⟩ : Hd), R, hw.weak (zc (pbo pk1 (n := 9) (xs := ([v2, v1, v3, v1, v1, v1, v4, v1, v5] : List GCell)) R R (by unfold maxLen; omega)) zn)⟩

theorem c_impl_SampleBlock_c1 (w : World) (a_x : Int) (a_y : Int) (c_p2 : Int) (b2c : Nat) (q2 : Bx w b2c [.int .i64 c_p2]) {r : GCell} (t0 : impl_SampleBlock_c1 a_x a_y c_p2 = some r) : Calls Tryz.prog 64 #[.int .i64 a_x, .int .i64 a_y, ptr b2c 0] w fun e w' => e = .returned (.agg #[.int .i64 r.Split, .int .i64 r.A, .int .i64 r.B]) ∧ SH w [] [] w' := by
 refine cwc (args := [_, _, _]) Tryz.func64 R Tryz.ntmps64 R ?_
 unfold impl_SampleBlock_c1 at t0
 refine wcr (wle (eal (cs := [iv 0, iv 0, iv 0]) za_87) R fun b1 => (wnt (wcs (wcr (mv R R (wlq (po_mul R R) R (mv R R (wlq (po_add R R) R (wlq (v := iv c_p2) (po_load_abox q2 tk_3 R R) R (wlq (po_rem R R (by decide)) R ?_))))))))))
 refine wlq (pls R R) R (wnt (wcO t0 R (fun h1 t0 => ?_) fun h1 t0 => ?_))
 refine wcr (bdO t0 fun v1 hv1 t0 => (wlc (cz0 fa_65 R fun w hw => c_impl_SplitCell w 1 0 1 hv1) R fun _ => (wls (sbx (cs' := [iv v1.Split, iv v1.A, iv v1.B]) tk_87 pz R R R R R R R) (wnt (wct (wqr ?_))))))
 obtain rfl := oi t0
 exact wqc R tk_87 R pz R fun w hw => ⟨R, hw.weak zn⟩
 refine wck (wqt (wcr (wlq (v := iv c_p2) (po_load_abox q2 tk_3 R R) R (wlq (po_quo R R (by decide)) R ?_))))
 refine wlq (po_add R R) R (bdO t0 fun v2 hv2 t0 => (wlc (cz0 fa_66 R fun w hw => c_impl_WholeCell w (wr ((wr (c_p2.tdiv 5)) + 1)) hv2) R fun _ => (wls (sbx (cs' := [iv v2.Split, iv v2.A, iv v2.B]) tk_87 pz R R R R R R R) (wnt (wct ?_)))))
 obtain rfl := oi t0
 exact wqc R tk_87 R pz R fun w hw => ⟨R, hw.weak zn⟩

theorem c_impl_made (w : World) (a_size : Int) (a_one : Int → Int → Option GCell) (f1 : Nat) (us1 : List Value) (fn1 : FnAt Tryz.prog f1) (hg1 : ∀ (w' : World) (z0 : Int) (z1 : Int) (_ : Keep [] w w') (z : GCell) (_ : a_one z0 z1 = some z), Calls Tryz.prog f1 (([.int .i64 z0, .int .i64 z1] : List Value) ++ us1).toArray w' fun e w'' => e = .returned (.agg #[.int .i64 z.Split, .int .i64 z.A, .int .i64 z.B]) ∧ SH w' [] [] w'') {r : GBlock} (t0 : impl_made a_size a_one = some r) : Calls Tryz.prog 63 #[.int .i64 a_size, .func (.func f1) #[] us1.toArray] w fun e w' => ∃ x : Hd, e = .returned (.agg #[.int .i64 r.Size, (sl x)]) ∧ SH w [] [ownF (sl x) r.Cells] w' := by
 refine cwc (args := [_, _]) Tryz.func63 R Tryz.ntmps63 R ?_
 unfold impl_made at t0
 refine wcr (wle (eal (cs := [iv 0, (sl hn)]) za_56) R fun b1 => (wnt (wcr (mv R R (wlq (po_build R (bd_56_0 a_size)) R (wle (eal (cs := [iv 0, (sl hn)]) za_56) R fun b2 => (wls (sbx (cs' := [iv a_size, (sl hn)]) tk_56 pz R R R R R R R) (wnt (wcs (wcr (mv R R (mv R R (wnt (gdO t0 fun g1 t0 => (lpO_inv t0 fun y1 l1 t0 => (wj (J := List GCell) (X := Hd) (fun z => y1 = z) (fun _ _ => [(4, ptr b1 0), (5, ptr b2 0)]) (fun z x => [box b2 [iv a_size, (sl x)], box b1 [iv 0, (sl hn)], ownF (sl x) z]) ?_ ?_))))))))))))))))
 refine wcb (wcf (X := Hd) l1 (fun k1 s1 x1l => [(0, iv a_size), (1, .func (.func f1) #[] us1.toArray), (4, ptr b1 0), (5, ptr b2 0), (10, iv a_size), (11, iv ((k1 : Nat) : Int))]) (fun k1 s1 x1l => [box b2 [iv a_size, (sl x1l)], box b1 [iv 0, (sl hn)], ownF (sl x1l) s1]) hn (su6 R R R R R R) (zc pz (zc pz (zc pick_nil zn))) fun k1 s1 x1l hN1 l1 => ?_)
 by_cases hk1 : k1 < (a_size).toNat
 refine fos l1 hk1 fun _ t1 l1 => ?_
 unfold impl_made_L1 at t1
 have c1 : (decide (((k1 : Nat) : Int) < a_size)) = true := ddt (by omega)
 refine wcr (wlq (pls R R) R (wnt (wcs (wft R c1 (wck (wqt (wcs (wcb (wcr (mv R R (asg R R (wnt (wcr (mv R R (mv R R (wnt (lpO_inv t1 fun y2 l2 t1 => (wj (J := List GCell) (X := Hd) (fun z => y2 = z) (fun _ _ => [(0, iv a_size), (1, .func (.func f1) #[] us1.toArray), (4, ptr b1 0), (5, ptr b2 0), (10, iv a_size), (11, iv ((k1 : Nat) : Int))]) (fun z x => [box b2 [iv a_size, (sl x)], box b1 [iv 0, (sl hn)], ownF (sl x) z]) ?_ ?_))))))))))))))))))
 refine wcb (wcf (X := Hd) l2 (fun k2 s2 x2l => [(0, iv a_size), (1, .func (.func f1) #[] us1.toArray), (4, ptr b1 0), (5, ptr b2 0), (6, iv ((k1 : Nat) : Int)), (10, iv a_size), (11, iv ((k1 : Nat) : Int)), (14, iv a_size), (15, iv ((k2 : Nat) : Int))]) (fun k2 s2 x2l => [box b2 [iv a_size, (sl x2l)], box b1 [iv 0, (sl hn)], ownF (sl x2l) s2]) x1l (su9 R R R R R R R R R) so3 fun k2 s2 x2l hN2 l2 => ?_)
 by_cases hk2 : k2 < (a_size).toNat
 refine fos l2 hk2 fun _ t2 l2 => ?_
 unfold impl_made_L2 at t2
 have c2 : (decide (((k2 : Nat) : Int) < a_size)) = true := ddt (by omega)
 refine wcr (wlq (pls R R) R (wnt (wcs (wft R c2 (wck (wqt (wcs (wcb (wcr (mv R R (asg R R (wnt (wcd [box b2 [iv a_size, (sl x2l)], box b1 [iv 0, (sl hn)]] 9 mixed (aq 0 R (pof fo_56_1 R) so2 R (aq (v := (sl x2l)) 1 R (plx tk_54 pz R R) so2 R (aq 2 R (pom R) so2 R (aq 3 R (pom R) so2 R (aq 4 R (pom R) so2 R (a1 5 (bdO t2 fun v1 hv1 t2 => (wsc R (co_d fn1 R R fun w hw => hg1 w ((k2 : Nat) : Int) ((k1 : Nat) : Int) hw.keep _ hv1) (fun _ => (zt so2)) R fun _ => (a1 6 (wse R (ebs R (sb_54_1 v1.Split v1.A v1.B)) (fun _ => (zt (zc pk1 (zc pk1 zn)))) R fun b3 => (a1 7 (gdO t2 fun g2 t2 => (wse R (eo_append (xs := s2) (ys := ([v1] : List GCell)) ak_54 pk3 R R (slin_rd fun _ g => Rg.on (rgo (pbo pz (n := 1) (xs := ([v1] : List GCell)) R R (by unfold maxLen; omega))) g) g2) (fun _ => (zt (zc pk2 (zc pk2 zn)))) R fun x3 => ?_))))))))))))))))))))))))))
 refine aq 8 R (pof fo_56_1 R) (zc pk2 (zc pk2 zn)) R (a1 9 (ws_skipop R (sbx (cs' := [iv a_size, (sl x3)]) tk_54 pk2 R R R R R R R) (sts_past (by kernel_rfl)) ?_))
 refine ae (wqb (wqt (wcg (wlq (po_inc R R (by omega)) R ?_))))
 exact mv R R (wln (wq_rnd hk2 (stpN l2 t2) x3 (su9 R R R R R R R R R) (zc pz (zc pk2 so1))))
 have c2 : (decide (((k2 : Nat) : Int) < a_size)) = false := ddf (by omega)
 have en1 := foe l2 hk2
 exact wcr (wlq (pls R R) R (wnt (wcs (wff R c2 (wcx (wqe (wqe (wbx (wjm _ x2l (Sum.inl.inj en1) (su6 R R R R R R) so3)))))))))
 intro e2 x2 hp
 obtain rfl : e2 = y2 := hp.symm
 refine wqb (wqt (wcg (wlq (po_inc R R (by omega)) R ?_)))
 exact mv R R (wln (wq_rnd hk1 (stpN l1 t1) x2 (su6 R R R R R R) so3))
 have c1 : (decide (((k1 : Nat) : Int) < a_size)) = false := ddf (by omega)
 have en2 := foe l1 hk1
 exact wcr (wlq (pls R R) R (wnt (wcs (wff R c1 (wcx (wqe (wqe (wbx (wjm _ x1l (Sum.inl.inj en2) (su2 R R) so3)))))))))
 intro e1 x1 hp
 obtain rfl : e1 = y1 := hp.symm
 refine wqt (wcr (wlq (v := .agg #[iv a_size, (sl x1)]) (plb tk_56 pz R R R) R (wls (sbx (cs' := [iv a_size, (sl x1)]) tk_56 pk1 R R R R R R R) (wnt (wct ?_)))))
 obtain rfl := oi t0
 exact wqc R tk_56 R pz R fun w hw => ⟨x1, R, hw.weak (zc pk2 zn)⟩

theorem c_impl_SampleBlock (w : World) (a_n : Int) {r : GBlock} (t0 : impl_SampleBlock a_n = some r) : Calls Tryz.prog 39 #[.int .i64 a_n] w fun e w' => ∃ x : Hd, e = .returned (.agg #[.int .i64 r.Size, (sl x)]) ∧ SH w [] [ownF (sl x) r.Cells] w' := by
 refine cwc (args := [_]) Tryz.func39 R Tryz.ntmps39 R ?_
 unfold impl_SampleBlock at t0
 refine wcr (wle (eo_box R R) R fun b1 => (wle (eal (cs := [iv 0, (sl hn)]) za_56) R fun b2 => (wnt (wcs (wcb (wcr (wlq (v := iv a_n) (plx tk_3 pk1 R R) R (wlq (pol R R) R (asg R R (wnt (wcO t0 R (fun h1 t0 => ?_) fun h1 t0 => ?_)))))))))))
 refine wcr (bdO t0 fun v1 hv1 t0 => (wlc (cz1 fa_62 R fun w hw => c_impl_StarBlock w hv1) R fun x1 => (wls (sbx (cs' := [iv v1.Size, (sl x1)]) tk_56 pk1 R R R R R R R) (wnt (wct (wbr (wqr ?_)))))))
 obtain rfl := oi t0
 exact wqc R tk_56 R pz R fun w hw => ⟨x1, R, hw.weak (zc pk1 zn)⟩
 refine wcr (wlq (v := iv a_n) (plx tk_3 pk1 R R) R (bdO t0 fun v2 hv2 t0 => (wlc (cz0 fa_35 R fun w hw => c_impl_within w a_n 1 9 hv2) R fun _ => (wlq (po_not R) R (asg R R (wnt (wcO t0 R (fun h2 t0 => ?_) fun h2 t0 => ?_)))))))
 refine wcr (wlq (po_build R bd_56) R (wls (sbx (cs' := [iv 0, (sl hn)]) tk_56 pz R R R R R R R) (wnt (wct (wbr (wqr ?_))))))
 obtain rfl := oi t0
 exact wqc R tk_56 R pz R fun w hw => ⟨hn, R, hw.weak (zc pick_nil zn)⟩
 refine wck (wqb (wqt (wcr (wlq (po_makeFunc R) R (bdO t0 fun v3 hv3 t0 => (wlc (cz1 fa_63 R fun w hw => c_impl_made w 2 (fun z0 z1 => impl_SampleBlock_c1 z0 z1 a_n) 64 [ptr b1 0] fa_64 (fun w2 z0 z1  hk _ hz => c_impl_SampleBlock_c1 w2 z0 z1 a_n b1 (Bx.keep (hw.at_box pk1) hk) hz) hv3) R fun x2 => (wls (sbx (cs' := [iv v3.Size, (sl x2)]) tk_56 pk1 R R R R R R R) (wnt (wct ?_)))))))))
 obtain rfl := oi t0
 exact wqc R tk_56 R pz R fun w hw => ⟨x2, R, hw.weak (zc pk1 zn)⟩

theorem c_impl_Block_isPlace (w : World) (a_b : GBlock) (v0a : Hd) (r0 : rdF w (dm w []) (sl v0a) a_b.Cells) (a_x : Int) (a_y : Int) {r : Bool} (t0 : impl_Block_isPlace a_b a_x a_y = some r) : Calls Tryz.prog 75 #[.agg #[.int .i64 a_b.Size, (sl v0a)], .int .i64 a_x, .int .i64 a_y] w fun e w' => e = .returned (.bool r) ∧ SH w [] [] w' := by
 refine cwc (args := [_, _, _]) Tryz.func75 R Tryz.ntmps75 R ?_
 unfold impl_Block_isPlace at t0
 refine wcr (wle (eo_box R R) R fun b1 => (asg R R (wnt (wcs (bdO t0 fun y1 t1 t0 => (wj (J := Bool) (X := Unit) (fun z => y1 = z) (fun z _ => [(6, .bool z)]) (fun _ _ => []) ?_ ?_))))))
 refine wcg (wlq (v := .agg #[iv a_b.Size, (sl v0a)]) (plb tk_56 pz R R R) R (bdO t1 fun v1 hv1 t1 => (wlc (cz0 fa_46 R fun w hw => c_impl_BlockOk w a_b v0a (ra r0 hw) hv1) R fun _ => (mv R R (wlo (t := 9) t1 R (fun h1 t1 => ?_) fun h1 t1 => ?_)))))
 refine wgn (j := 2) R R R (mv R R (wgn (j := 2) R R R (wlq (pof fo_56_0 R) R (wgn (j := 2) R R R (wlq (v := iv a_b.Size) (plx tk_3 pz R R) R (wgn (j := 2) R R R (wlq (po_sub R R) R (bdO t1 fun v2 hv2 t1 => (wgn (j := 2) R R R (wlc (cz0 fa_35 R fun w hw => c_impl_within w a_x 0 (wr (a_b.Size - 1)) hv2) R (fun _ => (wlq (pit R R) R (mv R R (wlo (t := 16) t1 R (fun h2 t1 => ?_) fun h2 t1 => ?_))))))))))))))
 exact wgn (j := 9) R R R (mv R R (wgn (j := 9) R R R (wlq (pof fo_56_0 R) R (wgn (j := 9) R R R (wlq (v := iv a_b.Size) (plx tk_3 pz R R) R (wgn (j := 9) R R R (wlq (po_sub R R) R (bdO t1 fun v3 hv3 t1 => (wgn (j := 9) R R R (wlc (cz0 fa_35 R fun w hw => c_impl_within w a_y 0 (wr (a_b.Size - 1)) hv3) R (fun _ => (wlq (pit R R) R (asg R R (wln (wjm _ () (mtE t1) (su1 R) zn)))))))))))))))
 exact wgf (j := 9) R R R R R (wgf (j := 9) R R R R R (wgf (j := 9) R R R R R (wgf (j := 9) R R R R R (wgf (j := 9) R R R R R (wlq (pif R R) R (asg R R (wln (wjm _ () (mtE t1) (su1 R) zn))))))))
 exact wgf (j := 2) R R R R R (wgf (j := 2) R R R R R (wgf (j := 2) R R R R R (wgf (j := 2) R R R R R (wgf (j := 2) R R R R R (wlq (pif R R) R (mv R R (wgf (j := 9) R R R R R (wgf (j := 9) R R R R R (wgf (j := 9) R R R R R (wgf (j := 9) R R R R R (wgf (j := 9) R R R R R (wlq (pif R R) R (asg R R (wln (wjm _ () (mtE t1) (su1 R) zn)))))))))))))))
 intro j1 _ hp
 obtain rfl : j1 = y1 := hp.symm
 refine wqt (wct ?_)
 obtain rfl := oi t0
 exact wq1 R R fun w hw => ⟨R, hw.weak zn⟩

theorem c_impl_CellAt (w : World) (a_b : GBlock) (v0a : Hd) (r0 : rdF w (dm w []) (sl v0a) a_b.Cells) (a_x : Int) (a_y : Int) {r : GCell} (t0 : impl_CellAt a_b a_x a_y = some r) : Calls Tryz.prog 48 #[.agg #[.int .i64 a_b.Size, (sl v0a)], .int .i64 a_x, .int .i64 a_y] w fun e w' => e = .returned (.agg #[.int .i64 r.Split, .int .i64 r.A, .int .i64 r.B]) ∧ SH w [] [] w' := by
 refine cwc (args := [_, _, _]) Tryz.func48 R Tryz.ntmps48 R ?_
 unfold impl_CellAt at t0
 refine wcr (wle (eo_box R R) R fun b1 => (wle (eal (cs := [iv 0, iv 0, iv 0]) za_87) R fun b2 => (wnt (wcs (wcr (wlq (v := .agg #[iv a_b.Size, (sl v0a)]) (plb tk_56 pk1 R R R) R (mv R R (mv R R (bdO t0 fun v1 hv1 t0 => (wlc (cz0 fa_75 R fun w hw => c_impl_Block_isPlace w a_b v0a (ra r0 hw) a_x a_y hv1) R fun _ => (wlq (po_not R) R (wnt (wcO t0 R (fun h1 t0 => ?_) fun h1 t0 => ?_)))))))))))))
 refine wcr (wlq (po_build R bd_87) R (wls (sbx (cs' := [iv 0, iv 0, iv 0]) tk_87 pz R R R R R R R) (wnt (wct (wqr ?_)))))
 obtain rfl := oi t0
 exact wqc R tk_87 R pz R fun w hw => ⟨R, hw.weak zn⟩
 refine wck (wqt (wcr (wlq (pof fo_56_1 R) R (wlq (v := (sl v0a)) (plx tk_54 pk1 R R) R (mv R R (wlq (pof fo_56_0 R) R (wlq (v := iv a_b.Size) (plx tk_3 pk1 R R) R (wlq (po_mul R R) R (mv R R (wlq (po_add R R) R (gdO t0 fun g1 t0 => (wlq (po_ixr (rga r0) el_54 R R g1.1 g1.2) R (wlq (v := .agg #[iv ((gx a_b.Cells (((wr ((wr (a_y * a_b.Size)) + a_x))).toNat)).Split), iv ((gx a_b.Cells (((wr ((wr (a_y * a_b.Size)) + a_x))).toNat)).A), iv ((gx a_b.Cells (((wr ((wr (a_y * a_b.Size)) + a_x))).toNat)).B)]) (po_ldfs (rga r0) tk_87 R (ix_lt g1) R R R) R (wls (sbx (cs' := [iv ((gx a_b.Cells (((wr ((wr (a_y * a_b.Size)) + a_x))).toNat)).Split), iv ((gx a_b.Cells (((wr ((wr (a_y * a_b.Size)) + a_x))).toNat)).A), iv ((gx a_b.Cells (((wr ((wr (a_y * a_b.Size)) + a_x))).toNat)).B)]) tk_87 pz R R R R R R R) (wnt (wct ?_))))))))))))))))
 obtain rfl := oi t0
 exact wqc R tk_87 R pz R fun w hw => ⟨R, hw.weak zn⟩

theorem c_impl_MirrorCell (w : World) (a_c : GCell) {r : GCell} (t0 : impl_MirrorCell a_c = some r) : Calls Tryz.prog 167 #[.agg #[.int .i64 a_c.Split, .int .i64 a_c.A, .int .i64 a_c.B]] w fun e w' => e = .returned (.agg #[.int .i64 r.Split, .int .i64 r.A, .int .i64 r.B]) ∧ SH w [] [] w' := by
 refine cwc (args := [_]) Tryz.func167 R Tryz.ntmps167 R ?_
 unfold impl_MirrorCell at t0
 refine wcr (wle (eo_box R R) R fun b1 => (wle (eal (cs := [iv 0, iv 0, iv 0]) za_87) R fun b2 => (wnt (wcs (wcb (wcr (wlq (v := .agg #[iv a_c.Split, iv a_c.A, iv a_c.B]) (plb tk_87 pk1 R R R) R (bdO t0 fun v1 hv1 t0 => (wlc (cz0 fa_74 R fun w hw => c_impl_CellOk w a_c hv1) R fun _ => (wlq (po_not R) R (asg R R (wnt (wcO t0 R (fun h1 t0 => ?_) fun h1 t0 => ?_)))))))))))))
 refine wcr (wlq (po_build R bd_87) R (wls (sbx (cs' := [iv 0, iv 0, iv 0]) tk_87 pz R R R R R R R) (wnt (wct (wbr (wqr ?_))))))
 obtain rfl := oi t0
 exact wqc R tk_87 R pz R fun w hw => ⟨R, hw.weak zn⟩
 refine wcr (wlq (pof fo_87_0 R) R (wlq (v := iv a_c.Split) (plx tk_3 pk1 R R) R (wlq (pol R R) R (asg R R (wnt (wcO t0 R (fun h2 t0 => ?_) fun h2 t0 => ?_))))))
 refine wcr (wlq (v := .agg #[iv a_c.Split, iv a_c.A, iv a_c.B]) (plb tk_87 pk1 R R R) R (wls (sbx (cs' := [iv a_c.Split, iv a_c.A, iv a_c.B]) tk_87 pz R R R R R R R) (wnt (wct (wbr (wqr ?_))))))
 obtain rfl := oi t0
 exact wqc R tk_87 R pz R fun w hw => ⟨R, hw.weak zn⟩
 refine wck (wqb (wqt (wcr (wlq (pof fo_87_0 R) R (wlq (v := iv a_c.Split) (plx tk_3 pk1 R R) R (wlq (po_sub R R) R (wlq (pof fo_87_2 R) R (wlq (v := iv a_c.B) (plx tk_3 pk1 R R) R (wlq (pof fo_87_1 R) R (wlq (v := iv a_c.A) (plx tk_3 pk1 R R) R (wlq (po_build R (bd_87_0_1_2 (wr (3 - a_c.Split)) a_c.B a_c.A)) R (wls (sbx (cs' := [iv (wr (3 - a_c.Split)), iv a_c.B, iv a_c.A]) tk_87 pz R R R R R R R) (wnt (wct ?_))))))))))))))
 obtain rfl := oi t0
 exact wqc R tk_87 R pz R fun w hw => ⟨R, hw.weak zn⟩

theorem c_impl_MirrorBlock_c1 (w : World) (a_x : Int) (a_y : Int) (c_p2 : GBlock) (v0a : Hd) (r0 : rdF w (dm w []) (sl v0a) c_p2.Cells) (b2c : Nat) (q2 : Bx w b2c [.int .i64 c_p2.Size, (sl v0a)]) {r : GCell} (t0 : impl_MirrorBlock_c1 a_x a_y c_p2 = some r) : Calls Tryz.prog 166 #[.int .i64 a_x, .int .i64 a_y, ptr b2c 0] w fun e w' => e = .returned (.agg #[.int .i64 r.Split, .int .i64 r.A, .int .i64 r.B]) ∧ SH w [] [] w' := by
 refine cwc (args := [_, _, _]) Tryz.func166 R Tryz.ntmps166 R ?_
 unfold impl_MirrorBlock_c1 at t0
 refine wcr (wle (eal (cs := [iv 0, iv 0, iv 0]) za_87) R fun b1 => (wnt (wcr (wlq (v := .agg #[iv c_p2.Size, (sl v0a)]) (po_load_aboxs q2 tk_56 R R R) R (wlq (pof fo_56_0 R) R (wlq (v := iv c_p2.Size) (po_load_abox q2 tk_3 R R) R (wlq (po_sub R R) R (mv R R (wlq (po_sub R R) R (mv R R (bdO t0 fun v1 hv1 t0 => (wlc (cz0 fa_48 R fun w hw => c_impl_CellAt w c_p2 v0a (ra r0 hw) (wr ((wr (c_p2.Size - 1)) - a_x)) a_y hv1) R fun _ => (bdO t0 fun v2 hv2 t0 => (wlc (cz0 fa_167 R fun w hw => c_impl_MirrorCell w v1 hv2) R fun _ => (wls (sbx (cs' := [iv v2.Split, iv v2.A, iv v2.B]) tk_87 pz R R R R R R R) (wnt (wct ?_)))))))))))))))))
 obtain rfl := oi t0
 exact wqc R tk_87 R pz R fun w hw => ⟨R, hw.weak zn⟩

theorem c_impl_MirrorBlock (w : World) (a_b : GBlock) (v0a : Hd) (r0 : rdF w (dm w []) (sl v0a) a_b.Cells) {r : GBlock} (t0 : impl_MirrorBlock a_b = some r) : Calls Tryz.prog 158 #[.agg #[.int .i64 a_b.Size, (sl v0a)]] w fun e w' => ∃ x : Hd, e = .returned (.agg #[.int .i64 r.Size, (sl x)]) ∧ SH w [] [ownF (sl x) r.Cells] w' := by
 refine cwc (args := [_]) Tryz.func158 R Tryz.ntmps158 R ?_
 unfold impl_MirrorBlock at t0
 refine wcr (wle (eo_box R R) R fun b1 => (wle (eal (cs := [iv 0, (sl hn)]) za_56) R fun b2 => (wnt (wcs (wcr (wlq (v := .agg #[iv a_b.Size, (sl v0a)]) (plb tk_56 pk1 R R R) R (bdO t0 fun v1 hv1 t0 => (wlc (cz0 fa_46 R fun w hw => c_impl_BlockOk w a_b v0a (ra r0 hw) hv1) R fun _ => (wlq (po_not R) R (wnt (wcO t0 R (fun h1 t0 => ?_) fun h1 t0 => ?_)))))))))))
 refine wcr (wlq (po_build R bd_56) R (wls (sbx (cs' := [iv 0, (sl hn)]) tk_56 pz R R R R R R R) (wnt (wct (wqr ?_)))))
 obtain rfl := oi t0
 exact wqc R tk_56 R pz R fun w hw => ⟨hn, R, hw.weak (zc pick_nil zn)⟩
 refine wck (wqt (wcr (wlq (pof fo_56_0 R) R (wlq (v := iv a_b.Size) (plx tk_3 pk1 R R) R (wlq (po_makeFunc R) R (bdO t0 fun v2 hv2 t0 => (wlc (cz1 fa_63 R fun w hw => c_impl_made w a_b.Size (fun z0 z1 => impl_MirrorBlock_c1 z0 z1 a_b) 166 [ptr b1 0] fa_166 (fun w2 z0 z1  hk _ hz => c_impl_MirrorBlock_c1 w2 z0 z1 a_b v0a (RdL.later (ra r0 hw) hk) b1 (Bx.keep (hw.at_box pk1) hk) hz) hv2) R fun x1 => (wls (sbx (cs' := [iv v2.Size, (sl x1)]) tk_56 pk1 R R R R R R R) (wnt (wct ?_))))))))))
 obtain rfl := oi t0
 exact wqc R tk_56 R pz R fun w hw => ⟨x1, R, hw.weak (zc pk1 zn)⟩

theorem c_impl_TurnCell (w : World) (a_c : GCell) {r : GCell} (t0 : impl_TurnCell a_c = some r) : Calls Tryz.prog 169 #[.agg #[.int .i64 a_c.Split, .int .i64 a_c.A, .int .i64 a_c.B]] w fun e w' => e = .returned (.agg #[.int .i64 r.Split, .int .i64 r.A, .int .i64 r.B]) ∧ SH w [] [] w' := by
 refine cwc (args := [_]) Tryz.func169 R Tryz.ntmps169 R ?_
 unfold impl_TurnCell at t0
 refine wcr (wle (eo_box R R) R fun b1 => (wle (eal (cs := [iv 0, iv 0, iv 0]) za_87) R fun b2 => (wnt (wcs (wcb (wcr (wlq (v := .agg #[iv a_c.Split, iv a_c.A, iv a_c.B]) (plb tk_87 pk1 R R R) R (bdO t0 fun v1 hv1 t0 => (wlc (cz0 fa_74 R fun w hw => c_impl_CellOk w a_c hv1) R fun _ => (wlq (po_not R) R (asg R R (wnt (wcO t0 R (fun h1 t0 => ?_) fun h1 t0 => ?_)))))))))))))
 refine wcr (wlq (po_build R bd_87) R (wls (sbx (cs' := [iv 0, iv 0, iv 0]) tk_87 pz R R R R R R R) (wnt (wct (wbr (wqr ?_))))))
 obtain rfl := oi t0
 exact wqc R tk_87 R pz R fun w hw => ⟨R, hw.weak zn⟩
 refine wcr (wlq (pof fo_87_0 R) R (wlq (v := iv a_c.Split) (plx tk_3 pk1 R R) R (wlq (pol R R) R (asg R R (wnt (wcO t0 R (fun h2 t0 => ?_) fun h2 t0 => ?_))))))
 refine wcr (wlq (pof fo_87_2 R) R (wlq (v := iv a_c.B) (plx tk_3 pk1 R R) R (wlq (pof fo_87_1 R) R (wlq (v := iv a_c.A) (plx tk_3 pk1 R R) R (wlq (po_build R (bd_87_0_1_2 2 a_c.B a_c.A)) R (wls (sbx (cs' := [iv 2, iv a_c.B, iv a_c.A]) tk_87 pz R R R R R R R) (wnt (wct (wbr (wqr ?_))))))))))
 obtain rfl := oi t0
 exact wqc R tk_87 R pz R fun w hw => ⟨R, hw.weak zn⟩
 refine wcr (wlq (pof fo_87_0 R) R (wlq (v := iv a_c.Split) (plx tk_3 pk1 R R) R (wlq (pol R R) R (asg R R (wnt (wcO t0 R (fun h3 t0 => ?_) fun h3 t0 => ?_))))))
 refine wcr (wlq (pof fo_87_1 R) R (wlq (v := iv a_c.A) (plx tk_3 pk1 R R) R (wlq (pof fo_87_2 R) R (wlq (v := iv a_c.B) (plx tk_3 pk1 R R) R (wlq (po_build R (bd_87_0_1_2 1 a_c.A a_c.B)) R (wls (sbx (cs' := [iv 1, iv a_c.A, iv a_c.B]) tk_87 pz R R R R R R R) (wnt (wct (wbr (wqr ?_))))))))))
 obtain rfl := oi t0
 exact wqc R tk_87 R pz R fun w hw => ⟨R, hw.weak zn⟩
 refine wck (wqb (wqt (wcr (wlq (v := .agg #[iv a_c.Split, iv a_c.A, iv a_c.B]) (plb tk_87 pk1 R R R) R (wls (sbx (cs' := [iv a_c.Split, iv a_c.A, iv a_c.B]) tk_87 pz R R R R R R R) (wnt (wct ?_)))))))
 obtain rfl := oi t0
 exact wqc R tk_87 R pz R fun w hw => ⟨R, hw.weak zn⟩

theorem c_impl_TurnBlock_c1 (w : World) (a_x : Int) (a_y : Int) (c_p2 : GBlock) (v0a : Hd) (r0 : rdF w (dm w []) (sl v0a) c_p2.Cells) (b2c : Nat) (q2 : Bx w b2c [.int .i64 c_p2.Size, (sl v0a)]) {r : GCell} (t0 : impl_TurnBlock_c1 a_x a_y c_p2 = some r) : Calls Tryz.prog 168 #[.int .i64 a_x, .int .i64 a_y, ptr b2c 0] w fun e w' => e = .returned (.agg #[.int .i64 r.Split, .int .i64 r.A, .int .i64 r.B]) ∧ SH w [] [] w' := by
 refine cwc (args := [_, _, _]) Tryz.func168 R Tryz.ntmps168 R ?_
 unfold impl_TurnBlock_c1 at t0
 refine wcr (wle (eal (cs := [iv 0, iv 0, iv 0]) za_87) R fun b1 => (wnt (wcr (wlq (v := .agg #[iv c_p2.Size, (sl v0a)]) (po_load_aboxs q2 tk_56 R R R) R (mv R R (wlq (pof fo_56_0 R) R (wlq (v := iv c_p2.Size) (po_load_abox q2 tk_3 R R) R (wlq (po_sub R R) R (mv R R (wlq (po_sub R R) R (bdO t0 fun v1 hv1 t0 => (wlc (cz0 fa_48 R fun w hw => c_impl_CellAt w c_p2 v0a (ra r0 hw) a_y (wr ((wr (c_p2.Size - 1)) - a_x)) hv1) R fun _ => (bdO t0 fun v2 hv2 t0 => (wlc (cz0 fa_169 R fun w hw => c_impl_TurnCell w v1 hv2) R fun _ => (wls (sbx (cs' := [iv v2.Split, iv v2.A, iv v2.B]) tk_87 pz R R R R R R R) (wnt (wct ?_)))))))))))))))))
 obtain rfl := oi t0
 exact wqc R tk_87 R pz R fun w hw => ⟨R, hw.weak zn⟩

theorem c_impl_TurnBlock (w : World) (a_b : GBlock) (v0a : Hd) (r0 : rdF w (dm w []) (sl v0a) a_b.Cells) {r : GBlock} (t0 : impl_TurnBlock a_b = some r) : Calls Tryz.prog 159 #[.agg #[.int .i64 a_b.Size, (sl v0a)]] w fun e w' => ∃ x : Hd, e = .returned (.agg #[.int .i64 r.Size, (sl x)]) ∧ SH w [] [ownF (sl x) r.Cells] w' := by
 refine cwc (args := [_]) Tryz.func159 R Tryz.ntmps159 R ?_
 unfold impl_TurnBlock at t0
 refine wcr (wle (eo_box R R) R fun b1 => (wle (eal (cs := [iv 0, (sl hn)]) za_56) R fun b2 => (wnt (wcs (wcr (wlq (v := .agg #[iv a_b.Size, (sl v0a)]) (plb tk_56 pk1 R R R) R (bdO t0 fun v1 hv1 t0 => (wlc (cz0 fa_46 R fun w hw => c_impl_BlockOk w a_b v0a (ra r0 hw) hv1) R fun _ => (wlq (po_not R) R (wnt (wcO t0 R (fun h1 t0 => ?_) fun h1 t0 => ?_)))))))))))
 refine wcr (wlq (po_build R bd_56) R (wls (sbx (cs' := [iv 0, (sl hn)]) tk_56 pz R R R R R R R) (wnt (wct (wqr ?_)))))
 obtain rfl := oi t0
 exact wqc R tk_56 R pz R fun w hw => ⟨hn, R, hw.weak (zc pick_nil zn)⟩
 refine wck (wqt (wcr (wlq (pof fo_56_0 R) R (wlq (v := iv a_b.Size) (plx tk_3 pk1 R R) R (wlq (po_makeFunc R) R (bdO t0 fun v2 hv2 t0 => (wlc (cz1 fa_63 R fun w hw => c_impl_made w a_b.Size (fun z0 z1 => impl_TurnBlock_c1 z0 z1 a_b) 168 [ptr b1 0] fa_168 (fun w2 z0 z1  hk _ hz => c_impl_TurnBlock_c1 w2 z0 z1 a_b v0a (RdL.later (ra r0 hw) hk) b1 (Bx.keep (hw.at_box pk1) hk) hz) hv2) R fun x1 => (wls (sbx (cs' := [iv v2.Size, (sl x1)]) tk_56 pk1 R R R R R R R) (wnt (wct ?_))))))))))
 obtain rfl := oi t0
 exact wqc R tk_56 R pz R fun w hw => ⟨x1, R, hw.weak (zc pk1 zn)⟩

theorem c_impl_SeenFrom (w : World) (a_b : GBlock) (v0a : Hd) (r0 : rdF w (dm w []) (sl v0a) a_b.Cells) (a_k : Int) {r : GBlock} (t0 : impl_SeenFrom a_b a_k = some r) : Calls Tryz.prog 146 #[.agg #[.int .i64 a_b.Size, (sl v0a)], .int .i64 a_k] w fun e w' => ∃ x : Hd, e = .returned (.agg #[.int .i64 r.Size, (sl x)]) ∧ SH w [] [ownF (sl x) r.Cells] w' := by
 refine cwc (args := [_, _]) Tryz.func146 R Tryz.ntmps146 R ?_
 unfold impl_SeenFrom at t0
 refine wcr (wle (eo_box R R) R fun b1 => (wle (eal (cs := [iv 0, (sl hn)]) za_56) R fun b2 => (wnt (wcs (wcs (bdO t0 fun y1 t1 t0 => (wj (J := Bool) (X := Unit) (fun z => y1 = z) (fun z _ => [(1, iv a_k), (2, ptr b1 0), (4, ptr b2 0), (13, .bool z)]) (fun _ _ => [box b2 [iv 0, (sl hn)], box b1 [iv a_b.Size, (sl v0a)]]) ?_ ?_)))))))
 refine wcg (wlq (v := .agg #[iv a_b.Size, (sl v0a)]) (plb tk_56 pk1 R R R) R (bdO t1 fun v1 hv1 t1 => (wlc (cz0 fa_46 R fun w hw => c_impl_BlockOk w a_b v0a (ra r0 hw) hv1) R fun _ => (wlq (po_not R) R (mv R R (wlo (t := 9) t1 R (fun h1 t1 => ?_) fun h1 t1 => ?_))))))
 exact wgf (j := 3) R R R R R (wgf (j := 3) R R R R R (wgf (j := 3) R R R R R (wlq (pit R R) R (wln (wjm _ () (mtE t1) (su4 R R R R) so2)))))
 exact wgn (j := 3) R R R (mv R R (bdO t1 fun v2 hv2 t1 => (wgn (j := 3) R R R (wlc (cz0 fa_35 R fun w hw => c_impl_within w a_k 0 7 hv2) R (fun _ => (wgn (j := 3) R R R (wlq (po_not R) R (wlq (pif R R) R (wln (wjm _ () (mtE t1) (su4 R R R R) so2))))))))))
 intro j1 _ hp
 obtain rfl : j1 = y1 := hp.symm
 refine wqt (wcO t0 R (fun h2 t0 => ?_) fun h2 t0 => ?_)
 refine wcr (wlq (po_build R bd_56) R (wls (sbx (cs' := [iv 0, (sl hn)]) tk_56 pz R R R R R R R) (wnt (wct (wqr ?_)))))
 obtain rfl := oi t0
 exact wqc R tk_56 R pz R fun w hw => ⟨hn, R, hw.weak (zc pick_nil zn)⟩
 refine wck (wqt (wcr (wlq (v := .agg #[iv a_b.Size, (sl v0a)]) (plb tk_56 pk1 R R R) R (bdO t0 fun v3 hv3 t0 => (wlc (cz1 fa_29 R fun w hw => c_impl_Block_copied w a_b v0a (ra r0 hw) hv3) R fun x2 => (wle (eal (cs := [iv 0, (sl hn)]) za_56) R fun b3 => (wls (sbx (cs' := [iv v3.Size, (sl x2)]) tk_56 pz R R R R R R R) (wnt (wcs (wcr (mv R R (wlq (po_geq R R) R (wnt (bdO t0 fun y1 t1 t0 => (wj (J := GBlock) (X := Hd) (fun z => y1 = z) (fun _ _ => [(1, iv a_k), (4, ptr b2 0), (5, ptr b3 0)]) (fun z x => [box b3 [iv ((z).Size), (sl x)], box b2 [iv 0, (sl hn)], ownF (sl x) ((z).Cells)]) ?_ ?_)))))))))))))))
 refine wcO t1 R (fun h3 t1 => ?_) fun h3 t1 => ?_
 exact wcg (wlq (v := .agg #[iv a_b.Size, (sl v0a)]) (plb tk_56 pk3 R R R) R (bdO t1 fun v4 hv4 t1 => (wlc (cz1 fa_158 R fun w hw => c_impl_MirrorBlock w a_b v0a (ra r0 hw) hv4) R fun x4 => (wls (sbx (cs' := [iv v4.Size, (sl x4)]) tk_56 pk1 R R R R R R R) (wln (wjm _ x4 (mtE t1) (su3 R R R) (zc pz (zc pk2 so1))))))))
 exact wck (wjm _ x2 (mtE t1) (su3 R R R) (zc pz (zc pk1 so1)))
 intro j2 x3 hp
 obtain rfl : j2 = y1 := hp.symm
 refine wqt (wcs (wcr (mv R R (wlq (po_rem R R (by decide)) R ?_))))
 refine mv R R (wnt (gdO t0 fun g1 t0 => (lpO_inv t0 fun y1 l1 t0 => (wj (J := Int × (List GCell)) (X := Hd) (fun z => y1 = z) (fun _ _ => [(4, ptr b2 0), (5, ptr b3 0)]) (fun z x => [box b3 [iv z.1, (sl x)], box b2 [iv 0, (sl hn)], ownF (sl x) z.2]) ?_ ?_))))
 refine wcb (wcf (X := Hd) l1 (fun k1 s1 x1l => [(4, ptr b2 0), (5, ptr b3 0), (22, iv (a_k.tmod 4)), (23, iv ((k1 : Nat) : Int))]) (fun k1 s1 x1l => [box b3 [iv s1.1, (sl x1l)], box b2 [iv 0, (sl hn)], ownF (sl x1l) s1.2]) x3 (su4 R R R R) so3 fun k1 s1 x1l hN1 l1 => ?_)
 by_cases hk1 : k1 < ((a_k.tmod 4)).toNat
 refine fos l1 hk1 fun _ t1 l1 => ?_
 unfold impl_SeenFrom_L1 at t1
 have c1 : (decide (((k1 : Nat) : Int) < (a_k.tmod 4))) = true := ddt (by omega)
 refine wcr (wlq (pls R R) R (wnt (wcs (wft R c1 (wck (wqt (wcs (wcb (wcg (wlq (v := .agg #[iv s1.1, (sl x1l)]) (plb tk_56 pz R R R) R (bdO t1 fun v5 hv5 t1 => (wlc (cz1 fa_159 R fun w hw => c_impl_TurnBlock w (GBlock.mk s1.1 s1.2) x1l (Rg.on (rgo pk2) hw) hv5) R fun x6 => (wls (sbx (cs' := [iv v5.Size, (sl x6)]) tk_56 pk1 R R R R R R R) (wln (wqb (wqt (wcg (wlq (po_inc R R (by omega)) R ?_))))))))))))))))))
 exact mv R R (wln (wq_rnd hk1 (stpN l1 t1) x6 (su4 R R R R) (zc pz (zc pk1 so1))))
 have c1 : (decide (((k1 : Nat) : Int) < (a_k.tmod 4))) = false := ddf (by omega)
 have en1 := foe l1 hk1
 exact wcr (wlq (pls R R) R (wnt (wcs (wff R c1 (wcx (wqe (wqe (wbx (wjm _ x1l (Sum.inl.inj en1) (su2 R R) so3)))))))))
 intro e1 x5 hp
 obtain rfl : e1 = y1 := hp.symm
 refine wqt (wcr (wlq (v := .agg #[iv e1.1, (sl x5)]) (plb tk_56 pz R R R) R (wls (sbx (cs' := [iv e1.1, (sl x5)]) tk_56 pk1 R R R R R R R) (wnt (wct ?_)))))
 obtain rfl := oi t0
 exact wqc R tk_56 R pz R fun w hw => ⟨x5, R, hw.weak (zc pk2 zn)⟩

theorem c_impl_views (w : World) (a_b : GBlock) (v0a : Hd) (r0 : rdF w (dm w []) (sl v0a) a_b.Cells) {r : List GBlock} (t0 : impl_views a_b = some r) : Calls Tryz.prog 132 #[.agg #[.int .i64 a_b.Size, (sl v0a)]] w fun e w' => ∃ x : Hd × (List Value), e = .returned ((sl x.1)) ∧ SH w [] [own (sl x.1) x.2 r] w' := by
 refine cwc (args := [_]) Tryz.func132 R Tryz.ntmps132 R ?_
 unfold impl_views at t0
 refine wcr (wle (eo_box R R) R fun b1 => (asg R R (wnt (wcr (wle (ebs R sb_154_0) R fun b2 => (asg R R (wnt (wcs (wcr (mv R R (wnt (lpO_inv t0 fun y1 l1 t0 => (wj (J := List GBlock) (X := Hd × (List Value)) (fun z => y1 = z) (fun _ x => [(3, (sl x.1))]) (fun z x => [own (sl x.1) x.2 z]) ?_ ?_)))))))))))))
 refine wcb (wcf (X := Hd × (List Value)) l1 (fun k1 s1 x1l => [(1, ptr b1 0), (3, (sl x1l.1)), (6, iv ((k1 : Nat) : Int))]) (fun k1 s1 x1l => [box b1 [iv a_b.Size, (sl v0a)], own (sl x1l.1) x1l.2 s1]) ((⟨some ⟨b2, 0, none⟩, 0, 0⟩ : Hd), []) (su3 R R R) (zc pk1 (zc (pick_box_nil pz) zn)) fun k1 s1 x1l hN1 l1 => ?_)
 by_cases hk1 : k1 < 8
 refine fos l1 hk1 fun _ t1 l1 => ?_
 unfold impl_views_L1 at t1
 have c1 : (decide (((k1 : Nat) : Int) < 8)) = true := ddt (by omega)
 refine wcr (wlq (pls R R) R (wnt (wcs (wft R c1 (wck (wqt (wcs (wcb (wcr (mv R R (asg R R (wnt (wcg (mv R R (wlq (v := .agg #[iv a_b.Size, (sl v0a)]) (plb tk_56 pz R R R) R (mv R R (bdO t1 fun v1 hv1 t1 => (wlc (cz1 fa_146 R fun w hw => c_impl_SeenFrom w a_b v0a (ra r0 hw) ((k1 : Nat) : Int) hv1) R fun x2 => (wle (ebs R (sb_154_1 v1.Size x2)) R fun b3 => (gdO t1 fun g1 t1 => (wle (eo_append_one (us := x1l.2) (xs := s1) ak_154 pk3 (pow_GBlock (x := v1) pk1) pz R R R g1) R fun x3 => (asg R R (wln (wqb (wqt (wcg (wlq (po_inc R R (by omega)) R ?_)))))))))))))))))))))))))))
 exact mv R R (wln (wq_rnd hk1 (stpN l1 t1) (x3, (x1l.2 ++ [iv v1.Size, (sl x2)])) (su3 R R R) (zc pk2 so1)))
 have c1 : (decide (((k1 : Nat) : Int) < 8)) = false := ddf (by omega)
 have en1 := foe l1 hk1
 exact wcr (wlq (pls R R) R (wnt (wcs (wff R c1 (wcx (wqe (wqe (wbx (wjm _ (x1l.1, x1l.2) (Sum.inl.inj en1) (su1 R) (zc pk1 zn))))))))))
 intro e1 x1 hp
 obtain rfl : e1 = y1 := hp.symm
 refine wqt (wcr (mv R R (asg R R (wnt (wct ?_)))))
 obtain rfl := oi t0
 exact wq1 R R fun w hw => ⟨(x1.1, x1.2), R, hw.weak so1⟩

theorem c_impl_indexOf (w : World) (a_list : List Int) (v0a : Hd) (r0 : rdF w (dm w []) (sl v0a) a_list) (a_n : Int) {r : Int} (t0 : impl_indexOf a_list a_n = some r) : Calls Tryz.prog 160 #[(sl v0a), .int .i64 a_n] w fun e w' => e = .returned (.int .i64 r) ∧ SH w [] [] w' := by
 refine cwc (args := [_, _]) Tryz.func160 R Tryz.ntmps160 R ?_
 unfold impl_indexOf at t0
 refine wcr (asg R R (wnt (wcs (wcr (mv R R (wlq (pln (rga r0) el_25 R) R (mv R R (wnt (gdO t0 fun g1 t0 => (sqO t0 fun y1 l1 t0 => (wj (J := Unit) (X := Unit) (fun z => y1 = .inl z) (fun _ _ => []) (fun _ _ => []) ?_ ?_)))))))))))
 refine wcb (wcf (X := Unit) l1 (fun k1 s1 x1l => [(1, iv a_n), (7, (sl v0a)), (8, iv ((a_list.length : Nat) : Int)), (9, iv ((k1 : Nat) : Int))]) (fun k1 s1 x1l => []) () (su4 R R R R) zn fun k1 s1 x1l hN1 l1 => ?_)
 by_cases hk1 : k1 < a_list.length
 refine fos l1 hk1 fun _ t1 l1 => ?_
 unfold impl_indexOf_L1 at t1
 have c1 : (decide (((k1 : Nat) : Int) < ((a_list.length : Nat) : Int))) = true := ddt (by omega)
 refine wcr (wlq (pls R R) R (wnt (wcs (wft R c1 (wck (wqt (wcs (wcb (wcr (mv R R (wlq (po_ixn (k := k1) (rga r0) el_25 R R hk1) R (wlq (v := iv (gx a_list k1)) (po_ldf (rga r0) tk_3 R hk1 R) R (asg R R (asg R R (wnt (wcr (mv R R (mv R R (wlq (pol R R) R (wnt (wcO t1 R (fun h1 t1 => ?_) fun h1 t1 => ?_)))))))))))))))))))))
 refine wcr (mv R R (asg R R (wnt (wct (wbr (wqr (wqr (wbr (wqr (wqr ?_))))))))))
 replace t0 := lpR t0 l1 t1
 obtain rfl := oi t0
 exact wq1 R R fun w hw => ⟨R, hw.weak zn⟩
 refine wck (wqb (wqt (wcg (wlq (po_inc R R (by omega)) R ?_))))
 exact mv R R (wln (wq_rnd hk1 (stpN l1 t1) () (su4 R R R R) zn))
 have c1 : (decide (((k1 : Nat) : Int) < ((a_list.length : Nat) : Int))) = false := ddf (by omega)
 have en1 := foe l1 hk1
 exact wcr (wlq (pls R R) R (wnt (wcs (wff R c1 (wcx (wqe (wqe (wbx (wjm _ () en1 yn zn)))))))))
 intro e1 _ hp
 replace t0 := sqE (j := e1) t0 hp
 refine wqt (wcr (asg R R (wnt (wct ?_))))
 obtain rfl := oi t0
 exact wq1 R R fun w hw => ⟨R, hw.weak zn⟩

theorem c_impl_put (w : World) (a_list : List Int) (v0a : Hd) (r0 : rdF w (dm w []) (sl v0a) a_list) (a_n : Int) {r : List Int} (t0 : impl_put a_list a_n = some r) : Calls Tryz.prog 174 #[(sl v0a), .int .i64 a_n] w fun e w' => ∃ x : Hd, e = .returned ((sl x)) ∧ SH w [] [ownF (sl x) r] w' := by
 refine cwc (args := [_, _]) Tryz.func174 R Tryz.ntmps174 R ?_
 unfold impl_put at t0
 refine wcr (asg R R (wnt (wcr (wle (ebs R sb_25_0) R fun b1 => (asg R R (asg R R (wnt (wcs (wcr (mv R R (wlq (pln (rga r0) el_25 R) R (mv R R (wnt (gdO t0 fun g1 t0 => (lpO_inv t0 fun y1 l1 t0 => (wj (J := (List Int) × Bool) (X := Hd) (fun z => y1 = z) (fun z x => [(1, iv a_n), (5, (sl x)), (6, .bool z.2)]) (fun z x => [ownF (sl x) z.1]) ?_ ?_))))))))))))))))
 refine wcb (wcf (X := Hd) l1 (fun k1 s1 x1l => [(1, iv a_n), (5, (sl x1l)), (6, .bool s1.2), (10, (sl v0a)), (11, iv ((a_list.length : Nat) : Int)), (12, iv ((k1 : Nat) : Int))]) (fun k1 s1 x1l => [ownF (sl x1l) s1.1]) (⟨some ⟨b1, 0, none⟩, 0, 0⟩ : Hd) (su6 R R R R R R) (zc (pbo pz (n := 0) (xs := ([] : List Int)) R R (by unfold maxLen; omega)) zn) fun k1 s1 x1l hN1 l1 => ?_)
 by_cases hk1 : k1 < a_list.length
 refine fos l1 hk1 fun _ t1 l1 => ?_
 unfold impl_put_L1 at t1
 have c1 : (decide (((k1 : Nat) : Int) < ((a_list.length : Nat) : Int))) = true := ddt (by omega)
 refine wcr (wlq (pls R R) R (wnt (wcs (wft R c1 (wck (wqt (wcs (wcb (wcr (wlq (po_ixn (k := k1) (rga r0) el_25 R R hk1) R (wlq (v := iv (gx a_list k1)) (po_ldf (rga r0) tk_3 R hk1 R) R (asg R R (wnt (wcs (wcs (wcj (X := Unit) (fun _ => True) (fun _ => [(1, iv a_n), (5, (sl x1l)), (6, .bool s1.2), (8, iv (gx a_list k1)), (10, (sl v0a)), (11, iv ((a_list.length : Nat) : Int)), (12, iv ((k1 : Nat) : Int)), (22, .bool ((!s1.2) && (decide (a_n ≤ (gx a_list k1)))))]) (fun _ => [ownF (sl x1l) s1.1]) ?_ ?_))))))))))))))))
 refine wcg (mv R R (wlq (po_not R) R (mv R R (wl_fork (t := 18) R (fun h1 => ?_) fun h1 => ?_))))
 exact wgn (j := 2) R R R (mv R R (wgn (j := 2) R R R (mv R R (wgn (j := 2) R R R (wlq (po_leq R R) R (wlq (pit R R) R (wln (wqm () trivial (yc R (yc R (yc R (yc R (yc R (yc R (yc R (sub_b R (by rw [h1]; rfl) yn)))))))) so1))))))))
 exact wgf (j := 2) R R R R R (wgf (j := 2) R R R R R (wgf (j := 2) R R R R R (wlq (pif R R) R (wln (wqm () trivial (yc R (yc R (yc R (yc R (yc R (yc R (yc R (sub_b R (by rw [h1]; rfl) yn)))))))) so1)))))
 intro _ _
 refine wqt (bdO t1 fun y2 t2 t1 => (wj (J := (List Int) × Bool) (X := Hd) (fun z => y2 = z) (fun z x => [(1, iv a_n), (5, (sl x)), (6, .bool z.2), (8, iv (gx a_list k1)), (10, (sl v0a)), (11, iv ((a_list.length : Nat) : Int)), (12, iv ((k1 : Nat) : Int))]) (fun z x => [ownF (sl x) z.1]) ?_ ?_))
 refine wcO t2 R (fun h2 t2 => ?_) fun h2 t2 => ?_
 refine wcr (mv R R (mv R R (wle (ebs R (sb_25_1 a_n)) R fun b2 => (gdO t2 fun g2 t2 => (wle (eo_append (xs := s1.1) (ys := ([a_n] : List Int)) ak_25 pk1 R R (slin_rd fun _ g => Rg.on (rgo (pbo pz (n := 1) (xs := ([a_n] : List Int)) R R (by unfold maxLen; omega))) g) g2) R fun x4 => ?_)))))
 exact asg R R (wnt (wcg (asg R R (wln (wjm _ x4 (mtE t2) (su7 R R R R R R R) so1)))))
 exact wck (wjm _ x1l (mtE t2) (su7 R R R R R R R) so1)
 intro j2 x3 hp
 obtain rfl : j2 = y2 := hp.symm
 refine wqt (wcg (mv R R (mv R R (wle (ebs R (sb_25_1 (gx a_list k1))) R fun b3 => (gdO t1 fun g3 t1 => (wle (eo_append (xs := j2.1) (ys := ([(gx a_list k1)] : List Int)) ak_25 pk1 R R (slin_rd fun _ g => Rg.on (rgo (pbo pz (n := 1) (xs := ([(gx a_list k1)] : List Int)) R R (by unfold maxLen; omega))) g) g3) R fun x5 => ?_))))))
 refine asg R R (wln (wqb (wqt (wcg (wlq (po_inc R R (by omega)) R ?_)))))
 exact mv R R (wln (wq_rnd hk1 (stpN l1 t1) x5 (su6 R R R R R R) so1))
 have c1 : (decide (((k1 : Nat) : Int) < ((a_list.length : Nat) : Int))) = false := ddf (by omega)
 have en1 := foe l1 hk1
 exact wcr (wlq (pls R R) R (wnt (wcs (wff R c1 (wcx (wqe (wqe (wbx (wjm _ x1l (Sum.inl.inj en1) (su3 R R R) so1)))))))))
 intro e1 x1 hp
 obtain rfl : e1 = y1 := hp.symm
 refine wqt (wcs (wcr (mv R R (wlq (po_not R) R (wnt (bdO t0 fun y1 t1 t0 => (wj (J := List Int) (X := Hd) (fun z => y1 = z) (fun _ x => [(5, (sl x))]) (fun z x => [ownF (sl x) z]) ?_ ?_)))))))
 refine wcO t1 R (fun h3 t1 => ?_) fun h3 t1 => ?_
 refine wcg (mv R R (mv R R (wle (ebs R (sb_25_1 a_n)) R fun b4 => (gdO t1 fun g4 t1 => (wle (eo_append (xs := e1.1) (ys := ([a_n] : List Int)) ak_25 pk1 R R (slin_rd fun _ g => Rg.on (rgo (pbo pz (n := 1) (xs := ([a_n] : List Int)) R R (by unfold maxLen; omega))) g) g4) R fun x7 => ?_)))))
 exact asg R R (wln (wjm _ x7 (mtE t1) (su1 R) so1))
 exact wck (wjm _ x1 (mtE t1) (su1 R) so1)
 intro j3 x6 hp
 obtain rfl : j3 = y1 := hp.symm
 refine wqt (wcr (mv R R (asg R R (wnt (wct ?_)))))
 obtain rfl := oi t0
 exact wq1 R R fun w hw => ⟨x6, R, hw.weak so1⟩

theorem c_impl_sorted (w : World) (a_list : List Int) (v0a : Hd) (r0 : rdF w (dm w []) (sl v0a) a_list) {r : List Int} (t0 : impl_sorted a_list = some r) : Calls Tryz.prog 173 #[(sl v0a)] w fun e w' => ∃ x : Hd, e = .returned ((sl x)) ∧ SH w [] [ownF (sl x) r] w' := by
 refine cwc (args := [_]) Tryz.func173 R Tryz.ntmps173 R ?_
 unfold impl_sorted at t0
 refine wcr (asg R R (wnt (wcr (wle (ebs R sb_25_0) R fun b1 => (asg R R (wnt (wcs (wcr (mv R R (wlq (pln (rga r0) el_25 R) R (mv R R (wnt (gdO t0 fun g1 t0 => (lpO_inv t0 fun y1 l1 t0 => (wj (J := List Int) (X := Hd) (fun z => y1 = z) (fun _ x => [(3, (sl x))]) (fun z x => [ownF (sl x) z]) ?_ ?_)))))))))))))))
 refine wcb (wcf (X := Hd) l1 (fun k1 s1 x1l => [(3, (sl x1l)), (7, (sl v0a)), (8, iv ((a_list.length : Nat) : Int)), (9, iv ((k1 : Nat) : Int))]) (fun k1 s1 x1l => [ownF (sl x1l) s1]) (⟨some ⟨b1, 0, none⟩, 0, 0⟩ : Hd) (su4 R R R R) (zc (pbo pz (n := 0) (xs := ([] : List Int)) R R (by unfold maxLen; omega)) zn) fun k1 s1 x1l hN1 l1 => ?_)
 by_cases hk1 : k1 < a_list.length
 refine fos l1 hk1 fun _ t1 l1 => ?_
 unfold impl_sorted_L1 at t1
 have c1 : (decide (((k1 : Nat) : Int) < ((a_list.length : Nat) : Int))) = true := ddt (by omega)
 refine wcr (wlq (pls R R) R (wnt (wcs (wft R c1 (wck (wqt (wcs (wcb (wcr (wlq (po_ixn (k := k1) (rga r0) el_25 R R hk1) R (wlq (v := iv (gx a_list k1)) (po_ldf (rga r0) tk_3 R hk1 R) R (asg R R (wnt (wcg (mv R R (mv R R (bdO t1 fun v1 hv1 t1 => (wlc (cz1 fa_174 R fun w hw => c_impl_put w s1 x1l (Rg.on (rgo pz) hw) (gx a_list k1) hv1) R fun x2 => (asg R R (wln (wqb (wqt (wcg (wlq (po_inc R R (by omega)) R ?_))))))))))))))))))))))))
 exact mv R R (wln (wq_rnd hk1 (stpN l1 t1) x2 (su4 R R R R) so1))
 have c1 : (decide (((k1 : Nat) : Int) < ((a_list.length : Nat) : Int))) = false := ddf (by omega)
 have en1 := foe l1 hk1
 exact wcr (wlq (pls R R) R (wnt (wcs (wff R c1 (wcx (wqe (wqe (wbx (wjm _ x1l (Sum.inl.inj en1) (su1 R) so1)))))))))
 intro e1 x1 hp
 obtain rfl : e1 = y1 := hp.symm
 refine wqt (wcr (mv R R (asg R R (wnt (wct ?_)))))
 obtain rfl := oi t0
 exact wq1 R R fun w hw => ⟨x1, R, hw.weak so1⟩

theorem c_impl_isStrict (w : World) (a_list : List Int) (v0a : Hd) (r0 : rdF w (dm w []) (sl v0a) a_list) (a_a : Int) (a_b : Int) {r : Bool} (t0 : impl_isStrict a_list a_a a_b = some r) : Calls Tryz.prog 172 #[(sl v0a), .int .i64 a_a, .int .i64 a_b] w fun e w' => e = .returned (.bool r) ∧ SH w [] [] w' := by
 refine cwc (args := [_, _, _]) Tryz.func172 R Tryz.ntmps172 R ?_
 unfold impl_isStrict at t0
 refine wcr (asg R R (wnt (wcs (wcr (mv R R (wlq (pln (rga r0) el_25 R) R (mv R R (wnt (gdO t0 fun g1 t0 => (sqO t0 fun y1 l1 t0 => (wj (J := Unit) (X := Unit) (fun z => y1 = .inl z) (fun _ _ => [(0, (sl v0a)), (1, iv a_a), (2, iv a_b)]) (fun _ _ => []) ?_ ?_)))))))))))
 refine wcb (wcf (X := Unit) l1 (fun k1 s1 x1l => [(0, (sl v0a)), (1, iv a_a), (2, iv a_b), (9, iv ((a_list.length : Nat) : Int)), (10, iv ((k1 : Nat) : Int))]) (fun k1 s1 x1l => []) () (su5 R R R R R) zn fun k1 s1 x1l hN1 l1 => ?_)
 by_cases hk1 : k1 < a_list.length
 refine fos l1 hk1 fun _ t1 l1 => ?_
 unfold impl_isStrict_L1 at t1
 have c1 : (decide (((k1 : Nat) : Int) < ((a_list.length : Nat) : Int))) = true := ddt (by omega)
 refine wcr (wlq (pls R R) R (wnt (wcs (wft R c1 (wck (wqt (wcs (wcb (wcr (mv R R (asg R R (wnt (wcs (bdO t1 fun y2 t2 t1 => (wj (J := Bool) (X := Unit) (fun z => y2 = z) (fun z _ => [(0, (sl v0a)), (1, iv a_a), (2, iv a_b), (9, iv ((a_list.length : Nat) : Int)), (10, iv ((k1 : Nat) : Int)), (26, .bool z)]) (fun _ _ => []) ?_ ?_)))))))))))))))
 refine wcd [] 14 mixed (aq 0 R (pom R) zn R (aq 1 R (po_gtr R R) zn R (aq 2 R (pom R) zn R (waO_ (t := 15) t2 R (fun h1 t2 => ?_) fun h1 t2 => ?_))))
 exact an 3 2 R R R R (pom R) zn R (an 4 2 R R R R (pom R) zn R (an 5 2 R R R R (po_ixn (k := k1) (rga r0) el_25 R R hk1) zn R (an (v := iv (gx a_list k1)) 6 2 R R R R (po_ldf (rga r0) tk_3 R hk1 R) zn R (an 7 2 R R R R (pom R) zn R (an 8 2 R R R R (pom R) zn R (an 9 2 R R R R (po_sub R R) zn R (gdO t2 fun g2 t2 => (an 10 2 R R R R (po_ixr (rga r0) el_25 R R g2.1 g2.2) zn R (an (v := iv (gx a_list (((wr (((k1 : Nat) : Int) - 1))).toNat))) 11 2 R R R R (po_ldf (rga r0) tk_3 R (ix_lt g2) R) zn R (an 12 2 R R R R (po_leq R R) zn R (aq 13 R (pit R R) zn R (ae (wjm _ () (mtE t2) (su6 R R R R R R) zn)))))))))))))
 exact af 3 2 R R R R R zn R (af 4 2 R R R R R zn R (af 5 2 R R R R R zn R (af 6 2 R R R R R zn R (af 7 2 R R R R R zn R (af 8 2 R R R R R zn R (af 9 2 R R R R R zn R (af 10 2 R R R R R zn R (af 11 2 R R R R R zn R (af 12 2 R R R R R zn R (aq 13 R (pif R R) zn R (ae (wjm _ () (mtE t2) (su6 R R R R R R) zn))))))))))))
 intro j1 _ hp
 obtain rfl : j1 = y2 := hp.symm
 refine wqt (wcO t1 R (fun h2 t1 => ?_) fun h2 t1 => ?_)
 refine wcr (asg R R (wnt (wct (wbr (wqr (wqr (wbr (wqr (wqr ?_)))))))))
 replace t0 := lpR t0 l1 t1
 obtain rfl := oi t0
 exact wq1 R R fun w hw => ⟨R, hw.weak zn⟩
 refine wck (wqb (wqt (wcg (wlq (po_inc R R (by omega)) R ?_))))
 exact mv R R (wln (wq_rnd hk1 (stpN l1 t1) () (su5 R R R R R) zn))
 have c1 : (decide (((k1 : Nat) : Int) < ((a_list.length : Nat) : Int))) = false := ddf (by omega)
 have en1 := foe l1 hk1
 exact wcr (wlq (pls R R) R (wnt (wcs (wff R c1 (wcx (wqe (wqe (wbx (wjm _ () en1 (su3 R R R) zn)))))))))
 intro e1 _ hp
 replace t0 := sqE (j := e1) t0 hp
 refine wqt (wcr (mv R R (mv R R (mv R R (bdO t0 fun v1 hv1 t0 => (wlc (cz0 fa_56 R fun w hw => c_impl_allWithin w a_list v0a (ra r0 hw) a_a a_b hv1) R fun _ => (asg R R (wnt (wct ?_)))))))))
 obtain rfl := oi t0
 exact wq1 R R fun w hw => ⟨R, hw.weak zn⟩

theorem c_impl_IsExchange (w : World) (a_l : List Int) (v0a : Hd) (r0 : rdF w (dm w []) (sl v0a) a_l) {r : Bool} (t0 : impl_IsExchange a_l = some r) : Calls Tryz.prog 170 #[(sl v0a)] w fun e w' => e = .returned (.bool r) ∧ SH w [] [] w' := by
 refine cwc (args := [_]) Tryz.func170 R Tryz.ntmps170 R ?_
 unfold impl_IsExchange at t0
 refine wcr (asg R R (wnt (wcs (bdO t0 fun y1 t1 t0 => (wj (J := Bool) (X := Unit) (fun z => y1 = z) (fun z _ => [(2, .bool z)]) (fun _ _ => []) ?_ ?_)))))
 refine wcg (mv R R (wlq (pln (rga r0) el_25 R) R (wlq (pol R R) R (mv R R (wlo (t := 6) t1 R (fun h1 t1 => ?_) fun h1 t1 => ?_)))))
 exact wgn (j := 3) R R R (mv R R (bdO t1 fun v1 hv1 t1 => (wgn (j := 3) R R R (wlc (cz1 fa_173 R fun w hw => c_impl_sorted w a_l v0a (ra r0 hw) hv1) R (fun x2 => (bdO t1 fun v2 hv2 t1 => (wgn (j := 3) R R R (wlc (cz0 fa_172 R fun w hw => c_impl_isStrict w v1 x2 (Rg.on (rgo pz) hw) 0 5 hv2) R (fun _ => (wlq (pit R R) R (asg R R (wln (wjm _ () (mtE t1) (su1 R) zn)))))))))))))
 exact wgf (j := 3) R R R R R (wgf (j := 3) R R R R R (wgf (j := 3) R R R R R (wlq (pif R R) R (asg R R (wln (wjm _ () (mtE t1) (su1 R) zn))))))
 intro j1 _ hp
 obtain rfl : j1 = y1 := hp.symm
 refine wqt (wct ?_)
 obtain rfl := oi t0
 exact wq1 R R fun w hw => ⟨R, hw.weak zn⟩

theorem c_impl_UndoList (w : World) (a_l : List Int) (v0a : Hd) (r0 : rdF w (dm w []) (sl v0a) a_l) {r : List Int} (t0 : impl_UndoList a_l = some r) : Calls Tryz.prog 161 #[(sl v0a)] w fun e w' => ∃ x : Hd, e = .returned ((sl x)) ∧ SH w [] [ownF (sl x) r] w' := by
 refine cwc (args := [_]) Tryz.func161 R Tryz.ntmps161 R ?_
 unfold impl_UndoList at t0
 refine wcr (asg R R (wnt (wcs (wcr (mv R R (bdO t0 fun v1 hv1 t0 => (wlc (cz0 fa_170 R fun w hw => c_impl_IsExchange w a_l v0a (ra r0 hw) hv1) R fun _ => (wlq (po_not R) R (wnt (wcO t0 R (fun h1 t0 => ?_) fun h1 t0 => ?_))))))))))
 refine wcr (asg R R (wnt (wct (wqr ?_))))
 obtain rfl := oi t0
 exact wq1 R R fun w hw => ⟨hn, R, hw.weak (zc pick_nil zn)⟩
 refine wck (wqt (wcr (wle (eo_make_ (n := 6) (0 : Int) mk_25 R R R (by omega) R) R fun x1 => ?_)))
 refine asg R R (wnt (wcs (wcr (mv R R (wlq (pln (rga r0) el_25 R) R (mv R R (wnt (gdO t0 fun g1 t0 => (lpO_inv t0 fun y1 l1 t0 => (wj (J := List Int) (X := Unit) (fun z => y1 = z) (fun _ _ => [(3, (sl x1))]) (fun z _ => [ownF (sl x1) z]) ?_ ?_))))))))))
 refine wcb (wcf (X := Unit) l1 (fun k1 s1 x1l => [(3, (sl x1)), (10, (sl v0a)), (11, iv ((a_l.length : Nat) : Int)), (12, iv ((k1 : Nat) : Int))]) (fun k1 s1 x1l => [ownF (sl x1) s1]) () (su4 R R R R) so1 fun k1 s1 x1l hN1 l1 => ?_)
 by_cases hk1 : k1 < a_l.length
 refine fos l1 hk1 fun _ t1 l1 => ?_
 unfold impl_UndoList_L1 at t1
 have c1 : (decide (((k1 : Nat) : Int) < ((a_l.length : Nat) : Int))) = true := ddt (by omega)
 refine wcr (wlq (pls R R) R (wnt (wcs (wft R c1 (wck (wqt (wcs (wcb (wcr (mv R R (wlq (po_ixn (k := k1) (rga r0) el_25 R R hk1) R (wlq (v := iv (gx a_l k1)) (po_ldf (rga r0) tk_3 R hk1 R) R (asg R R (asg R R (wnt (wcg (mv R R (mv R R (mv R R (gdO t1 fun g2 t1 => (wlq (po_ixr (rgo pz) el_25 R R g2.1 g2.2) R (wls (so_own (x' := ((k1 : Nat) : Int)) tk_3 pz R R R R R R (ix_lt g2) R) (wln (wqb (wqt (wcg (wlq (po_inc R R (by omega)) R ?_)))))))))))))))))))))))))))
 exact mv R R (wln (wq_rnd hk1 (stpN l1 t1) () (su4 R R R R) so1))
 have c1 : (decide (((k1 : Nat) : Int) < ((a_l.length : Nat) : Int))) = false := ddf (by omega)
 have en1 := foe l1 hk1
 exact wcr (wlq (pls R R) R (wnt (wcs (wff R c1 (wcx (wqe (wqe (wbx (wjm _ () (Sum.inl.inj en1) (su1 R) so1)))))))))
 intro e1 _ hp
 obtain rfl : e1 = y1 := hp.symm
 refine wqt (wcr (mv R R (asg R R (wnt (wct ?_)))))
 obtain rfl := oi t0
 exact wq1 R R fun w hw => ⟨x1, R, hw.weak so1⟩

theorem c_impl_FirstUse (w : World) (a_b : GBlock) (v0a : Hd) (r0 : rdF w (dm w []) (sl v0a) a_b.Cells) {r : List Int} (t0 : impl_FirstUse a_b = some r) : Calls Tryz.prog 147 #[.agg #[.int .i64 a_b.Size, (sl v0a)]] w fun e w' => ∃ x : Hd, e = .returned ((sl x)) ∧ SH w [] [ownF (sl x) r] w' := by
 refine cwc (args := [_]) Tryz.func147 R Tryz.ntmps147 R ?_
 unfold impl_FirstUse at t0
 refine wcr (wle (eo_box R R) R fun b1 => (asg R R (wnt (wcs (wcr (wlq (v := .agg #[iv a_b.Size, (sl v0a)]) (plb tk_56 pz R R R) R (bdO t0 fun v1 hv1 t0 => (wlc (cz0 fa_46 R fun w hw => c_impl_BlockOk w a_b v0a (ra r0 hw) hv1) R fun _ => (wlq (po_not R) R (wnt (wcO t0 R (fun h1 t0 => ?_) fun h1 t0 => ?_)))))))))))
 refine wcr (asg R R (wnt (wct (wqr ?_))))
 obtain rfl := oi t0
 exact wq1 R R fun w hw => ⟨hn, R, hw.weak (zc pick_nil zn)⟩
 refine wck (wqt (wcr (wle (ebs R sb_25_0) R fun b2 => (asg R R (wnt (wcs (wcr (wlq (pof fo_56_1 R) R (wlq (v := (sl v0a)) (plx tk_54 pk1 R R) R (wlq (pln (rga r0) el_54 R) R (mv R R (wnt (gdO t0 fun g1 t0 => (lpO_inv t0 fun y1 l1 t0 => (wj (J := List Int) (X := Hd) (fun z => y1 = z) (fun _ x => [(3, (sl x))]) (fun z x => [ownF (sl x) z]) ?_ ?_)))))))))))))))
 refine wcb (wcf (X := Hd) l1 (fun k1 s1 x1l => [(3, (sl x1l)), (14, (sl v0a)), (15, iv ((a_b.Cells.length : Nat) : Int)), (16, iv ((k1 : Nat) : Int))]) (fun k1 s1 x1l => [ownF (sl x1l) s1]) (⟨some ⟨b2, 0, none⟩, 0, 0⟩ : Hd) (su4 R R R R) (zc (pbo pz (n := 0) (xs := ([] : List Int)) R R (by unfold maxLen; omega)) zn) fun k1 s1 x1l hN1 l1 => ?_)
 by_cases hk1 : k1 < a_b.Cells.length
 refine fos l1 hk1 fun _ t1 l1 => ?_
 unfold impl_FirstUse_L1 at t1
 have c1 : (decide (((k1 : Nat) : Int) < ((a_b.Cells.length : Nat) : Int))) = true := ddt (by omega)
 refine wcr (wlq (pls R R) R (wnt (wcs (wft R c1 (wck (wqt (wcs (wcb (wcr (wlq (po_ixn (k := k1) (rga r0) el_54 R R hk1) R (wlq (v := .agg #[iv ((gx a_b.Cells k1).Split), iv ((gx a_b.Cells k1).A), iv ((gx a_b.Cells k1).B)]) (po_ldfs (rga r0) tk_87 R hk1 R R R) R (wle (eal (cs := [iv 0, iv 0, iv 0]) za_87) R fun b3 => (wls (sbx (cs' := [iv ((gx a_b.Cells k1).Split), iv ((gx a_b.Cells k1).A), iv ((gx a_b.Cells k1).B)]) tk_87 pz R R R R R R R) (wnt (wcr (wlq (pof fo_87_1 R) R (wlq (v := iv ((gx a_b.Cells k1).A)) (plx tk_3 pz R R) R (wlq (pof fo_87_2 R) R (wlq (v := iv ((gx a_b.Cells k1).B)) (plx tk_3 pz R R) R (wle (ebs R (sb_25_2 ((gx a_b.Cells k1).A) ((gx a_b.Cells k1).B))) R fun b4 => (wlq (pln (rgo (pbo pz (n := 2) (xs := ([(gx a_b.Cells k1).A, (gx a_b.Cells k1).B] : List Int)) R R (by unfold maxLen; omega))) el_25 R) R ?_)))))))))))))))))))))
 refine mv R R (wnt (gdO t1 fun g2 t1 => (lpO_inv t1 fun y2 l2 t1 => (wj (J := List Int) (X := Hd) (fun z => y2 = z) (fun _ x => [(3, (sl x)), (14, (sl v0a)), (15, iv ((a_b.Cells.length : Nat) : Int)), (16, iv ((k1 : Nat) : Int))]) (fun z x => [ownF (sl x) z]) ?_ ?_))))
 refine wcb (wcf (X := Hd) l2 (fun k2 s2 x2l => [(3, (sl x2l)), (14, (sl v0a)), (15, iv ((a_b.Cells.length : Nat) : Int)), (16, iv ((k1 : Nat) : Int)), (24, (sl (⟨some ⟨b4, 0, none⟩, 2, 2⟩ : Hd))), (25, iv ((([(gx a_b.Cells k1).A, (gx a_b.Cells k1).B] : List Int).length : Nat) : Int)), (26, iv ((k2 : Nat) : Int))]) (fun k2 s2 x2l => [box b4 [iv ((gx a_b.Cells k1).A), iv ((gx a_b.Cells k1).B)], ownF (sl x2l) s2]) x1l (su7 R R R R R R R) (zc pz (zc pk1 zn)) fun k2 s2 x2l hN2 l2 => ?_)
 by_cases hk2 : k2 < ([(gx a_b.Cells k1).A, (gx a_b.Cells k1).B] : List Int).length
 refine fos l2 hk2 fun _ t2 l2 => ?_
 unfold impl_FirstUse_L2 at t2
 have c2 : (decide (((k2 : Nat) : Int) < ((([(gx a_b.Cells k1).A, (gx a_b.Cells k1).B] : List Int).length : Nat) : Int))) = true := ddt (by omega)
 refine wcr (wlq (pls R R) R (wnt (wcs (wft R c2 (wck (wqt (wcs (wcb (wcr (wlq (po_ixn (k := k2) (rgo (pbo pz (n := 2) (xs := ([(gx a_b.Cells k1).A, (gx a_b.Cells k1).B] : List Int)) R R (by unfold maxLen; omega))) el_25 R R hk2) R ?_))))))))))
 refine wlq (v := iv (gx ([(gx a_b.Cells k1).A, (gx a_b.Cells k1).B] : List Int) k2)) (po_ldf (rgo (pbo pz (n := 2) (xs := ([(gx a_b.Cells k1).A, (gx a_b.Cells k1).B] : List Int)) R R (by unfold maxLen; omega))) tk_3 R hk2 R) R ?_
 refine asg R R (wnt (wcr (mv R R (mv R R (bdO t2 fun v2 hv2 t2 => (wlc (cz0 fa_160 R fun w hw => c_impl_indexOf w s2 x2l (Rg.on (rgo pk1) hw) (gx ([(gx a_b.Cells k1).A, (gx a_b.Cells k1).B] : List Int) k2) hv2) R fun _ => (wlq (pls R R) R (wnt (bdO t2 fun y3 t3 t2 => (wj (J := List Int) (X := Hd) (fun z => y3 = z) (fun _ x => [(3, (sl x)), (14, (sl v0a)), (15, iv ((a_b.Cells.length : Nat) : Int)), (16, iv ((k1 : Nat) : Int)), (24, (sl (⟨some ⟨b4, 0, none⟩, 2, 2⟩ : Hd))), (25, iv ((([(gx a_b.Cells k1).A, (gx a_b.Cells k1).B] : List Int).length : Nat) : Int)), (26, iv ((k2 : Nat) : Int))]) (fun z x => [box b4 [iv ((gx a_b.Cells k1).A), iv ((gx a_b.Cells k1).B)], ownF (sl x) z]) ?_ ?_))))))))))
 refine wcO t3 R (fun h2 t3 => ?_) fun h2 t3 => ?_
 refine wcg (mv R R (mv R R (wle (ebs R (sb_25_1 (gx ([(gx a_b.Cells k1).A, (gx a_b.Cells k1).B] : List Int) k2))) R fun b5 => (gdO t3 fun g3 t3 => (wle (eo_append (xs := s2) (ys := ([(gx ([(gx a_b.Cells k1).A, (gx a_b.Cells k1).B] : List Int) k2)] : List Int)) ak_25 pk2 R R (slin_rd fun _ g => Rg.on (rgo (pbo pz (n := 1) (xs := ([(gx ([(gx a_b.Cells k1).A, (gx a_b.Cells k1).B] : List Int) k2)] : List Int)) R R (by unfold maxLen; omega))) g) g3) R fun x4 => ?_)))))
 exact asg R R (wln (wjm _ x4 (mtE t3) (su7 R R R R R R R) (zc pk2 so1)))
 exact wck (wjm _ x2l (mtE t3) (su7 R R R R R R R) so2)
 intro j1 x3 hp
 obtain rfl : j1 = y3 := hp.symm
 refine wqb (wqt (wcg (wlq (po_inc R R (by omega)) R ?_)))
 exact mv R R (wln (wq_rnd hk2 (stpN l2 t2) x3 (su7 R R R R R R R) so2))
 have c2 : (decide (((k2 : Nat) : Int) < ((([(gx a_b.Cells k1).A, (gx a_b.Cells k1).B] : List Int).length : Nat) : Int))) = false := ddf (by omega)
 have en1 := foe l2 hk2
 exact wcr (wlq (pls R R) R (wnt (wcs (wff R c2 (wcx (wqe (wqe (wbx (wjm _ x2l (Sum.inl.inj en1) (su4 R R R R) (zc pk1 zn))))))))))
 intro e2 x2 hp
 obtain rfl : e2 = y2 := hp.symm
 refine wqb (wqt (wcg (wlq (po_inc R R (by omega)) R ?_)))
 exact mv R R (wln (wq_rnd hk1 (stpN l1 t1) x2 (su4 R R R R) so1))
 have c1 : (decide (((k1 : Nat) : Int) < ((a_b.Cells.length : Nat) : Int))) = false := ddf (by omega)
 have en2 := foe l1 hk1
 exact wcr (wlq (pls R R) R (wnt (wcs (wff R c1 (wcx (wqe (wqe (wbx (wjm _ x1l (Sum.inl.inj en2) (su1 R) so1)))))))))
 intro e1 x1 hp
 obtain rfl : e1 = y1 := hp.symm
 refine wqt (wcs (wcr (mv R R (wnt (lpO_inv t0 fun y1 l1 t0 => (wj (J := List Int) (X := Hd) (fun z => y1 = z) (fun _ x => [(3, (sl x))]) (fun z x => [ownF (sl x) z]) ?_ ?_))))))
 refine wcb (wcf (X := Hd) l1 (fun k3 s3 x3l => [(3, (sl x3l)), (40, iv ((k3 : Nat) : Int))]) (fun k3 s3 x3l => [ownF (sl x3l) s3]) x1 (su2 R R) so1 fun k3 s3 x3l hN3 l1 => ?_)
 by_cases hk3 : k3 < 6
 refine fos l1 hk3 fun _ t1 l1 => ?_
 unfold impl_FirstUse_L3 at t1
 have c3 : (decide (((k3 : Nat) : Int) < 6)) = true := ddt (by omega)
 refine wcr (wlq (pls R R) R (wnt (wcs (wft R c3 (wck (wqt (wcs (wcb (wcr (mv R R (asg R R (wnt (wcr (mv R R (mv R R (bdO t1 fun v3 hv3 t1 => (wlc (cz0 fa_160 R fun w hw => c_impl_indexOf w s3 x3l (Rg.on (rgo pz) hw) ((k3 : Nat) : Int) hv3) R fun _ => (wlq (pls R R) R (wnt (bdO t1 fun y2 t2 t1 => (wj (J := List Int) (X := Hd) (fun z => y2 = z) (fun _ x => [(3, (sl x)), (40, iv ((k3 : Nat) : Int))]) (fun z x => [ownF (sl x) z]) ?_ ?_)))))))))))))))))))))
 refine wcO t2 R (fun h3 t2 => ?_) fun h3 t2 => ?_
 refine wcg (mv R R (mv R R (wle (ebs R (sb_25_1 ((k3 : Nat) : Int))) R fun b6 => (gdO t2 fun g4 t2 => (wle (eo_append (xs := s3) (ys := ([((k3 : Nat) : Int)] : List Int)) ak_25 pk1 R R (slin_rd fun _ g => Rg.on (rgo (pbo pz (n := 1) (xs := ([((k3 : Nat) : Int)] : List Int)) R R (by unfold maxLen; omega))) g) g4) R fun x7 => ?_)))))
 exact asg R R (wln (wjm _ x7 (mtE t2) (su2 R R) so1))
 exact wck (wjm _ x3l (mtE t2) (su2 R R) so1)
 intro j2 x6 hp
 obtain rfl : j2 = y2 := hp.symm
 refine wqb (wqt (wcg (wlq (po_inc R R (by omega)) R ?_)))
 exact mv R R (wln (wq_rnd hk3 (stpN l1 t1) x6 (su2 R R) so1))
 have c3 : (decide (((k3 : Nat) : Int) < 6)) = false := ddf (by omega)
 have en3 := foe l1 hk3
 exact wcr (wlq (pls R R) R (wnt (wcs (wff R c3 (wcx (wqe (wqe (wbx (wjm _ x3l (Sum.inl.inj en3) (su1 R) so1)))))))))
 intro e3 x5 hp
 obtain rfl : e3 = y1 := hp.symm
 refine wqt (wcr (mv R R (bdO t0 fun v4 hv4 t0 => (wlc (cz1 fa_161 R fun w hw => c_impl_UndoList w e3 x5 (Rg.on (rgo pz) hw) hv4) R fun x8 => (asg R R (wnt (wct ?_)))))))
 obtain rfl := oi t0
 exact wq1 R R fun w hw => ⟨x8, R, hw.weak so1⟩

theorem c_impl_ListOk (w : World) (a_l : List Int) (v0a : Hd) (r0 : rdF w (dm w []) (sl v0a) a_l) {r : Bool} (t0 : impl_ListOk a_l = some r) : Calls Tryz.prog 149 #[(sl v0a)] w fun e w' => e = .returned (.bool r) ∧ SH w [] [] w' := by
 refine cwc (args := [_]) Tryz.func149 R Tryz.ntmps149 R ?_
 unfold impl_ListOk at t0
 refine wcr (asg R R (wnt (wcs (bdO t0 fun y1 t1 t0 => (wj (J := Bool) (X := Unit) (fun z => y1 = z) (fun z _ => [(2, .bool z)]) (fun _ _ => []) ?_ ?_)))))
 refine wcg (mv R R (wlq (pln (rga r0) el_25 R) R (wlq (pol R R) R (mv R R (wlo (t := 6) t1 R (fun h1 t1 => ?_) fun h1 t1 => ?_)))))
 exact wgn (j := 3) R R R (mv R R (bdO t1 fun v1 hv1 t1 => (wgn (j := 3) R R R (wlc (cz0 fa_56 R fun w hw => c_impl_allWithin w a_l v0a (ra r0 hw) 0 5 hv1) R (fun _ => (wlq (pit R R) R (asg R R (wln (wjm _ () (mtE t1) (su1 R) zn)))))))))
 exact wgf (j := 3) R R R R R (wgf (j := 3) R R R R R (wlq (pif R R) R (asg R R (wln (wjm _ () (mtE t1) (su1 R) zn)))))
 intro j1 _ hp
 obtain rfl : j1 = y1 := hp.symm
 refine wqt (wct ?_)
 obtain rfl := oi t0
 exact wq1 R R fun w hw => ⟨R, hw.weak zn⟩

theorem c_impl_ExchangeCell (w : World) (a_c : GCell) (a_l : List Int) (v0a : Hd) (r0 : rdF w (dm w []) (sl v0a) a_l) {r : GCell} (t0 : impl_ExchangeCell a_c a_l = some r) : Calls Tryz.prog 151 #[.agg #[.int .i64 a_c.Split, .int .i64 a_c.A, .int .i64 a_c.B], (sl v0a)] w fun e w' => e = .returned (.agg #[.int .i64 r.Split, .int .i64 r.A, .int .i64 r.B]) ∧ SH w [] [] w' := by
 refine cwc (args := [_, _]) Tryz.func151 R Tryz.ntmps151 R ?_
 unfold impl_ExchangeCell at t0
 refine wcr (wle (eo_box R R) R fun b1 => (wle (eal (cs := [iv 0, iv 0, iv 0]) za_87) R fun b2 => (wnt (wcs (wcs (bdO t0 fun y1 t1 t0 => (wj (J := Bool) (X := Unit) (fun z => y1 = z) (fun z _ => [(1, (sl v0a)), (2, ptr b1 0), (4, ptr b2 0), (12, .bool z)]) (fun _ _ => [box b2 [iv 0, iv 0, iv 0], box b1 [iv a_c.Split, iv a_c.A, iv a_c.B]]) ?_ ?_)))))))
 refine wcg (wlq (v := .agg #[iv a_c.Split, iv a_c.A, iv a_c.B]) (plb tk_87 pk1 R R R) R (bdO t1 fun v1 hv1 t1 => (wlc (cz0 fa_74 R fun w hw => c_impl_CellOk w a_c hv1) R fun _ => (wlq (po_not R) R (mv R R (wlo (t := 8) t1 R (fun h1 t1 => ?_) fun h1 t1 => ?_))))))
 exact wgf (j := 3) R R R R R (wgf (j := 3) R R R R R (wgf (j := 3) R R R R R (wlq (pit R R) R (wln (wjm _ () (mtE t1) (su4 R R R R) so2)))))
 exact wgn (j := 3) R R R (mv R R (bdO t1 fun v2 hv2 t1 => (wgn (j := 3) R R R (wlc (cz0 fa_149 R fun w hw => c_impl_ListOk w a_l v0a (ra r0 hw) hv2) R (fun _ => (wgn (j := 3) R R R (wlq (po_not R) R (wlq (pif R R) R (wln (wjm _ () (mtE t1) (su4 R R R R) so2))))))))))
 intro j1 _ hp
 obtain rfl : j1 = y1 := hp.symm
 refine wqt (wcO t0 R (fun h2 t0 => ?_) fun h2 t0 => ?_)
 refine wcr (wlq (po_build R bd_87) R (wls (sbx (cs' := [iv 0, iv 0, iv 0]) tk_87 pz R R R R R R R) (wnt (wct (wqr ?_)))))
 obtain rfl := oi t0
 exact wqc R tk_87 R pz R fun w hw => ⟨R, hw.weak zn⟩
 refine wck (wqt (wcs (wcd [box b2 [iv 0, iv 0, iv 0], box b1 [iv a_c.Split, iv a_c.A, iv a_c.B]] 13 mixed (aq 0 R (pof fo_87_0 R) so2 R (aq (v := iv a_c.Split) 1 R (plx tk_3 pk1 R R) so2 R (aq 2 R (pom R) so2 R (aq 3 R (pof fo_87_1 R) so2 R (aq (v := iv a_c.A) 4 R (plx tk_3 pk1 R R) so2 R (gdO t0 fun g1 t0 => (aq 5 R (po_ixr (rga r0) el_25 R R g1.1 g1.2) so2 R (aq (v := iv (gx a_l ((a_c.A).toNat))) 6 R (po_ldf (rga r0) tk_3 R (ix_lt g1) R) so2 R (aq 7 R (pom R) so2 R (aq 8 R (pof fo_87_2 R) so2 R (aq (v := iv a_c.B) 9 R (plx tk_3 pk1 R R) so2 R (gdO t0 fun g2 t0 => (aq 10 R (po_ixr (rga r0) el_25 R R g2.1 g2.2) so2 R (aq (v := iv (gx a_l ((a_c.B).toNat))) 11 R (po_ldf (rga r0) tk_3 R (ix_lt g2) R) so2 R (a1 12 (bdO t0 fun v3 hv3 t0 => (wsc R (cz0 fa_65 R fun w hw => c_impl_SplitCell w a_c.Split (gx a_l ((a_c.A).toNat)) (gx a_l ((a_c.B).toNat)) hv3) (fun _ => (zt so2)) R fun _ => (a1 13 (ws_skipop R (sbx (cs' := [iv v3.Split, iv v3.A, iv v3.B]) tk_87 pz R R R R R R R) (sts_past (by kernel_rfl)) ?_))))))))))))))))))))))
 refine ae (wqt (wct ?_))
 obtain rfl := oi t0
 exact wqc R tk_87 R pz R fun w hw => ⟨R, hw.weak zn⟩

theorem c_impl_ExchangeBlock_c1 (w : World) (a_x : Int) (a_y : Int) (c_p2 : GBlock) (v0a : Hd) (r0 : rdF w (dm w []) (sl v0a) c_p2.Cells) (b2c : Nat) (q2 : Bx w b2c [.int .i64 c_p2.Size, (sl v0a)]) (c_p3 : List Int) (v1a : Hd) (r1 : rdF w (dm w []) (sl v1a) c_p3) (b3c : Nat) (q3 : Bx w b3c [(sl v1a)]) {r : GCell} (t0 : impl_ExchangeBlock_c1 a_x a_y c_p2 c_p3 = some r) : Calls Tryz.prog 150 #[.int .i64 a_x, .int .i64 a_y, ptr b2c 0, ptr b3c 0] w fun e w' => e = .returned (.agg #[.int .i64 r.Split, .int .i64 r.A, .int .i64 r.B]) ∧ SH w [] [] w' := by
 refine cwc (args := [_, _, _, _]) Tryz.func150 R Tryz.ntmps150 R ?_
 unfold impl_ExchangeBlock_c1 at t0
 refine wcr (wle (eal (cs := [iv 0, iv 0, iv 0]) za_87) R fun b1 => (wnt (wcs (wcd [box b1 [iv 0, iv 0, iv 0]] 6 mixed (aq (v := .agg #[iv c_p2.Size, (sl v0a)]) 0 R (po_load_aboxs q2 tk_56 R R R) so1 R (aq 1 R (pom R) so1 R (aq 2 R (pom R) so1 R (aq (v := (sl v1a)) 4 R (po_load_abox q3 tk_25 R R) so1 R (a1 3 (bdO t0 fun v1 hv1 t0 => (wsc R (cz0 fa_48 R fun w hw => c_impl_CellAt w c_p2 v0a (ra r0 hw) a_x a_y hv1) (fun _ => (zt so1)) R fun _ => (a1 5 (bdO t0 fun v2 hv2 t0 => (wsc R (cz0 fa_151 R fun w hw => c_impl_ExchangeCell w v1 c_p3 v1a (ra r1 hw) hv2) (fun _ => (zt so1)) R fun _ => (a1 6 (ws_skipop R (sbx (cs' := [iv v2.Split, iv v2.A, iv v2.B]) tk_87 pz R R R R R R R) (sts_past (by kernel_rfl)) ?_))))))))))))))))
 refine ae (wqt (wct ?_))
 obtain rfl := oi t0
 exact wqc R tk_87 R pz R fun w hw => ⟨R, hw.weak zn⟩

theorem c_impl_ExchangeBlock (w : World) (a_b : GBlock) (v0a : Hd) (r0 : rdF w (dm w []) (sl v0a) a_b.Cells) (a_l : List Int) (v1a : Hd) (r1 : rdF w (dm w []) (sl v1a) a_l) {r : GBlock × Bool} (t0 : impl_ExchangeBlock a_b a_l = some r) : Calls Tryz.prog 137 #[.agg #[.int .i64 a_b.Size, (sl v0a)], (sl v1a)] w fun e w' => ∃ x : Hd, e = .returned (.tuple #[.agg #[.int .i64 r.1.Size, (sl x)], .bool r.2]) ∧ SH w [] [ownF (sl x) r.1.Cells] w' := by
 refine cwc (args := [_, _]) Tryz.func137 R Tryz.ntmps137 R ?_
 unfold impl_ExchangeBlock at t0
 refine wcr (wle (eo_box R R) R fun b1 => (wle (eo_box R R) R fun b2 => (wle (eal (cs := [iv 0, (sl hn)]) za_56) R fun b3 => (asg R R (wnt (wcs (wcs (bdO t0 fun y1 t1 t0 => (wj (J := Bool) (X := Unit) (fun z => y1 = z) (fun z _ => [(2, ptr b1 0), (3, ptr b2 0), (4, ptr b3 0), (13, .bool z)]) (fun _ _ => [box b3 [iv 0, (sl hn)], box b2 [(sl v1a)], box b1 [iv a_b.Size, (sl v0a)]]) ?_ ?_)))))))))
 refine wcg (wlq (v := .agg #[iv a_b.Size, (sl v0a)]) (plb tk_56 pk2 R R R) R (bdO t1 fun v1 hv1 t1 => (wlc (cz0 fa_46 R fun w hw => c_impl_BlockOk w a_b v0a (ra r0 hw) hv1) R fun _ => (wlq (po_not R) R (mv R R (wlo (t := 9) t1 R (fun h1 t1 => ?_) fun h1 t1 => ?_))))))
 exact wgf (j := 3) R R R R R (wgf (j := 3) R R R R R (wgf (j := 3) R R R R R (wlq (pit R R) R (wln (wjm _ () (mtE t1) (su4 R R R R) so3)))))
 exact wgn (j := 3) R R R (wlq (v := (sl v1a)) (plx tk_25 pk1 R R) R (bdO t1 fun v2 hv2 t1 => (wgn (j := 3) R R R (wlc (cz0 fa_149 R fun w hw => c_impl_ListOk w a_l v1a (ra r1 hw) hv2) R (fun _ => (wgn (j := 3) R R R (wlq (po_not R) R (wlq (pif R R) R (wln (wjm _ () (mtE t1) (su4 R R R R) so3))))))))))
 intro j1 _ hp
 obtain rfl : j1 = y1 := hp.symm
 refine wqt (wcO t0 R (fun h2 t0 => ?_) fun h2 t0 => ?_)
 refine wcr (wlq (v := .agg #[iv a_b.Size, (sl v0a)]) (plb tk_56 pk2 R R R) R (bdO t0 fun v3 hv3 t0 => (wlc (cz1 fa_29 R fun w hw => c_impl_Block_copied w a_b v0a (ra r0 hw) hv3) R fun x2 => (wls (sbx (cs' := [iv v3.Size, (sl x2)]) tk_56 pk1 R R R R R R R) (asg R R (wnt (wct (wqr ?_))))))))
 obtain rfl := oi t0
 exact wq_retc1 R tk_56 R R pz R fun w hw => ⟨x2, R, hw.weak (zc pk1 zn)⟩
 refine wck (wqt (wcr (wlq (pof fo_56_0 R) R (wlq (v := iv a_b.Size) (plx tk_3 pk2 R R) R (wlq (po_makeFunc R) R (bdO t0 fun v4 hv4 t0 => (wlc (cz1 fa_63 R fun w hw => c_impl_made w a_b.Size (fun z0 z1 => impl_ExchangeBlock_c1 z0 z1 a_b a_l) 150 [ptr b1 0, ptr b2 0] fa_150 (fun w2 z0 z1  hk _ hz => c_impl_ExchangeBlock_c1 w2 z0 z1 a_b v0a (RdL.later (ra r0 hw) hk) b1 (Bx.keep (hw.at_box pk2) hk) a_l v1a (RdL.later (ra r1 hw) hk) b2 (Bx.keep (hw.at_box pk1) hk) hz) hv4) R fun x3 => (wls (sbx (cs' := [iv v4.Size, (sl x3)]) tk_56 pk1 R R R R R R R) (asg R R (wnt (wct ?_)))))))))))
 obtain rfl := oi t0
 exact wq_retc1 R tk_56 R R pz R fun w hw => ⟨x3, R, hw.weak (zc pk1 zn)⟩

theorem c_impl_plain (w : World) (a_b : GBlock) (v0a : Hd) (r0 : rdF w (dm w []) (sl v0a) a_b.Cells) {r : GBlock} (t0 : impl_plain a_b = some r) : Calls Tryz.prog 133 #[.agg #[.int .i64 a_b.Size, (sl v0a)]] w fun e w' => ∃ x : Hd, e = .returned (.agg #[.int .i64 r.Size, (sl x)]) ∧ SH w [] [ownF (sl x) r.Cells] w' := by
 refine cwc (args := [_]) Tryz.func133 R Tryz.ntmps133 R ?_
 unfold impl_plain at t0
 refine wcr (wle (eo_box R R) R fun b1 => (wle (eal (cs := [iv 0, (sl hn)]) za_56) R fun b2 => (wnt (wcs (bdO t0 fun v1 hv1 t0 => (bdO t0 fun v2 hv2 t0 => (wcj (X := Nat × Hd) (fun _ => True) (fun z => [(2, ptr b2 0), (3, ptr z.1 0)]) (fun z => [box z.1 [iv v2.1.Size, (sl z.2)], ownF (sl z.2) v2.1.Cells, box b2 [iv 0, (sl hn)]]) ?_ ?_)))))))
 refine wcd [box b2 [iv 0, (sl hn)], box b1 [iv a_b.Size, (sl v0a)]] 10 mixed (aq (v := .agg #[iv a_b.Size, (sl v0a)]) 0 R (plb tk_56 pk1 R R R) so2 R (aq (v := .agg #[iv a_b.Size, (sl v0a)]) 1 R (plb tk_56 pk1 R R R) so2 R (wa_2 (i := 2) (j := 7) (by kernel_rfl) ?_ ?_)))
 refine wsc R (cz1 fa_147 R fun w hw => c_impl_FirstUse w a_b v0a (ra r0 hw) hv1) (fun _ => (zt (zc pk1 (zc pk1 zn)))) R fun x1 => wa_2 (i := 3) (j := 7) (by kernel_rfl) ?_ ?_
 exact wsc R (cz1 fa_137 R fun w hw => c_impl_ExchangeBlock w a_b v0a (ra r0 hw) v1 x1 (Rg.on (rgo pz) hw) hv2) (fun _ => (zt (zc pk2 (zc pk2 zn)))) R fun x2 => aq 4 R (pom R) (zc pk2 (zc pk2 zn)) R (aq 5 R (pex R R) (zc pk2 (zc pk2 zn)) R (aq 6 R (pex R R) (zc pk2 (zc pk2 zn)) R (a1 7 (wse R (eal (cs := [iv 0, (sl hn)]) za_56) (fun _ => (zt (zc pk3 (zc pk3 zn)))) R fun b3 => (a1 8 (ws_skipop R (sbx (cs' := [iv v2.1.Size, (sl x2)]) tk_56 pz R R R R R R R) (zt (zc pk3 (zc pk3 zn))) (aq 9 R (po_assign R) (zc pk3 (zc pk3 zn)) R (ae (wqm (b3, x2) trivial (su2 R R) (zc pz (zc pz (zc pk1 zn))))))))))))
 exact wse R (eal (cs := [iv 0, (sl hn)]) za_56) (fun _ => (zt (zc pk2 (zc pk2 zn)))) R fun b4 => a1 3 (wsc R (cz1 fa_137 R fun w hw => c_impl_ExchangeBlock w a_b v0a (ra r0 hw) v1 x1 (Rg.on (rgo pk1) hw) hv2) (fun _ => (zt (zc pk3 (zc pk3 zn)))) R fun x3 => (aq 4 R (pom R) (zc pk3 (zc pk3 zn)) R (aq 5 R (pex R R) (zc pk3 (zc pk3 zn)) R (aq 6 R (pex R R) (zc pk3 (zc pk3 zn)) R (a1 8 (ws_skipop R (sbx (cs' := [iv v2.1.Size, (sl x3)]) tk_56 pk1 R R R R R R R) (zt (zc pk3 (zc pk3 zn))) (aq 9 R (po_assign R) (zc pk3 (zc pk3 zn)) R (ae (wqm (b4, x3) trivial (su2 R R) (zc pz (zc pz (zc pk1 zn))))))))))))
 exact wse R (eal (cs := [iv 0, (sl hn)]) za_56) (fun _ => (zt (zc pk1 (zc pk1 zn)))) R fun b5 => a1 2 (wsc R (cz1 fa_147 R fun w hw => c_impl_FirstUse w a_b v0a (ra r0 hw) hv1) (fun _ => (zt (zc pk2 (zc pk2 zn)))) R fun x4 => (a1 3 (wsc R (cz1 fa_137 R fun w hw => c_impl_ExchangeBlock w a_b v0a (ra r0 hw) v1 x4 (Rg.on (rgo pz) hw) hv2) (fun _ => (zt (zc pk3 (zc pk3 zn)))) R fun x5 => (aq 4 R (pom R) (zc pk3 (zc pk3 zn)) R (aq 5 R (pex R R) (zc pk3 (zc pk3 zn)) R (aq 6 R (pex R R) (zc pk3 (zc pk3 zn)) R (a1 8 (ws_skipop R (sbx (cs' := [iv v2.1.Size, (sl x5)]) tk_56 pk2 R R R R R R R) (zt (zc pk3 (zc pk3 zn))) (aq 9 R (po_assign R) (zc pk3 (zc pk3 zn)) R (ae (wqm (b5, x5) trivial (su2 R R) (zc pz (zc pz (zc pk1 zn))))))))))))))
 intro x6 _
 refine wqt (wcr (wlq (v := .agg #[iv v2.1.Size, (sl x6.2)]) (plb tk_56 pz R R R) R (wls (sbx (cs' := [iv v2.1.Size, (sl x6.2)]) tk_56 pk2 R R R R R R R) (wnt (wct ?_)))))
 obtain rfl := oi t0
 exact wqc R tk_56 R pz R fun w hw => ⟨x6.2, R, hw.weak (zc pk2 zn)⟩



theorem c_impl_FormatInt (w : World) (a_n : Int) {r : Str} (t0 : impl_FormatInt a_n = some r) : Calls Tryz.prog 19 #[.int .i64 a_n] w fun e w' => e = .returned (bs r) ∧ SH w [] [] w' := by
 refine cwc (args := [_]) Tryz.func19 R Tryz.ntmps19 R ?_
 unfold impl_FormatInt at t0
 refine wcr (asg R R (wnt (wcr (mv R R (bdO t0 fun v1 hv1 t0 => (wlc (cz0 fa_45 R fun w hw => c_strconv_Itoa w a_n hv1) R fun _ => (asg R R (wnt (wct ?_)))))))))
 obtain rfl := oi t0
 exact wq1 R R fun w hw => ⟨R, hw.weak zn⟩

theorem c_impl_FormatInt_b (w : World) (ht : Tb w) (a_n : Int) {r : Str} (t0 : impl_FormatInt_b a_n = some r) : Calls Tryz.prog 19 #[.int .i64 a_n] w fun e w' => e = .returned (bs r) ∧ SH w [] [] w' := by
 refine cwc (args := [_]) Tryz.func19 R Tryz.ntmps19 R ?_
 unfold impl_FormatInt_b at t0
 refine wcr (asg R R (wnt (wcr (mv R R (bdO t0 fun v1 hv1 t0 => (wlc (cz0 fa_45 R fun w hw => c_strconv_Itoa_b w (hw.tab ht) a_n hv1) R fun _ => (asg R R (wnt (wct ?_)))))))))
 obtain rfl := oi t0
 exact wq1 R R fun w hw => ⟨R, hw.weak zn⟩

theorem c_impl_CellText (w : World) (a_c : GCell) {r : Str} (t0 : impl_CellText a_c = some r) : Calls Tryz.prog 47 #[.agg #[.int .i64 a_c.Split, .int .i64 a_c.A, .int .i64 a_c.B]] w fun e w' => e = .returned (bs r) ∧ SH w [] [] w' := by
 refine cwc (args := [_]) Tryz.func47 R Tryz.ntmps47 R ?_
 unfold impl_CellText at t0
 refine wcr (wle (eo_box R R) R fun b1 => (asg R R (wnt (wcs (wcr (wlq (v := .agg #[iv a_c.Split, iv a_c.A, iv a_c.B]) (plb tk_87 pz R R R) R (bdO t0 fun v1 hv1 t0 => (wlc (cz0 fa_74 R fun w hw => c_impl_CellOk w a_c hv1) R fun _ => (wlq (po_not R) R (wnt (wcO t0 R (fun h1 t0 => ?_) fun h1 t0 => ?_)))))))))))
 refine wcr (asg R R (wnt (wct (wqr ?_))))
 obtain rfl := oi t0
 exact wq1 R R fun w hw => ⟨R, hw.weak zn⟩
 refine wck (wqt (wcr (wle (ebs R (sb_36_3 (⟨[]⟩ : Str) (⟨[47]⟩ : Str) (⟨[92]⟩ : Str))) R fun b2 => (wlq (pof fo_87_0 R) R (wlq (v := iv a_c.Split) (plx tk_3 pk1 R R) R (gdO t0 fun g1 t0 => (wlq (po_ixr (rgo (pbo pz (n := 3) (xs := ([(⟨[]⟩ : Str), (⟨[47]⟩ : Str), (⟨[92]⟩ : Str)] : List Str)) R R (by unfold maxLen; omega))) el_36 R R g1.1 g1.2) R ?_)))))))
 refine wlq (v := bs (gx ([(⟨[]⟩ : Str), (⟨[47]⟩ : Str), (⟨[92]⟩ : Str)] : List Str) ((a_c.Split).toNat))) (po_ldf (rgo (pbo pz (n := 3) (xs := ([(⟨[]⟩ : Str), (⟨[47]⟩ : Str), (⟨[92]⟩ : Str)] : List Str)) R R (by unfold maxLen; omega))) tk_9 R (ix_lt g1) R) R ?_
 refine asg R R (wnt (wcs (wcr (mv R R (wlq (po_seql R R) R (wnt (wcO t0 R (fun h2 t0 => ?_) fun h2 t0 => ?_)))))))
 refine wcr (wlq (pof fo_87_1 R) R (wlq (v := iv a_c.A) (plx tk_3 pk1 R R) R (bdO t0 fun v2 hv2 t0 => (wlc (cz0 fa_19 R fun w hw => c_impl_FormatInt w a_c.A hv2) R fun _ => (asg R R (wnt (wct (wqr ?_))))))))
 obtain rfl := oi t0
 exact wq1 R R fun w hw => ⟨R, hw.weak zn⟩
 refine wck (wqt (wcs (wcd [box b2 [bs (⟨[]⟩ : Str), bs (⟨[47]⟩ : Str), bs (⟨[92]⟩ : Str)], box b1 [iv a_c.Split, iv a_c.A, iv a_c.B]] 10 mixed (aq 0 R (pof fo_87_1 R) so2 R (aq (v := iv a_c.A) 1 R (plx tk_3 pk1 R R) so2 R (aq 3 R (pom R) so2 R (aq 5 R (pof fo_87_2 R) so2 R (aq (v := iv a_c.B) 6 R (plx tk_3 pk1 R R) so2 R (a1 2 (bdO t0 fun v3 hv3 t0 => (wsc R (cz0 fa_19 R fun w hw => c_impl_FormatInt w a_c.A hv3) (fun _ => (zt so2)) R fun _ => (gdO t0 fun g2 t0 => (aq 4 R (po_sadd R R g2) so2 R (a1 7 (bdO t0 fun v4 hv4 t0 => (wsc R (cz0 fa_19 R fun w hw => c_impl_FormatInt w a_c.B hv4) (fun _ => (zt so2)) R fun _ => (gdO t0 fun g3 t0 => (aq 8 R (po_sadd R R g3) so2 R (aq 9 R (po_assign R) so2 R (ae (wqt (wct ?_))))))))))))))))))))))
 obtain rfl := oi t0
 exact wq1 R R fun w hw => ⟨R, hw.weak zn⟩

theorem c_impl_TextOf (w : World) (a_b : GBlock) (v0a : Hd) (r0 : rdF w (dm w []) (sl v0a) a_b.Cells) {r : Str} (t0 : impl_TextOf a_b = some r) : Calls Tryz.prog 148 #[.agg #[.int .i64 a_b.Size, (sl v0a)]] w fun e w' => e = .returned (bs r) ∧ SH w [] [] w' := by
 refine cwc (args := [_]) Tryz.func148 R Tryz.ntmps148 R ?_
 unfold impl_TextOf at t0
 refine wcr (wle (eo_box R R) R fun b1 => (asg R R (wnt (wcs (wcr (wlq (v := .agg #[iv a_b.Size, (sl v0a)]) (plb tk_56 pz R R R) R (bdO t0 fun v1 hv1 t0 => (wlc (cz0 fa_46 R fun w hw => c_impl_BlockOk w a_b v0a (ra r0 hw) hv1) R fun _ => (wlq (po_not R) R (wnt (wcO t0 R (fun h1 t0 => ?_) fun h1 t0 => ?_)))))))))))
 refine wcr (asg R R (wnt (wct (wqr ?_))))
 obtain rfl := oi t0
 exact wq1 R R fun w hw => ⟨R, hw.weak zn⟩
 refine wck (wqt (wcr (asg R R (wnt (wcs (wcr (wlq (pof fo_56_1 R) R (wlq (v := (sl v0a)) (plx tk_54 pz R R) R (wlq (pln (rga r0) el_54 R) R (mv R R (wnt (gdO t0 fun g1 t0 => (lpO_inv t0 fun y1 l1 t0 => (wj (J := Str) (X := Unit) (fun z => y1 = z) (fun z _ => [(3, bs z)]) (fun _ _ => []) ?_ ?_))))))))))))))
 refine wcb (wcf (X := Unit) l1 (fun k1 s1 x1l => [(3, bs s1), (10, (sl v0a)), (11, iv ((a_b.Cells.length : Nat) : Int)), (12, iv ((k1 : Nat) : Int))]) (fun k1 s1 x1l => []) () (su4 R R R R) zn fun k1 s1 x1l hN1 l1 => ?_)
 by_cases hk1 : k1 < a_b.Cells.length
 refine fos l1 hk1 fun _ t1 l1 => ?_
 unfold impl_TextOf_L1 at t1
 have c1 : (decide (((k1 : Nat) : Int) < ((a_b.Cells.length : Nat) : Int))) = true := ddt (by omega)
 refine wcr (wlq (pls R R) R (wnt (wcs (wft R c1 (wck (wqt (wcs (wcb (wcr (wlq (po_ixn (k := k1) (rga r0) el_54 R R hk1) R (wlq (v := .agg #[iv ((gx a_b.Cells k1).Split), iv ((gx a_b.Cells k1).A), iv ((gx a_b.Cells k1).B)]) (po_ldfs (rga r0) tk_87 R hk1 R R R) R (wle (eal (cs := [iv 0, iv 0, iv 0]) za_87) R fun b2 => (wls (sbx (cs' := [iv ((gx a_b.Cells k1).Split), iv ((gx a_b.Cells k1).A), iv ((gx a_b.Cells k1).B)]) tk_87 pz R R R R R R R) (wnt (wcg (mv R R (wlq (v := .agg #[iv ((gx a_b.Cells k1).Split), iv ((gx a_b.Cells k1).A), iv ((gx a_b.Cells k1).B)]) (plb tk_87 pz R R R) R (bdO t1 fun v2 hv2 t1 => (wlc (cz0 fa_47 R fun w hw => c_impl_CellText w (gx a_b.Cells k1) hv2) R fun _ => (gdO t1 fun g2 t1 => (wlq (po_sadd R R g2) R (gdO t1 fun g3 t1 => (wlq (po_sadd R R g3) R (asg R R (wln (wqb (wqt (wcg (wlq (po_inc R R (by omega)) R ?_)))))))))))))))))))))))))))))
 exact mv R R (wln (wq_rnd hk1 (stpN l1 t1) () (su4 R R R R) zn))
 have c1 : (decide (((k1 : Nat) : Int) < ((a_b.Cells.length : Nat) : Int))) = false := ddf (by omega)
 have en1 := foe l1 hk1
 exact wcr (wlq (pls R R) R (wnt (wcs (wff R c1 (wcx (wqe (wqe (wbx (wjm _ () (Sum.inl.inj en1) (su1 R) zn)))))))))
 intro e1 _ hp
 obtain rfl : e1 = y1 := hp.symm
 refine wqt (wcr (mv R R (asg R R (wnt (wct ?_)))))
 obtain rfl := oi t0
 exact wq1 R R fun w hw => ⟨R, hw.weak zn⟩

theorem c_impl_least (w : World) (fp : List Nat) (a_list : List GBlock) (v0a : Hd) (u0a : List Value) (o : Ow w [own (sl v0a) u0a a_list] fp) {r : GBlock} (t0 : impl_least a_list = some r) : Calls Tryz.prog 134 #[(sl v0a)] w fun e w' => ∃ x : Hd, e = .returned (.agg #[.int .i64 r.Size, (sl x)]) ∧ SH w fp [ownF (sl x) r.Cells] w' := by
  have hf0 : ∀ k, k < a_list.length → ∃ h : Hd, chunk u0a k (Rep.sz GBlock) = [.int .i64 (gx a_list k).Size, sl h] := fun k hk => by
    obtain ⟨⟨f1, f2, _, hown, _⟩, _⟩ := o
    have hr : RdL w (fun _ => True) (sl v0a) u0a a_list := OwL.rd hown (fun _ _ => trivial)
    have hx : a_list[k]? = some (gx a_list k) := by simp [gx, List.getD, hk]
    obtain ⟨h0, e, _⟩ := rd_GBlock.1 (hr.2.2 k _ hx)
    exact ⟨h0, e⟩
  obtain ⟨f, hf⟩ : ∃ f : Nat → Hd, ∀ k, k < a_list.length → chunk u0a k (Rep.sz GBlock) = [.int .i64 (gx a_list k).Size, sl (f k)] :=
    ⟨fun k => if h : k < a_list.length then (hf0 k h).choose else ⟨none, 0, 0⟩, fun k hk => by
      simp only [hk, dite_true]
      exact (hf0 k hk).choose_spec⟩
  refine calls_of_wc_own (args := [_]) o Tryz.func134 rfl Tryz.ntmps134 rfl ?_
  unfold impl_least at t0
  refine wcr ?_
  refine wle (eal (cs := [.int .i64 0, (sl (⟨none, 0, 0⟩ : Hd))]) za_56) rfl fun b1 => ?_
  refine wnt ?_
  refine wcr ?_
  refine mv rfl rfl ?_
  refine gdO t0 fun g1 t0 => ?_
  refine wlq (po_ixn (k := 0) (rgo (pickS pz)) el_154 rfl rfl g1) rfl ?_
  refine wlq (v := .agg #[.int .i64 ((gx a_list 0).Size), (sl (f 0))]) (po_ldns (rgo (pickS pz)) tk_56 rfl (hf 0 g1) rfl rfl rfl) rfl ?_
  refine wle (eal (cs := [.int .i64 0, (sl (⟨none, 0, 0⟩ : Hd))]) za_56) rfl fun b2 => ?_
  refine wls (sbx (cs' := [.int .i64 ((gx a_list 0).Size), (sl (f 0))]) tk_56 pz rfl rfl rfl rfl rfl rfl rfl) ?_
  refine wnt ?_
  refine wcs ?_
  refine wcr ?_
  refine mv rfl rfl ?_
  refine wlq (pln (rgo (pickS (pickS pz))) el_154 rfl) rfl ?_
  refine mv rfl rfl ?_
  refine wnt ?_
  refine gdO t0 fun g2 t0 => ?_
  refine lpO_inv t0 fun y1 l1 t0 => ?_
  refine wj (J := Nat) (X := Unit) (fun z => y1 = z) (fun _ _ => [(2, ptr b1 0), (3, ptr b2 0)]) (fun z _ => [box b2 [.int .i64 ((gx a_list z).Size), (sl (f z))], box b1 [.int .i64 0, (sl (⟨none, 0, 0⟩ : Hd))], own (sl v0a) u0a a_list]) ?_ ?_
  · skip
    refine wcb ?_
    refine wcf (X := Unit) l1 (fun k1 s1 x1l => [(2, ptr b1 0), (3, ptr b2 0), (9, (sl v0a)), (10, .int .i64 ((a_list.length : Nat) : Int)), (11, .int .i64 ((k1 : Nat) : Int))]) (fun k1 s1 x1l => [box b2 [.int .i64 ((gx a_list s1).Size), (sl (f s1))], box b1 [.int .i64 0, (sl (⟨none, 0, 0⟩ : Hd))], own (sl v0a) u0a a_list]) () (yc rfl (yc rfl (yc rfl (yc rfl (yc rfl yn))))) (zc pz (zc pz (zc pz zn))) fun k1 s1 x1l hN1 l1 => ?_
    by_cases hk1 : k1 < a_list.length
    · skip
      refine fos l1 hk1 fun _ t1 l1 => ?_
      unfold impl_least_L1 at t1
      have c1 : (decide (((k1 : Nat) : Int) < ((a_list.length : Nat) : Int))) = true := decide_eq_true (by omega)
      refine wcr ?_
      refine wlq (pls rfl rfl) rfl ?_
      refine wnt ?_
      refine wcs ?_
      refine wft rfl c1 ?_
      refine wck ?_
      refine wqt ?_
      refine wcs ?_
      refine wcb ?_
      refine gdO t1 fun g3 t1 => ?_
      refine wcr ?_
      refine wlq (po_ixn (k := k1) (rgo (pickS (pickS pz))) el_154 rfl rfl hk1) rfl ?_
      refine wlq (v := .agg #[.int .i64 ((gx a_list k1).Size), (sl (f k1))]) (po_ldns (rgo (pickS (pickS pz))) tk_56 rfl (hf k1 hk1) rfl rfl rfl) rfl ?_
      refine wle (eal (cs := [.int .i64 0, (sl (⟨none, 0, 0⟩ : Hd))]) za_56) rfl fun b3 => ?_
      refine wls (sbx (cs' := [.int .i64 ((gx a_list k1).Size), (sl (f k1))]) tk_56 pz rfl rfl rfl rfl rfl rfl rfl) ?_
      refine wnt ?_
      refine wcs ?_
      refine wcd [box b3 [.int .i64 ((gx a_list k1).Size), (sl (f k1))], box b2 [.int .i64 ((gx a_list s1).Size), (sl (f s1))], box b1 [.int .i64 0, (sl (⟨none, 0, 0⟩ : Hd))], own (sl v0a) u0a a_list] 5 mixed ?_
      refine wa_pure (v := .agg #[.int .i64 ((gx a_list k1).Size), (sl (f k1))]) 0 rfl (plb tk_56 pz rfl rfl rfl) (zc pz (zc pz (zc pz (zc pz zn)))) rfl (by kernel_rfl) (fun _ _ _ h => h) ?_
      refine wa_pure (v := .agg #[.int .i64 ((gx a_list s1).Size), (sl (f s1))]) 2 rfl (plb tk_56 (pickS pz) rfl rfl rfl) (zc pz (zc pz (zc pz (zc pz zn)))) rfl (by kernel_rfl) (fun _ _ _ h => h) ?_
      refine wa_1 (i := 1) (by kernel_rfl) ?_
      refine bdO t1 fun v1 hv1 t1 => ?_
      refine wsc rfl (cz0 fa_148 rfl fun w hw => c_impl_TextOf w (gx a_list k1) (f k1) (Rg.on (er_GBlock_0 (hf k1 hk1) (rgo (pickS (pickS (pickS pz)))) hk1) hw) hv1) (fun _ => (zt (zc pz (zc pz (zc pz (zc pz zn)))))) rfl fun _ => ?_
      refine wa_1 (i := 3) (by kernel_rfl) ?_
      refine bdO t1 fun v2 hv2 t1 => ?_
      refine wsc rfl (cz0 fa_148 rfl fun w hw => c_impl_TextOf w (gx a_list s1) (f s1) (Rg.on (er_GBlock_0 (hf s1 g3) (rgo (pickS (pickS (pickS pz)))) g3) hw) hv2) (fun _ => (zt (zc pz (zc pz (zc pz (zc pz zn)))))) rfl fun _ => ?_
      refine wa_pure 4 rfl (po_slss rfl rfl) (zc pz (zc pz (zc pz (zc pz zn)))) rfl (by kernel_rfl) (fun _ _ _ h => h) ?_
      refine wa_done (by kernel_rfl) ?_
      refine wqt ?_
      refine wcj (X := Unit) (fun _ => True) (fun _ => [(2, ptr b1 0), (3, ptr b2 0), (9, (sl v0a)), (10, .int .i64 ((a_list.length : Nat) : Int)), (11, .int .i64 ((k1 : Nat) : Int))]) (fun _ => [box b2 [.int .i64 ((gx a_list (bif slt v1 v2 then k1 else s1)).Size), (sl (f (bif slt v1 v2 then k1 else s1)))], box b1 [.int .i64 0, (sl (⟨none, 0, 0⟩ : Hd))], own (sl v0a) u0a a_list]) ?_ ?_
      · skip
        refine wc_cond rfl (fun h2 => ?_) fun h2 => ?_
        · skip
          refine wcg ?_
          refine wlq (v := .agg #[.int .i64 ((gx a_list k1).Size), (sl (f k1))]) (plb tk_56 pz rfl rfl rfl) rfl ?_
          refine wls (sbx (cs' := [.int .i64 ((gx a_list k1).Size), (sl (f k1))]) tk_56 (pickS pz) rfl rfl rfl rfl rfl rfl rfl) ?_
          refine wln ?_
          rw [h2]
          exact wqm () trivial (yc rfl (yc rfl (yc rfl (yc rfl (yc rfl yn))))) (zc pz (zc (pickS pz) (zc (pickS pz) zn)))
        refine wck ?_
        rw [h2]
        exact wqm () trivial (yc rfl (yc rfl (yc rfl (yc rfl (yc rfl yn))))) (zc (pickS pz) (zc (pickS pz) (zc (pickS pz) zn)))
      intro x4 _
      refine wqb ?_
      refine wqt ?_
      refine wcg ?_
      refine wlq (po_inc rfl rfl (by omega)) rfl ?_
      refine mv rfl rfl ?_
      refine wln ?_
      exact wq_rnd hk1 (stpN l1 t1) () (yc rfl (yc rfl (yc rfl (yc rfl (yc rfl yn))))) (zc pz (zc pz (zc pz zn)))
    have c1 : (decide (((k1 : Nat) : Int) < ((a_list.length : Nat) : Int))) = false := decide_eq_false (by omega)
    have en1 := foe l1 hk1
    refine wcr ?_
    refine wlq (pls rfl rfl) rfl ?_
    refine wnt ?_
    refine wcs ?_
    refine wff rfl c1 ?_
    refine wcx ?_
    refine wqe ?_
    refine wqe ?_
    refine wbx ?_
    exact wjm _ () (Sum.inl.inj en1) (yc rfl (yc rfl yn)) (zc pz (zc pz (zc pz zn)))
  intro e1 x2 hp
  obtain rfl : e1 = y1 := hp.symm
  refine gdO t0 fun g4 t0 => ?_
  refine wqt ?_
  refine wcr ?_
  refine wlq (v := .agg #[.int .i64 ((gx a_list e1).Size), (sl (f e1))]) (plb tk_56 pz rfl rfl rfl) rfl ?_
  refine wls (sbx (cs' := [.int .i64 ((gx a_list e1).Size), (sl (f e1))]) tk_56 (pickS pz) rfl rfl rfl rfl rfl rfl rfl) ?_
  refine wnt ?_
  refine wct ?_
  obtain rfl := Option.some.inj t0
  exact wqc rfl tk_56 rfl pz rfl fun w hw => ⟨f e1, rfl, ((hw.ent (take_elem (pickS (pickS pz)) g4 (hf e1 g4))).ent un_GBlock).weak (zc pz zn)⟩

theorem c_impl_LeastPattern (w : World) (a_b : GBlock) (v0a : Hd) (r0 : rdF w (dm w []) (sl v0a) a_b.Cells) {r : GBlock} (t0 : impl_LeastPattern a_b = some r) : Calls Tryz.prog 114 #[.agg #[.int .i64 a_b.Size, (sl v0a)]] w fun e w' => ∃ x : Hd, e = .returned (.agg #[.int .i64 r.Size, (sl x)]) ∧ SH w [] [ownF (sl x) r.Cells] w' := by
 refine cwc (args := [_]) Tryz.func114 R Tryz.ntmps114 R ?_
 unfold impl_LeastPattern at t0
 refine wcr (wle (eo_box R R) R fun b1 => (wle (eal (cs := [iv 0, (sl hn)]) za_56) R fun b2 => (wnt (wcs (wcr (wlq (v := .agg #[iv a_b.Size, (sl v0a)]) (plb tk_56 pk1 R R R) R (bdO t0 fun v1 hv1 t0 => (wlc (cz0 fa_46 R fun w hw => c_impl_BlockOk w a_b v0a (ra r0 hw) hv1) R fun _ => (wlq (po_not R) R (wnt (wcO t0 R (fun h1 t0 => ?_) fun h1 t0 => ?_)))))))))))
 refine wcr (wlq (po_build R bd_56) R (wls (sbx (cs' := [iv 0, (sl hn)]) tk_56 pz R R R R R R R) (wnt (wct (wqr ?_)))))
 obtain rfl := oi t0
 exact wqc R tk_56 R pz R fun w hw => ⟨hn, R, hw.weak (zc pick_nil zn)⟩
 refine wck (wqt (wcr (wle (ebs R sb_154_0) R fun b3 => (asg R R (wnt (wcs (wcr (wlq (v := .agg #[iv a_b.Size, (sl v0a)]) (plb tk_56 pk2 R R R) R (bdO t0 fun v2 hv2 t0 => (wlc (cz1 fa_132 R fun w hw => c_impl_views w a_b v0a (ra r0 hw) hv2) R fun x1 => (wlq (pln (rgo pz) el_154 R) R (mv R R (wnt (gdO t0 fun g1 t0 => (lpO_inv t0 fun y1 l1 t0 => (wj (J := List GBlock) (X := Hd × (List Value)) (fun z => y1 = z) (fun _ x => [(2, ptr b2 0), (3, (sl x.1))]) (fun z x => [box b2 [iv 0, (sl hn)], own (sl x.1) x.2 z]) ?_ ?_))))))))))))))))
 refine wcb (wcf (X := Hd × (List Value)) l1 (fun k1 s1 x1l => [(2, ptr b2 0), (3, (sl x1l.1)), (12, (sl x1.1)), (13, iv ((v2.length : Nat) : Int)), (14, iv ((k1 : Nat) : Int))]) (fun k1 s1 x1l => [own (sl x1.1) x1.2 v2, box b2 [iv 0, (sl hn)], own (sl x1l.1) x1l.2 s1]) ((⟨some ⟨b3, 0, none⟩, 0, 0⟩ : Hd), []) (su5 R R R R R) (zc pz (zc pk1 (zc (pick_box_nil pz) zn))) fun k1 s1 x1l hN1 l1 => ?_)
 by_cases hk1 : k1 < v2.length
 refine fos l1 hk1 fun _ t1 l1 => ?_
 unfold impl_LeastPattern_L1 at t1
 have c1 : (decide (((k1 : Nat) : Int) < ((v2.length : Nat) : Int))) = true := ddt (by omega)
 refine wcr (wlq (pls R R) R (wnt (wcs (wft R c1 (wck (wqt (wcs (wcb (wcr (wlq (po_ixn (k := k1) (rgo pz) el_154 R R hk1) R (wl_elem (rgo pz) hk1 ?_)))))))))))
 rintro ⟨_, _, he1⟩
 obtain ⟨w1, hc1, _⟩ := rd_GBlock.1 he1
 refine wlq (v := .agg #[iv ((gx v2 k1).Size), (sl w1)]) (po_ldns (rgo pz) tk_56 R hc1 R R R) R (wle (eal (cs := [iv 0, (sl hn)]) za_56) R fun b4 => (wls (sbx (cs' := [iv ((gx v2 k1).Size), (sl w1)]) tk_56 pz R R R R R R R) (wnt (wcg (mv R R (wlq (v := .agg #[iv ((gx v2 k1).Size), (sl w1)]) (plb tk_56 pz R R R) R (bdO t1 fun v3 hv3 t1 => (wlc (cz1 fa_133 R fun w hw => c_impl_plain w (gx v2 k1) w1 (Rg.on (er_GBlock_0 hc1 (rgo pk1) hk1) hw) hv3) R fun x3 => (wle (ebs R (sb_154_1 v3.Size x3)) R fun b5 => (gdO t1 fun g2 t1 => (wle (eo_append_one (us := x1l.2) (xs := s1) ak_154 pk5 (pow_GBlock (x := v3) pk1) pz R R R g2) R fun x4 => (asg R R (wln (wqb (wqt (wcg (wlq (po_inc R R (by omega)) R ?_)))))))))))))))))
 exact mv R R (wln (wq_rnd hk1 (stpN l1 t1) (x4, (x1l.2 ++ [iv v3.Size, (sl x3)])) (su5 R R R R R) (zc pk3 (zc pk3 so1))))
 have c1 : (decide (((k1 : Nat) : Int) < ((v2.length : Nat) : Int))) = false := ddf (by omega)
 have en1 := foe l1 hk1
 exact wcr (wlq (pls R R) R (wnt (wcs (wff R c1 (wcx (wqe (wqe (wbx (wjm _ (x1l.1, x1l.2) (Sum.inl.inj en1) (su2 R R) (zc pk1 (zc pk1 zn)))))))))))
 intro e1 x2 hp
 obtain rfl : e1 = y1 := hp.symm
 refine wqt (wcr (mv R R (bdO t0 fun v4 hv4 t0 => (wlc (co_o1 [own (sl x2.1) x2.2 e1] fa_134 (zc pk1 some_refl) R fun w fp hw => c_impl_least w fp e1 x2.1 x2.2 hw.ow hv4) R fun x5 => (wls (sbx (cs' := [iv v4.Size, (sl x5)]) tk_56 pk1 R R R R R R R) (wnt (wct ?_)))))))
 obtain rfl := oi t0
 exact wqc R tk_56 R pz R fun w hw => ⟨x5, R, hw.weak (zc pk1 zn)⟩

end Go.Proofs.YtkahnmhkfmjomaaGreatDoor
