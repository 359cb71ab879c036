/-
 Each Go function computes its Lean function (part 4).
-/
import Derived.Test.YtkahnmhkfmjomafGreatDoorWalks3
namespace Go.Proofs.YtkahnmhkfmjomafGreatDoor
open Go Go.RowKit Go.Proofs
set_option maxRecDepth 100000

theorem c_impl_BlockText (w : World) (a_b : GBlock) (v0a : Hd) (r0 : rdF w (dm w []) (sl v0a) a_b.Cells) {r : Str} (t0 : impl_BlockText a_b = some r) : Calls Tryz.prog 8 #[.agg #[.int .i64 a_b.Size, (sl v0a)]] w fun e w' => e = .returned (bs r) ∧ SH w [] [] w' := by
 refine cwc (args := [_]) Tryz.func8 R Tryz.ntmps8 R ?_
 unfold impl_BlockText at t0
 refine wcr (wle (eo_box R R) R fun b1 => (asg R R (wnt (wcs (wcr (wlq (v := .agg #[iv a_b.Size, (sl v0a)]) (plb tk_40 pz R R R) R (bdO t0 fun v1 hv1 t0 => (wlc (cz0 fa_21 R fun w hw => c_impl_BlockOk w a_b v0a (ra r0 hw) hv1) R fun _ => (wlq (po_not R) R (wnt (wcO t0 R (fun h1 t0 => ?_) fun h1 t0 => ?_)))))))))))
 refine wcr (asg R R (wnt (wct (wqr ?_))))
 obtain rfl := oi t0
 exact wq1 R R fun w hw => ⟨R, hw.weak zn⟩
 refine wck (wqt (wcr (wle (ebs R sb_33_0) R fun b2 => (asg R R (wnt (wcs (wcr (wlq (pof fo_40_0 R) R (wlq (v := iv a_b.Size) (plx tk_3 pk1 R R) R (mv R R (wnt (gdO t0 fun g1 t0 => (lpO_inv t0 fun y1 l1 t0 => (wj (J := List Str) (X := Hd) (fun z => y1 = z) (fun _ x => [(3, (sl x))]) (fun z x => [ownF (sl x) z]) ?_ ?_))))))))))))))
 refine wcb (wcf (X := Hd) l1 (fun k1 s1 x1l => [(1, ptr b1 0), (3, (sl x1l)), (12, iv a_b.Size), (13, iv ((k1 : Nat) : Int))]) (fun k1 s1 x1l => [box b1 [iv a_b.Size, (sl v0a)], ownF (sl x1l) s1]) (⟨some ⟨b2, 0, none⟩, 0, 0⟩ : Hd) (su4 R R R R) (zc pk1 (zc (pbo pz (n := 0) (xs := ([] : List Str)) R R (by unfold maxLen; omega)) zn)) fun k1 s1 x1l hN1 l1 => ?_)
 by_cases hk1 : k1 < (a_b.Size).toNat
 refine fos l1 hk1 fun _ t1 l1 => ?_
 unfold impl_BlockText_L1 at t1
 have c1 : (decide (((k1 : Nat) : Int) < a_b.Size)) = true := ddt (by omega)
 refine wcr (wlq (pls R R) R (wnt (wcs (wft R c1 (wck (wqt (wcs (wcb (wcr (mv R R (asg R R (wnt (wcr (wle (ebs R sb_33_0) R fun b3 => (asg R R (wnt (wcs (wcr (wlq (pof fo_40_0 R) R (wlq (v := iv a_b.Size) (plx tk_3 pk1 R R) R (mv R R (wnt (lpO_inv t1 fun y2 l2 t1 => (wj (J := List Str) (X := Hd) (fun z => y2 = z) (fun _ x => [(1, ptr b1 0), (3, (sl x1l)), (5, (sl x)), (12, iv a_b.Size), (13, iv ((k1 : Nat) : Int))]) (fun z x => [box b1 [iv a_b.Size, (sl v0a)], ownF (sl x1l) s1, ownF (sl x) z]) ?_ ?_))))))))))))))))))))))))
 refine wcb (wcf (X := Hd) l2 (fun k2 s2 x2l => [(1, ptr b1 0), (3, (sl x1l)), (4, iv ((k1 : Nat) : Int)), (5, (sl x2l)), (12, iv a_b.Size), (13, iv ((k1 : Nat) : Int)), (18, iv a_b.Size), (19, iv ((k2 : Nat) : Int))]) (fun k2 s2 x2l => [box b1 [iv a_b.Size, (sl v0a)], ownF (sl x1l) s1, ownF (sl x2l) s2]) (⟨some ⟨b3, 0, none⟩, 0, 0⟩ : Hd) (su8 R R R R R R R R) (zc pk1 (zc pk1 (zc (pbo pz (n := 0) (xs := ([] : List Str)) R R (by unfold maxLen; omega)) zn))) fun k2 s2 x2l hN2 l2 => ?_)
 by_cases hk2 : k2 < (a_b.Size).toNat
 refine fos l2 hk2 fun _ t2 l2 => ?_
 unfold impl_BlockText_L2 at t2
 have c2 : (decide (((k2 : Nat) : Int) < a_b.Size)) = true := ddt (by omega)
 refine wcr (wlq (pls R R) R (wnt (wcs (wft R c2 (wck (wqt (wcs (wcb (wcr (mv R R (asg R R (wnt (wcg (mv R R (wlq (v := .agg #[iv a_b.Size, (sl v0a)]) (plb tk_40 pz R R R) R (mv R R (mv R R (bdO t2 fun v2 hv2 t2 => (wlc (cz0 fa_23 R fun w hw => c_impl_CellAt w a_b v0a (ra r0 hw) ((k2 : Nat) : Int) ((k1 : Nat) : Int) hv2) R fun _ => (bdO t2 fun v3 hv3 t2 => (wlc (cz0 fa_22 R fun w hw => c_impl_CellText w v2 hv3) R fun _ => (wle (ebs R (sb_33_1 v3)) R fun b4 => (gdO t2 fun g2 t2 => (wle (eo_append (xs := s2) (ys := ([v3] : List Str)) ak_33 pk3 R R (slin_rd fun _ g => Rg.on (rgo (pbo pz (n := 1) (xs := ([v3] : List Str)) R R (by unfold maxLen; omega))) g) g2) R fun x3 => ?_))))))))))))))))))))))))
 refine asg R R (wln (wqb (wqt (wcg (wlq (po_inc R R (by omega)) R ?_)))))
 exact mv R R (wln (wq_rnd hk2 (stpN l2 t2) x3 (su8 R R R R R R R R) (zc pk2 (zc pk2 so1))))
 have c2 : (decide (((k2 : Nat) : Int) < a_b.Size)) = false := ddf (by omega)
 have en1 := foe l2 hk2
 exact wcr (wlq (pls R R) R (wnt (wcs (wff R c2 (wcx (wqe (wqe (wbx (wjm _ x2l (Sum.inl.inj en1) (su5 R R R R R) so3)))))))))
 intro e2 x2 hp
 obtain rfl : e2 = y2 := hp.symm
 refine wqt (wcg (mv R R (mv R R (bdO t1 fun v4 hv4 t1 => (wlc (cz0 fa_24 R fun w hw => c_strings_Join w e2 x2 (Rg.on (rgo pk2) hw) (⟨[44]⟩ : Str) hv4) R fun _ => (wle (ebs R (sb_33_1 v4)) R fun b5 => (gdO t1 fun g3 t1 => (wle (eo_append (xs := s1) (ys := ([v4] : List Str)) ak_33 pk2 R R (slin_rd fun _ g => Rg.on (rgo (pbo pz (n := 1) (xs := ([v4] : List Str)) R R (by unfold maxLen; omega))) g) g3) R fun x4 => ?_))))))))
 refine asg R R (wln (wqb (wqt (wcg (wlq (po_inc R R (by omega)) R ?_)))))
 exact mv R R (wln (wq_rnd hk1 (stpN l1 t1) x4 (su4 R R R R) (zc pk2 so1)))
 have c1 : (decide (((k1 : Nat) : Int) < a_b.Size)) = false := ddf (by omega)
 have en2 := foe l1 hk1
 exact wcr (wlq (pls R R) R (wnt (wcs (wff R c1 (wcx (wqe (wqe (wbx (wjm _ x1l (Sum.inl.inj en2) (su1 R) (zc pk1 zn))))))))))
 intro e1 x1 hp
 obtain rfl : e1 = y1 := hp.symm
 refine wqt (wcr (mv R R (bdO t0 fun v5 hv5 t0 => (wlc (cz0 fa_24 R fun w hw => c_strings_Join w e1 x1 (Rg.on (rgo pz) hw) (⟨[59]⟩ : Str) hv5) R fun _ => (asg R R (wnt (wct ?_)))))))
 obtain rfl := oi t0
 exact wq1 R R fun w hw => ⟨R, hw.weak zn⟩

theorem c_impl_FormatGuild (w : World) (ht : Tb w) (a_g : GGuild) (v0a : Hd) (r0 : rdF w (dm w []) (sl v0a) a_g.Members) (v1a : Hd) (r1 : rdF w (dm w []) (sl v1a) a_g.Stock) (v2a : Hd) (u2a : List Value) (r2 : RdL w (dm w []) (sl v2a) u2a a_g.Entries) (v3a : Hd) (r3 : rdF w (dm w []) (sl v3a) a_g.Books) {r : List Str} (t0 : impl_FormatGuild a_g = some r) : Calls Tryz.prog 6 #[.agg #[(sl v0a), (sl v1a), (sl v2a), (sl v3a), .int .i64 a_g.Round, .int .i64 a_g.Year]] w fun e w' => ∃ x : Hd, e = .returned ((sl x)) ∧ SH w [] [ownF (sl x) r] w' := by
 refine cwc (args := [_]) Tryz.func6 R Tryz.ntmps6 R ?_
 unfold impl_FormatGuild at t0
 refine wcr (wle (eo_box R R) R fun b1 => (asg R R (wnt (wcs (wcr (wlq (v := .agg #[(sl v0a), (sl v1a), (sl v2a), (sl v3a), iv a_g.Round, iv a_g.Year]) (plb tk_29 pz R R R) R (bdO t0 fun v1 hv1 t0 => (wlc (cz0 fa_18 R fun w hw => c_impl_GuildOk w a_g v0a (ra r0 hw) v1a (ra r1 hw) v2a u2a (ra r2 hw) v3a (ra r3 hw) hv1) R fun _ => (wlq (po_not R) R (wnt (wcO t0 R (fun h1 t0 => ?_) fun h1 t0 => ?_)))))))))))
 refine wcr (asg R R (wnt (wct (wqr ?_))))
 obtain rfl := oi t0
 exact wq1 R R fun w hw => ⟨hn, R, hw.weak (zc pick_nil zn)⟩
 refine wck (wqt (wcr (wle (ebs R sb_25_0) R fun b2 => (asg R R (wnt (wcs (wcr (wlq (pof fo_29_0 R) R (wlq (v := (sl v0a)) (plx tk_24 pk1 R R) R (wlq (pln (rga r0) el_24 R) R (mv R R (wnt (gdO t0 fun g1 t0 => (lpO_inv t0 fun y1 l1 t0 => (wj (J := List Int) (X := Hd) (fun z => y1 = z) (fun _ x => [(1, ptr b1 0), (3, (sl x))]) (fun z x => [box b1 [(sl v0a), (sl v1a), (sl v2a), (sl v3a), iv a_g.Round, iv a_g.Year], ownF (sl x) z]) ?_ ?_)))))))))))))))
 refine wcb (wcf (X := Hd) l1 (fun k1 s1 x1l => [(1, ptr b1 0), (3, (sl x1l)), (14, (sl v0a)), (15, iv ((a_g.Members.length : Nat) : Int)), (16, iv ((k1 : Nat) : Int))]) (fun k1 s1 x1l => [box b1 [(sl v0a), (sl v1a), (sl v2a), (sl v3a), iv a_g.Round, iv a_g.Year], ownF (sl x1l) s1]) (⟨some ⟨b2, 0, none⟩, 0, 0⟩ : Hd) (su5 R R R R R) (zc pk1 (zc (pbo pz (n := 0) (xs := ([] : List Int)) R R (by unfold maxLen; omega)) zn)) fun k1 s1 x1l hN1 l1 => ?_)
 by_cases hk1 : k1 < a_g.Members.length
 refine fos l1 hk1 fun _ t1 l1 => ?_
 unfold impl_FormatGuild_L1 at t1
 have c1 : (decide (((k1 : Nat) : Int) < ((a_g.Members.length : Nat) : Int))) = true := ddt (by omega)
 refine wcr (wlq (pls R R) R (wnt (wcs (wft R c1 (wck (wqt (wcs (wcb (wcr (wlq (po_ixn (k := k1) (rga r0) el_24 R R hk1) R (wlq (v := .agg #[iv ((gx a_g.Members k1).Number), iv ((gx a_g.Members k1).Since), iv ((gx a_g.Members k1).Paid)]) (po_ldfs (rga r0) tk_37 R hk1 R R R) R (wle (eal (cs := [iv 0, iv 0, iv 0]) za_37) R fun b3 => (wls (sbx (cs' := [iv ((gx a_g.Members k1).Number), iv ((gx a_g.Members k1).Since), iv ((gx a_g.Members k1).Paid)]) tk_37 pz R R R R R R R) (wnt (wcg (mv R R (wlq (pof fo_37_0 R) R (wlq (v := iv ((gx a_g.Members k1).Number)) (plx tk_3 pz R R) R (wle (ebs R (sb_25_1 ((gx a_g.Members k1).Number))) R fun b4 => (gdO t1 fun g2 t1 => (wle (eo_append (xs := s1) (ys := ([(gx a_g.Members k1).Number] : List Int)) ak_25 pk3 R R (slin_rd fun _ g => Rg.on (rgo (pbo pz (n := 1) (xs := ([(gx a_g.Members k1).Number] : List Int)) R R (by unfold maxLen; omega))) g) g2) R fun x2 => ?_)))))))))))))))))))))
 refine asg R R (wln (wqb (wqt (wcg (wlq (po_inc R R (by omega)) R ?_)))))
 exact mv R R (wln (wq_rnd hk1 (stpN l1 t1) x2 (su5 R R R R R) (zc pk3 so1)))
 have c1 : (decide (((k1 : Nat) : Int) < ((a_g.Members.length : Nat) : Int))) = false := ddf (by omega)
 have en1 := foe l1 hk1
 exact wcr (wlq (pls R R) R (wnt (wcs (wff R c1 (wcx (wqe (wqe (wbx (wjm _ x1l (Sum.inl.inj en1) (su2 R R) so2)))))))))
 intro e1 x1 hp
 obtain rfl : e1 = y1 := hp.symm
 refine wqt (wcs (wcd [box b1 [(sl v0a), (sl v1a), (sl v2a), (sl v3a), iv a_g.Round, iv a_g.Year], ownF (sl x1) e1] 7 mixed (aq 0 R (pom R) so2 R (aq 2 R (pof fo_29_1 R) so2 R (aq (v := (sl v1a)) 3 R (plx tk_25 pz R R) so2 R (a1 1 (bdO t0 fun v2 hv2 t0 => (wsc R (cz0 fa_19 R fun w hw => c_impl_lineOf w (hw.tab ht) (⟨[109, 101, 109, 98, 101, 114, 115]⟩ : Str) e1 x1 (Rg.on (rgo pk1) hw) hv2) (fun _ => (zt so2)) R fun _ => (a1 4 (bdO t0 fun v3 hv3 t0 => (wsc R (cz0 fa_19 R fun w hw => c_impl_lineOf w (hw.tab ht) (⟨[115, 116, 111, 99, 107]⟩ : Str) a_g.Stock v1a (ra r1 hw) hv3) (fun _ => (zt so2)) R fun _ => (a1 5 (wse R (ebs R (sb_33_2 v2 v3)) (fun _ => (zt (zc pk1 (zc pk1 zn)))) R fun b5 => (aq 6 R (po_assign R) (zc pk1 (zc pk1 zn)) R (ae (wqt (wcs (wcr (wlq (pof fo_29_2 R) R (wlq (v := (sl v2a)) (plx tk_26 pk1 R R) R (wlq (pln (rga r2) el_26 R) R (mv R R (wnt (gdO t0 fun g3 t0 => (lpO_inv t0 fun y1 l1 t0 => (wj (J := List Str) (X := Hd) (fun z => y1 = z) (fun _ x => [(1, ptr b1 0), (6, (sl x))]) (fun z x => [box b1 [(sl v0a), (sl v1a), (sl v2a), (sl v3a), iv a_g.Round, iv a_g.Year], ownF (sl x) z]) ?_ ?_))))))))))))))))))))))))))
 refine wcb (wcf (X := Hd) l1 (fun k2 s2 x2l => [(1, ptr b1 0), (6, (sl x2l)), (33, (sl v2a)), (34, iv ((a_g.Entries.length : Nat) : Int)), (35, iv ((k2 : Nat) : Int))]) (fun k2 s2 x2l => [box b1 [(sl v0a), (sl v1a), (sl v2a), (sl v3a), iv a_g.Round, iv a_g.Year], ownF (sl x2l) s2]) (⟨some ⟨b5, 0, none⟩, 2, 2⟩ : Hd) (su5 R R R R R) (zc pk1 (zc (pbo pz (n := 2) (xs := ([v2, v3] : List Str)) R R (by unfold maxLen; omega)) zn)) fun k2 s2 x2l hN2 l1 => ?_)
 by_cases hk2 : k2 < a_g.Entries.length
 refine fos l1 hk2 fun _ t1 l1 => ?_
 unfold impl_FormatGuild_L2 at t1
 have c2 : (decide (((k2 : Nat) : Int) < ((a_g.Entries.length : Nat) : Int))) = true := ddt (by omega)
 refine wcr (wlq (pls R R) R (wnt (wcs (wft R c2 (wck (wqt (wcs (wcb (wcr (wlq (po_ixn (k := k2) (rga r2) el_26 R R hk2) R (wl_elem (rga r2) hk2 ?_)))))))))))
 rintro ⟨_, _, he1⟩
 obtain ⟨w1, hc1, _⟩ := rd_GEntry.1 he1
 refine wlq (v := .agg #[iv ((gx a_g.Entries k2).Owner), iv ((gx a_g.Entries k2).Day), iv (((gx a_g.Entries k2).Block).Size), (sl w1)]) (po_ldns (rga r2) tk_42 R hc1 R R R) R (wle (eal (cs := [iv 0, iv 0, iv 0, (sl hn)]) za_42) R fun b6 => (wls (sbx (cs' := [iv ((gx a_g.Entries k2).Owner), iv ((gx a_g.Entries k2).Day), iv (((gx a_g.Entries k2).Block).Size), (sl w1)]) tk_42 pz R R R R R R R) (wnt (wcd [box b6 [iv ((gx a_g.Entries k2).Owner), iv ((gx a_g.Entries k2).Day), iv (((gx a_g.Entries k2).Block).Size), (sl w1)], box b1 [(sl v0a), (sl v1a), (sl v2a), (sl v3a), iv a_g.Round, iv a_g.Year]] 17 mixed (aq 0 R (pom R) so2 R (aq 1 R (pof fo_42_0 R) so2 R (aq (v := iv ((gx a_g.Entries k2).Owner)) 2 R (plx tk_3 pz R R) so2 R (aq 5 R (pof fo_42_1 R) so2 R (aq (v := iv ((gx a_g.Entries k2).Day)) 6 R (plx tk_3 pz R R) so2 R (aq 10 R (pof fo_42_2 R) so2 R (aq (v := .agg #[iv (((gx a_g.Entries k2).Block).Size), (sl w1)]) 11 R (plb tk_40 pz R R R) so2 R (a1 3 (bdO t1 fun v4 hv4 t1 => (wsc R (cz0 fa_7 R fun w hw => c_impl_FormatInt_b w (hw.tab ht) ((gx a_g.Entries k2).Owner) hv4) (fun _ => (zt so2)) R fun _ => (gdO t1 fun g4 t1 => (aq 4 R (po_sadd R R g4) so2 R (a1 7 (bdO t1 fun v5 hv5 t1 => (wsc R (cz0 fa_7 R fun w hw => c_impl_FormatInt_b w (hw.tab ht) ((gx a_g.Entries k2).Day) hv5) (fun _ => (zt so2)) R fun _ => (gdO t1 fun g5 t1 => (aq 8 R (po_sadd R R g5) so2 R (gdO t1 fun g6 t1 => (aq 9 R (po_sadd R R g6) so2 R (a1 12 (bdO t1 fun v6 hv6 t1 => (wsc R (cz0 fa_8 R fun w hw => c_impl_BlockText w ((gx a_g.Entries k2).Block) w1 (Rg.on (er_GEntry_0 hc1 (rga r2) hk2) hw) hv6) (fun _ => (zt so2)) R fun _ => (gdO t1 fun g7 t1 => (aq 13 R (po_sadd R R g7) so2 R (a1 14 (wse R (ebs R (sb_33_1 (sadd (sadd (sadd (sadd v4 (⟨[32]⟩ : Str)) v5) (⟨[32]⟩ : Str)) v6))) (fun _ => (zt (zc pk1 (zc pk1 zn)))) R fun b7 => (a1 15 (gdO t1 fun g8 t1 => (wse R (eo_append (xs := s2) (ys := ([(sadd (sadd (sadd (sadd v4 (⟨[32]⟩ : Str)) v5) (⟨[32]⟩ : Str)) v6)] : List Str)) ak_33 pk3 R R (slin_rd fun _ g => Rg.on (rgo (pbo pz (n := 1) (xs := ([(sadd (sadd (sadd (sadd v4 (⟨[32]⟩ : Str)) v5) (⟨[32]⟩ : Str)) v6)] : List Str)) R R (by unfold maxLen; omega))) g) g8) (fun _ => (zt (zc pk2 (zc pk2 zn)))) R fun x4 => ?_)))))))))))))))))))))))))))))))))
 refine aq 16 R (po_assign R) (zc pk2 (zc pk2 zn)) R (ae (wqb (wqt (wcg (wlq (po_inc R R (by omega)) R ?_)))))
 exact mv R R (wln (wq_rnd hk2 (stpN l1 t1) x4 (su5 R R R R R) (zc pk3 so1)))
 have c2 : (decide (((k2 : Nat) : Int) < ((a_g.Entries.length : Nat) : Int))) = false := ddf (by omega)
 have en2 := foe l1 hk2
 exact wcr (wlq (pls R R) R (wnt (wcs (wff R c2 (wcx (wqe (wqe (wbx (wjm _ x2l (Sum.inl.inj en2) (su2 R R) so2)))))))))
 intro e2 x3 hp
 obtain rfl : e2 = y1 := hp.symm
 refine wqt (wcs (bdO t0 fun v7 hv7 t0 => (gdO t0 fun g9 t0 => (gdO t0 fun g10 t0 => (bdO t0 fun v8 hv8 t0 => (bdO t0 fun v9 hv9 t0 => (gdO t0 fun g11 t0 => (bdO t0 fun v10 hv10 t0 => (gdO t0 fun g12 t0 => (wcj (X := Hd) (fun _ => True) (fun z => [(2, (sl z))]) (fun z => [ownF (sl z) (e2 ++ [(sadd (sadd (sadd (⟨[114, 111, 117, 110, 100, 32]⟩ : Str) v7) (⟨[47]⟩ : Str)) v9), v10])]) ?_ ?_))))))))))
 refine wcd [box b1 [(sl v0a), (sl v1a), (sl v2a), (sl v3a), iv a_g.Round, iv a_g.Year]] 17 mixed (aq 0 R (pom R) so1 R (aq 1 R (pof fo_29_4 R) so1 R (aq (v := iv a_g.Round) 2 R (plx tk_3 pz R R) so1 R (aq (v := .agg #[(sl v0a), (sl v1a), (sl v2a), (sl v3a), iv a_g.Round, iv a_g.Year]) 6 R (plb tk_29 pz R R R) so1 R (aq 10 R (pof fo_29_5 R) so1 R (aq (v := iv a_g.Year) 11 R (plx tk_3 pz R R) so1 R (wa_2 (i := 3) (j := 12) (by kernel_rfl) ?_ ?_)))))))
 refine wsc R (cz0 fa_7 R fun w hw => c_impl_FormatInt_b w (hw.tab ht) a_g.Round hv7) (fun _ => (zt so1)) R fun _ => aq 4 R (po_sadd R R g9) so1 R (aq 5 R (po_sadd R R g10) so1 R (wa_2 (i := 7) (j := 12) (by kernel_rfl) ?_ ?_))
 refine wsc R (cz0 fa_11 R fun w hw => c_impl_SwapRounds w a_g v0a (ra r0 hw) v1a (ra r1 hw) v2a u2a (ra r2 hw) v3a (ra r3 hw) hv8) (fun _ => (zt so1)) R fun _ => wa_2 (i := 8) (j := 12) (by kernel_rfl) ?_ ?_
 refine wsc R (cz0 fa_7 R fun w hw => c_impl_FormatInt_b w (hw.tab ht) v8 hv9) (fun _ => (zt so1)) R fun _ => aq 9 R (po_sadd R R g11) so1 R (a1 12 (wse R (ebs R (sb_25_1 a_g.Year)) (fun _ => (zt (zc pk1 zn))) R fun b8 => (a1 13 (wsc R (cz0 fa_19 R fun w hw => c_impl_lineOf w (hw.tab ht) (⟨[121, 101, 97, 114]⟩ : Str) ([a_g.Year] : List Int) (⟨some ⟨b8, 0, none⟩, 1, 1⟩ : Hd) (Rg.on (rgo (pbo pz (n := 1) (xs := ([a_g.Year] : List Int)) R R (by unfold maxLen; omega))) hw) hv10) (fun _ => (zt (zc pk1 zn))) R fun _ => ?_))))
 refine a1 14 (wse R (ebs R (sb_33_2 (sadd (sadd (sadd (⟨[114, 111, 117, 110, 100, 32]⟩ : Str) v7) (⟨[47]⟩ : Str)) v9) v10)) (fun _ => (zt (zc pk2 zn))) R fun b9 => (a1 15 (wse R (eo_append (xs := e2) (ys := ([(sadd (sadd (sadd (⟨[114, 111, 117, 110, 100, 32]⟩ : Str) v7) (⟨[47]⟩ : Str)) v9), v10] : List Str)) ak_33 pk3 R R (slin_rd fun _ g => Rg.on (rgo (pbo pz (n := 2) (xs := ([(sadd (sadd (sadd (⟨[114, 111, 117, 110, 100, 32]⟩ : Str) v7) (⟨[47]⟩ : Str)) v9), v10] : List Str)) R R (by unfold maxLen; omega))) g) g12) (fun _ => (zt (zc pk3 zn))) R fun x5 => ?_)))
 exact aq 16 R (po_assign R) (zc pk3 zn) R (ae (wqm x5 trivial (su1 R) so1))
 refine wse R (ebs R (sb_25_1 a_g.Year)) (fun _ => (zt (zc pk1 zn))) R fun b10 => a1 8 (wsc R (cz0 fa_7 R fun w hw => c_impl_FormatInt_b w (hw.tab ht) v8 hv9) (fun _ => (zt (zc pk1 zn))) R fun _ => (aq 9 R (po_sadd R R g11) (zc pk1 zn) R (a1 13 (wsc R (cz0 fa_19 R fun w hw => c_impl_lineOf w (hw.tab ht) (⟨[121, 101, 97, 114]⟩ : Str) ([a_g.Year] : List Int) (⟨some ⟨b10, 0, none⟩, 1, 1⟩ : Hd) (Rg.on (rgo (pbo pz (n := 1) (xs := ([a_g.Year] : List Int)) R R (by unfold maxLen; omega))) hw) hv10) (fun _ => (zt (zc pk1 zn))) R fun _ => ?_))))
 refine a1 14 (wse R (ebs R (sb_33_2 (sadd (sadd (sadd (⟨[114, 111, 117, 110, 100, 32]⟩ : Str) v7) (⟨[47]⟩ : Str)) v9) v10)) (fun _ => (zt (zc pk2 zn))) R fun b11 => (a1 15 (wse R (eo_append (xs := e2) (ys := ([(sadd (sadd (sadd (⟨[114, 111, 117, 110, 100, 32]⟩ : Str) v7) (⟨[47]⟩ : Str)) v9), v10] : List Str)) ak_33 pk3 R R (slin_rd fun _ g => Rg.on (rgo (pbo pz (n := 2) (xs := ([(sadd (sadd (sadd (⟨[114, 111, 117, 110, 100, 32]⟩ : Str) v7) (⟨[47]⟩ : Str)) v9), v10] : List Str)) R R (by unfold maxLen; omega))) g) g12) (fun _ => (zt (zc pk3 zn))) R fun x6 => ?_)))
 exact aq 16 R (po_assign R) (zc pk3 zn) R (ae (wqm x6 trivial (su1 R) so1))
 refine wse R (ebs R (sb_25_1 a_g.Year)) (fun _ => (zt (zc pk1 zn))) R fun b12 => a1 7 (wsc R (cz0 fa_11 R fun w hw => c_impl_SwapRounds w a_g v0a (ra r0 hw) v1a (ra r1 hw) v2a u2a (ra r2 hw) v3a (ra r3 hw) hv8) (fun _ => (zt (zc pk1 zn))) R fun _ => (a1 8 (wsc R (cz0 fa_7 R fun w hw => c_impl_FormatInt_b w (hw.tab ht) v8 hv9) (fun _ => (zt (zc pk1 zn))) R fun _ => (aq 9 R (po_sadd R R g11) (zc pk1 zn) R (a1 13 (wsc R (cz0 fa_19 R fun w hw => c_impl_lineOf w (hw.tab ht) (⟨[121, 101, 97, 114]⟩ : Str) ([a_g.Year] : List Int) (⟨some ⟨b12, 0, none⟩, 1, 1⟩ : Hd) (Rg.on (rgo (pbo pz (n := 1) (xs := ([a_g.Year] : List Int)) R R (by unfold maxLen; omega))) hw) hv10) (fun _ => (zt (zc pk1 zn))) R fun _ => ?_))))))
 refine a1 14 (wse R (ebs R (sb_33_2 (sadd (sadd (sadd (⟨[114, 111, 117, 110, 100, 32]⟩ : Str) v7) (⟨[47]⟩ : Str)) v9) v10)) (fun _ => (zt (zc pk2 zn))) R fun b13 => (a1 15 (wse R (eo_append (xs := e2) (ys := ([(sadd (sadd (sadd (⟨[114, 111, 117, 110, 100, 32]⟩ : Str) v7) (⟨[47]⟩ : Str)) v9), v10] : List Str)) ak_33 pk3 R R (slin_rd fun _ g => Rg.on (rgo (pbo pz (n := 2) (xs := ([(sadd (sadd (sadd (⟨[114, 111, 117, 110, 100, 32]⟩ : Str) v7) (⟨[47]⟩ : Str)) v9), v10] : List Str)) R R (by unfold maxLen; omega))) g) g12) (fun _ => (zt (zc pk3 zn))) R fun x7 => ?_)))
 exact aq 16 R (po_assign R) (zc pk3 zn) R (ae (wqm x7 trivial (su1 R) so1))
 refine wse R (ebs R (sb_25_1 a_g.Year)) (fun _ => (zt (zc pk1 zn))) R fun b14 => a1 3 (wsc R (cz0 fa_7 R fun w hw => c_impl_FormatInt_b w (hw.tab ht) a_g.Round hv7) (fun _ => (zt (zc pk1 zn))) R fun _ => (aq 4 R (po_sadd R R g9) (zc pk1 zn) R (aq 5 R (po_sadd R R g10) (zc pk1 zn) R (a1 7 (wsc R (cz0 fa_11 R fun w hw => c_impl_SwapRounds w a_g v0a (ra r0 hw) v1a (ra r1 hw) v2a u2a (ra r2 hw) v3a (ra r3 hw) hv8) (fun _ => (zt (zc pk1 zn))) R fun _ => (a1 8 (wsc R (cz0 fa_7 R fun w hw => c_impl_FormatInt_b w (hw.tab ht) v8 hv9) (fun _ => (zt (zc pk1 zn))) R fun _ => (aq 9 R (po_sadd R R g11) (zc pk1 zn) R (a1 13 (wsc R (cz0 fa_19 R fun w hw => c_impl_lineOf w (hw.tab ht) (⟨[121, 101, 97, 114]⟩ : Str) ([a_g.Year] : List Int) (⟨some ⟨b14, 0, none⟩, 1, 1⟩ : Hd) (Rg.on (rgo (pbo pz (n := 1) (xs := ([a_g.Year] : List Int)) R R (by unfold maxLen; omega))) hw) hv10) (fun _ => (zt (zc pk1 zn))) R fun _ => ?_))))))))))
 refine a1 14 (wse R (ebs R (sb_33_2 (sadd (sadd (sadd (⟨[114, 111, 117, 110, 100, 32]⟩ : Str) v7) (⟨[47]⟩ : Str)) v9) v10)) (fun _ => (zt (zc pk2 zn))) R fun b15 => (a1 15 (wse R (eo_append (xs := e2) (ys := ([(sadd (sadd (sadd (⟨[114, 111, 117, 110, 100, 32]⟩ : Str) v7) (⟨[47]⟩ : Str)) v9), v10] : List Str)) ak_33 pk3 R R (slin_rd fun _ g => Rg.on (rgo (pbo pz (n := 2) (xs := ([(sadd (sadd (sadd (⟨[114, 111, 117, 110, 100, 32]⟩ : Str) v7) (⟨[47]⟩ : Str)) v9), v10] : List Str)) R R (by unfold maxLen; omega))) g) g12) (fun _ => (zt (zc pk3 zn))) R fun x8 => ?_)))
 exact aq 16 R (po_assign R) (zc pk3 zn) R (ae (wqm x8 trivial (su1 R) so1))
 intro x9 _
 refine wqt (wct ?_)
 obtain rfl := oi t0
 exact wq1 R R fun w hw => ⟨x9, R, hw.weak so1⟩

theorem c_laws_at (w : World) (a_code : List UInt8) (v0a : Hd) (r0 : rdF w (dm w []) (sl v0a) a_code) (a_i : Int) {r : Int} (t0 : laws_at a_code a_i = some r) : Calls Tryz.prog 10 #[(sl v0a), .int .i64 a_i] w fun e w' => e = .returned (.int .i64 r) ∧ SH w [] [] w' := by
 refine cwc (args := [_, _]) Tryz.func10 R Tryz.ntmps10 R ?_
 unfold laws_at at t0
 refine wcr (asg R R (wnt (wcs (wcr (mv R R (wlq (pln (rga r0) el_22 R) R (wlq (pol R R) R (wnt (wcO t0 R (fun h1 t0 => ?_) fun h1 t0 => ?_)))))))))
 refine wcr (asg R R (wnt (wct (wqr ?_))))
 obtain rfl := oi t0
 exact wq1 R R fun w hw => ⟨R, hw.weak zn⟩
 refine wck (wqt (wcr (mv R R (mv R R (wlq (po_mul R R) R (wlq (po_add R R) R (mv R R (wlq (pln (rga r0) el_22 R) R (gdO t0 fun g1 t0 => (wlq (po_rem R R g1) R (gdO t0 fun g2 t0 => (wlq (po_ixr (rga r0) el_22 R R g2.1 g2.2) R (wlq (v := .int .u8 ((gx a_code ((((wr ((wr (a_i * 5)) + 1)).tmod ((a_code.length : Nat) : Int))).toNat)).toNat : Int)) (po_ldf (rga r0) tk_5 R (ix_lt g2) R) R (wlq (po_u8int isU8_5 isInt_3 R) R (asg R R (wnt (wct ?_)))))))))))))))))
 obtain rfl := oi t0
 exact wq1 R R fun w hw => ⟨R, hw.weak zn⟩

theorem c_impl_WholeCell (w : World) (a_a : Int) {r : GCell} (t0 : impl_WholeCell a_a = some r) : Calls Tryz.prog 30 #[.int .i64 a_a] w fun e w' => e = .returned (.agg #[.int .i64 r.Split, .int .i64 r.A, .int .i64 r.B]) ∧ SH w [] [] w' := by
 refine cwc (args := [_]) Tryz.func30 R Tryz.ntmps30 R ?_
 unfold impl_WholeCell at t0
 refine wcr (wle (eal (cs := [iv 0, iv 0, iv 0]) za_58) R fun b1 => (wnt (wcs (wcr (mv R R (bdO t0 fun v1 hv1 t0 => (wlc (cz0 fa_51 R fun w hw => c_impl_isColor w a_a hv1) R fun _ => (wlq (po_not R) R (wnt (wcO t0 R (fun h1 t0 => ?_) fun h1 t0 => ?_))))))))))
 refine wcr (wlq (po_build R bd_58) R (wls (sbx (cs' := [iv 0, iv 0, iv 0]) tk_58 pz R R R R R R R) (wnt (wct (wqr ?_)))))
 obtain rfl := oi t0
 exact wqc R tk_58 R pz R fun w hw => ⟨R, hw.weak zn⟩
 refine wck (wqt (wcr (mv R R (mv R R (wlq (po_build R (bd_58_1_2 a_a a_a)) R (wls (sbx (cs' := [iv 0, iv a_a, iv a_a]) tk_58 pz R R R R R R R) (wnt (wct ?_))))))))
 obtain rfl := oi t0
 exact wqc R tk_58 R pz R fun w hw => ⟨R, hw.weak zn⟩

theorem c_impl_SplitCell (w : World) (a_split : Int) (a_a : Int) (a_b : Int) {r : GCell} (t0 : impl_SplitCell a_split a_a a_b = some r) : Calls Tryz.prog 29 #[.int .i64 a_split, .int .i64 a_a, .int .i64 a_b] w fun e w' => e = .returned (.agg #[.int .i64 r.Split, .int .i64 r.A, .int .i64 r.B]) ∧ SH w [] [] w' := by
 refine cwc (args := [_, _, _]) Tryz.func29 R Tryz.ntmps29 R ?_
 unfold impl_SplitCell at t0
 refine wcr (wle (eal (cs := [iv 0, iv 0, iv 0]) za_58) R fun b1 => (wnt (wcs (wcr (mv R R (mv R R (wlq (pol R R) R (wnt (wcO t0 R (fun h1 t0 => ?_) fun h1 t0 => ?_)))))))))
 refine wcr (mv R R (bdO t0 fun v1 hv1 t0 => (wlc (cz0 fa_30 R fun w hw => c_impl_WholeCell w a_a hv1) R fun _ => (wls (sbx (cs' := [iv v1.Split, iv v1.A, iv v1.B]) tk_58 pz R R R R R R R) (wnt (wct (wqr ?_)))))))
 obtain rfl := oi t0
 exact wqc R tk_58 R pz R fun w hw => ⟨R, hw.weak zn⟩
 refine wck (wqt (wcr (mv R R (mv R R (mv R R (wlq (po_build R (bd_58_0_1_2 a_split a_a a_b)) R (wle (eal (cs := [iv 0, iv 0, iv 0]) za_58) R fun b2 => (wls (sbx (cs' := [iv a_split, iv a_a, iv a_b]) tk_58 pz R R R R R R R) (wnt (wcs (wcr (wlq (v := .agg #[iv a_split, iv a_a, iv a_b]) (plb tk_58 pz R R R) R (bdO t0 fun v2 hv2 t0 => (wlc (cz0 fa_46 R fun w hw => c_impl_CellOk w (GCell.mk a_split a_a a_b) hv2) R fun _ => (wlq (po_not R) R (wnt (wcO t0 R (fun h2 t0 => ?_) fun h2 t0 => ?_)))))))))))))))))
 refine wcr (wlq (po_build R bd_58) R (wls (sbx (cs' := [iv 0, iv 0, iv 0]) tk_58 pk1 R R R R R R R) (wnt (wct (wqr ?_)))))
 obtain rfl := oi t0
 exact wqc R tk_58 R pz R fun w hw => ⟨R, hw.weak zn⟩
 refine wck (wqt (wcr (wlq (v := .agg #[iv a_split, iv a_a, iv a_b]) (plb tk_58 pz R R R) R (wls (sbx (cs' := [iv a_split, iv a_a, iv a_b]) tk_58 pk1 R R R R R R R) (wnt (wct ?_))))))
 obtain rfl := oi t0
 exact wqc R tk_58 R pz R fun w hw => ⟨R, hw.weak zn⟩

theorem c_impl_StarBlock (w : World)  {r : GBlock} (t0 : impl_StarBlock = some r) : Calls Tryz.prog 25 #[] w fun e w' => ∃ x : Hd, e = .returned (.agg #[.int .i64 r.Size, (sl x)]) ∧ SH w [] [ownF (sl x) r.Cells] w' := by
 refine cwc (args := []) Tryz.func25 R Tryz.ntmps25 R ?_
 unfold impl_StarBlock at t0
 refine wcr (wle (eal (cs := [iv 0, (sl hn)]) za_40) R fun b1 => (wnt (wcr (bdO t0 fun v1 hv1 t0 => (wlc (cz0 fa_30 R fun w hw => c_impl_WholeCell w 1 hv1) R fun _ => (wle (eal (cs := [iv 0, iv 0, iv 0]) za_58) R fun b2 => (wls (sbx (cs' := [iv v1.Split, iv v1.A, iv v1.B]) tk_58 pz R R R R R R R) (wnt (wcs (wcd [box b2 [iv v1.Split, iv v1.A, iv v1.B], box b1 [iv 0, (sl hn)]] 11 mixed (aq (v := .agg #[iv v1.Split, iv v1.A, iv v1.B]) 1 R (plb tk_58 pz R R R) so2 R (aq (v := .agg #[iv v1.Split, iv v1.A, iv v1.B]) 3 R (plb tk_58 pz R R R) so2 R (aq (v := .agg #[iv v1.Split, iv v1.A, iv v1.B]) 4 R (plb tk_58 pz R R R) so2 R (aq (v := .agg #[iv v1.Split, iv v1.A, iv v1.B]) 5 R (plb tk_58 pz R R R) so2 R (aq (v := .agg #[iv v1.Split, iv v1.A, iv v1.B]) 7 R (plb tk_58 pz R R R) so2 R (a1 0 (bdO t0 fun v2 hv2 t0 => (wsc R (cz0 fa_29 R fun w hw => c_impl_SplitCell w 1 0 1 hv2) (fun _ => (zt so2)) R fun _ => (a1 2 (bdO t0 fun v3 hv3 t0 => (wsc R (cz0 fa_29 R fun w hw => c_impl_SplitCell w 2 1 0 hv3) (fun _ => (zt so2)) R fun _ => (a1 6 (bdO t0 fun v4 hv4 t0 => (wsc R (cz0 fa_29 R fun w hw => c_impl_SplitCell w 2 0 1 hv4) (fun _ => (zt so2)) R fun _ => (a1 8 (bdO t0 fun v5 hv5 t0 => (wsc R (cz0 fa_29 R fun w hw => c_impl_SplitCell w 1 1 0 hv5) (fun _ => (zt so2)) R fun _ => (a1 9 (wse R (ebs (qs := [(0, .agg #[iv v2.Split, iv v2.A, iv v2.B]), (1, .agg #[iv v1.Split, iv v1.A, iv v1.B]), (2, .agg #[iv v3.Split, iv v3.A, iv v3.B]), (3, .agg #[iv v1.Split, iv v1.A, iv v1.B]), (4, .agg #[iv v1.Split, iv v1.A, iv v1.B]), (5, .agg #[iv v1.Split, iv v1.A, iv v1.B]), (6, .agg #[iv v4.Split, iv v4.A, iv v4.B]), (7, .agg #[iv v1.Split, iv v1.A, iv v1.B]), (8, .agg #[iv v5.Split, iv v5.A, iv v5.B])]) R (sb_38_9 v2.Split v2.A v2.B v1.Split v1.A v1.B v3.Split v3.A v3.B v1.Split v1.A v1.B v1.Split v1.A v1.B v1.Split v1.A v1.B v4.Split v4.A v4.B v1.Split v1.A v1.B v5.Split v5.A v5.B)) (fun _ => (zt (zc pk1 (zc pk1 zn)))) R fun b3 => (aq 10 R (po_build R (bd_40_0_1 3 (⟨some ⟨b3, 0, none⟩, 9, 9⟩ : Hd))) (zc pk1 (zc pk1 zn)) R (a1 11 (ws_skipop R (sbx (cs' := [iv 3, (sl (⟨some ⟨b3, 0, none⟩, 9, 9⟩ : Hd))]) tk_40 pk2 R R R R R R R) (sts_past (by kernel_rfl)) ?_))))))))))))))))))))))))))))))))
 refine ae (wqt (wct ?_))
 obtain rfl := oi t0
 exact wqc R tk_40 R pz R fun w hw => ⟨(⟨some ⟨b3, 0, none⟩, 9, 9⟩ : Hd), R, hw.weak (zc (pbo pk1 (n := 9) (xs := ([v2, v1, v3, v1, v1, v1, v4, v1, v5] : List GCell)) R R (by unfold maxLen; omega)) zn)⟩

theorem c_impl_SampleBlock_c1 (w : World) (a_x : Int) (a_y : Int) (c_p2 : Int) (b2c : Nat) (q2 : Bx w b2c [.int .i64 c_p2]) {r : GCell} (t0 : impl_SampleBlock_c1 a_x a_y c_p2 = some r) : Calls Tryz.prog 28 #[.int .i64 a_x, .int .i64 a_y, ptr b2c 0] w fun e w' => e = .returned (.agg #[.int .i64 r.Split, .int .i64 r.A, .int .i64 r.B]) ∧ SH w [] [] w' := by
 refine cwc (args := [_, _, _]) Tryz.func28 R Tryz.ntmps28 R ?_
 unfold impl_SampleBlock_c1 at t0
 refine wcr (wle (eal (cs := [iv 0, iv 0, iv 0]) za_58) R fun b1 => (wnt (wcs (wcr (mv R R (wlq (po_mul R R) R (mv R R (wlq (po_add R R) R (wlq (v := iv c_p2) (po_load_abox q2 tk_3 R R) R (wlq (po_rem R R (by decide)) R ?_))))))))))
 refine wlq (pls R R) R (wnt (wcO t0 R (fun h1 t0 => ?_) fun h1 t0 => ?_))
 refine wcr (bdO t0 fun v1 hv1 t0 => (wlc (cz0 fa_29 R fun w hw => c_impl_SplitCell w 1 0 1 hv1) R fun _ => (wls (sbx (cs' := [iv v1.Split, iv v1.A, iv v1.B]) tk_58 pz R R R R R R R) (wnt (wct (wqr ?_))))))
 obtain rfl := oi t0
 exact wqc R tk_58 R pz R fun w hw => ⟨R, hw.weak zn⟩
 refine wck (wqt (wcr (wlq (v := iv c_p2) (po_load_abox q2 tk_3 R R) R (wlq (po_quo R R (by decide)) R ?_))))
 refine wlq (po_add R R) R (bdO t0 fun v2 hv2 t0 => (wlc (cz0 fa_30 R fun w hw => c_impl_WholeCell w (wr ((wr (c_p2.tdiv 5)) + 1)) hv2) R fun _ => (wls (sbx (cs' := [iv v2.Split, iv v2.A, iv v2.B]) tk_58 pz R R R R R R R) (wnt (wct ?_)))))
 obtain rfl := oi t0
 exact wqc R tk_58 R pz R fun w hw => ⟨R, hw.weak zn⟩

theorem c_impl_made (w : World) (a_size : Int) (a_one : Int → Int → Option GCell) (f1 : Nat) (us1 : List Value) (fn1 : FnAt Tryz.prog f1) (hg1 : ∀ (w' : World) (z0 : Int) (z1 : Int) (_ : Keep [] w w') (z : GCell) (_ : a_one z0 z1 = some z), Calls Tryz.prog f1 (([.int .i64 z0, .int .i64 z1] : List Value) ++ us1).toArray w' fun e w'' => e = .returned (.agg #[.int .i64 z.Split, .int .i64 z.A, .int .i64 z.B]) ∧ SH w' [] [] w'') {r : GBlock} (t0 : impl_made a_size a_one = some r) : Calls Tryz.prog 27 #[.int .i64 a_size, .func (.func f1) #[] us1.toArray] w fun e w' => ∃ x : Hd, e = .returned (.agg #[.int .i64 r.Size, (sl x)]) ∧ SH w [] [ownF (sl x) r.Cells] w' := by
 refine cwc (args := [_, _]) Tryz.func27 R Tryz.ntmps27 R ?_
 unfold impl_made at t0
 refine wcr (wle (eal (cs := [iv 0, (sl hn)]) za_40) R fun b1 => (wnt (wcr (mv R R (wlq (po_build R (bd_40_0 a_size)) R (wle (eal (cs := [iv 0, (sl hn)]) za_40) R fun b2 => (wls (sbx (cs' := [iv a_size, (sl hn)]) tk_40 pz R R R R R R R) (wnt (wcs (wcr (mv R R (mv R R (wnt (gdO t0 fun g1 t0 => (lpO_inv t0 fun y1 l1 t0 => (wj (J := List GCell) (X := Hd) (fun z => y1 = z) (fun _ _ => [(4, ptr b1 0), (5, ptr b2 0)]) (fun z x => [box b2 [iv a_size, (sl x)], box b1 [iv 0, (sl hn)], ownF (sl x) z]) ?_ ?_))))))))))))))))
 refine wcb (wcf (X := Hd) l1 (fun k1 s1 x1l => [(0, iv a_size), (1, .func (.func f1) #[] us1.toArray), (4, ptr b1 0), (5, ptr b2 0), (10, iv a_size), (11, iv ((k1 : Nat) : Int))]) (fun k1 s1 x1l => [box b2 [iv a_size, (sl x1l)], box b1 [iv 0, (sl hn)], ownF (sl x1l) s1]) hn (su6 R R R R R R) (zc pz (zc pz (zc pick_nil zn))) fun k1 s1 x1l hN1 l1 => ?_)
 by_cases hk1 : k1 < (a_size).toNat
 refine fos l1 hk1 fun _ t1 l1 => ?_
 unfold impl_made_L1 at t1
 have c1 : (decide (((k1 : Nat) : Int) < a_size)) = true := ddt (by omega)
 refine wcr (wlq (pls R R) R (wnt (wcs (wft R c1 (wck (wqt (wcs (wcb (wcr (mv R R (asg R R (wnt (wcr (mv R R (mv R R (wnt (lpO_inv t1 fun y2 l2 t1 => (wj (J := List GCell) (X := Hd) (fun z => y2 = z) (fun _ _ => [(0, iv a_size), (1, .func (.func f1) #[] us1.toArray), (4, ptr b1 0), (5, ptr b2 0), (10, iv a_size), (11, iv ((k1 : Nat) : Int))]) (fun z x => [box b2 [iv a_size, (sl x)], box b1 [iv 0, (sl hn)], ownF (sl x) z]) ?_ ?_))))))))))))))))))
 refine wcb (wcf (X := Hd) l2 (fun k2 s2 x2l => [(0, iv a_size), (1, .func (.func f1) #[] us1.toArray), (4, ptr b1 0), (5, ptr b2 0), (6, iv ((k1 : Nat) : Int)), (10, iv a_size), (11, iv ((k1 : Nat) : Int)), (14, iv a_size), (15, iv ((k2 : Nat) : Int))]) (fun k2 s2 x2l => [box b2 [iv a_size, (sl x2l)], box b1 [iv 0, (sl hn)], ownF (sl x2l) s2]) x1l (su9 R R R R R R R R R) so3 fun k2 s2 x2l hN2 l2 => ?_)
 by_cases hk2 : k2 < (a_size).toNat
 refine fos l2 hk2 fun _ t2 l2 => ?_
 unfold impl_made_L2 at t2
 have c2 : (decide (((k2 : Nat) : Int) < a_size)) = true := ddt (by omega)
 refine wcr (wlq (pls R R) R (wnt (wcs (wft R c2 (wck (wqt (wcs (wcb (wcr (mv R R (asg R R (wnt (wcd [box b2 [iv a_size, (sl x2l)], box b1 [iv 0, (sl hn)]] 9 mixed (aq 0 R (pof fo_40_1 R) so2 R (aq (v := (sl x2l)) 1 R (plx tk_38 pz R R) so2 R (aq 2 R (pom R) so2 R (aq 3 R (pom R) so2 R (aq 4 R (pom R) so2 R (a1 5 (bdO t2 fun v1 hv1 t2 => (wsc R (co_d fn1 R R fun w hw => hg1 w ((k2 : Nat) : Int) ((k1 : Nat) : Int) hw.keep _ hv1) (fun _ => (zt so2)) R fun _ => (a1 6 (wse R (ebs R (sb_38_1 v1.Split v1.A v1.B)) (fun _ => (zt (zc pk1 (zc pk1 zn)))) R fun b3 => (a1 7 (gdO t2 fun g2 t2 => (wse R (eo_append (xs := s2) (ys := ([v1] : List GCell)) ak_38 pk3 R R (slin_rd fun _ g => Rg.on (rgo (pbo pz (n := 1) (xs := ([v1] : List GCell)) R R (by unfold maxLen; omega))) g) g2) (fun _ => (zt (zc pk2 (zc pk2 zn)))) R fun x3 => ?_))))))))))))))))))))))))))
 refine aq 8 R (pof fo_40_1 R) (zc pk2 (zc pk2 zn)) R (a1 9 (ws_skipop R (sbx (cs' := [iv a_size, (sl x3)]) tk_38 pk2 R R R R R R R) (sts_past (by kernel_rfl)) ?_))
 refine ae (wqb (wqt (wcg (wlq (po_inc R R (by omega)) R ?_))))
 exact mv R R (wln (wq_rnd hk2 (stpN l2 t2) x3 (su9 R R R R R R R R R) (zc pz (zc pk2 so1))))
 have c2 : (decide (((k2 : Nat) : Int) < a_size)) = false := ddf (by omega)
 have en1 := foe l2 hk2
 exact wcr (wlq (pls R R) R (wnt (wcs (wff R c2 (wcx (wqe (wqe (wbx (wjm _ x2l (Sum.inl.inj en1) (su6 R R R R R R) so3)))))))))
 intro e2 x2 hp
 obtain rfl : e2 = y2 := hp.symm
 refine wqb (wqt (wcg (wlq (po_inc R R (by omega)) R ?_)))
 exact mv R R (wln (wq_rnd hk1 (stpN l1 t1) x2 (su6 R R R R R R) so3))
 have c1 : (decide (((k1 : Nat) : Int) < a_size)) = false := ddf (by omega)
 have en2 := foe l1 hk1
 exact wcr (wlq (pls R R) R (wnt (wcs (wff R c1 (wcx (wqe (wqe (wbx (wjm _ x1l (Sum.inl.inj en2) (su2 R R) so3)))))))))
 intro e1 x1 hp
 obtain rfl : e1 = y1 := hp.symm
 refine wqt (wcr (wlq (v := .agg #[iv a_size, (sl x1)]) (plb tk_40 pz R R R) R (wls (sbx (cs' := [iv a_size, (sl x1)]) tk_40 pk1 R R R R R R R) (wnt (wct ?_)))))
 obtain rfl := oi t0
 exact wqc R tk_40 R pz R fun w hw => ⟨x1, R, hw.weak (zc pk2 zn)⟩

theorem c_impl_SampleBlock (w : World) (a_n : Int) {r : GBlock} (t0 : impl_SampleBlock a_n = some r) : Calls Tryz.prog 9 #[.int .i64 a_n] w fun e w' => ∃ x : Hd, e = .returned (.agg #[.int .i64 r.Size, (sl x)]) ∧ SH w [] [ownF (sl x) r.Cells] w' := by
 refine cwc (args := [_]) Tryz.func9 R Tryz.ntmps9 R ?_
 unfold impl_SampleBlock at t0
 refine wcr (wle (eo_box R R) R fun b1 => (wle (eal (cs := [iv 0, (sl hn)]) za_40) R fun b2 => (wnt (wcs (wcb (wcr (wlq (v := iv a_n) (plx tk_3 pk1 R R) R (wlq (pol R R) R (asg R R (wnt (wcO t0 R (fun h1 t0 => ?_) fun h1 t0 => ?_)))))))))))
 refine wcr (bdO t0 fun v1 hv1 t0 => (wlc (cz1 fa_25 R fun w hw => c_impl_StarBlock w hv1) R fun x1 => (wls (sbx (cs' := [iv v1.Size, (sl x1)]) tk_40 pk1 R R R R R R R) (wnt (wct (wbr (wqr ?_)))))))
 obtain rfl := oi t0
 exact wqc R tk_40 R pz R fun w hw => ⟨x1, R, hw.weak (zc pk1 zn)⟩
 refine wcr (wlq (v := iv a_n) (plx tk_3 pk1 R R) R (bdO t0 fun v2 hv2 t0 => (wlc (cz0 fa_26 R fun w hw => c_impl_within w a_n 1 9 hv2) R fun _ => (wlq (po_not R) R (asg R R (wnt (wcO t0 R (fun h2 t0 => ?_) fun h2 t0 => ?_)))))))
 refine wcr (wlq (po_build R bd_40) R (wls (sbx (cs' := [iv 0, (sl hn)]) tk_40 pz R R R R R R R) (wnt (wct (wbr (wqr ?_))))))
 obtain rfl := oi t0
 exact wqc R tk_40 R pz R fun w hw => ⟨hn, R, hw.weak (zc pick_nil zn)⟩
 refine wck (wqb (wqt (wcr (wlq (po_makeFunc R) R (bdO t0 fun v3 hv3 t0 => (wlc (cz1 fa_27 R fun w hw => c_impl_made w 2 (fun z0 z1 => impl_SampleBlock_c1 z0 z1 a_n) 28 [ptr b1 0] fa_28 (fun w2 z0 z1  hk _ hz => c_impl_SampleBlock_c1 w2 z0 z1 a_n b1 (Bx.keep (hw.at_box pk1) hk) hz) hv3) R fun x2 => (wls (sbx (cs' := [iv v3.Size, (sl x2)]) tk_40 pk1 R R R R R R R) (wnt (wct ?_)))))))))
 obtain rfl := oi t0
 exact wqc R tk_40 R pz R fun w hw => ⟨x2, R, hw.weak (zc pk1 zn)⟩

theorem c_spec_StarBlock (w : World)  {r : GBlock} (t0 : spec_StarBlock = some r) : Calls Tryz.prog 14 #[] w fun e w' => ∃ x : Hd, e = .returned (.agg #[.int .i64 r.Size, (sl x)]) ∧ SH w [] [ownF (sl x) r.Cells] w' := by
 refine cwc (args := []) Tryz.func14 R Tryz.ntmps14 R ?_
 unfold spec_StarBlock at t0
 refine wcr (wle (eal (cs := [iv 0, (sl hn)]) za_40) R fun b1 => (wnt (wcr (bdO t0 fun v1 hv1 t0 => (wlc (cz0 fa_34 R fun w hw => c_spec_WholeCell w 1 hv1) R fun _ => (wle (eal (cs := [iv 0, iv 0, iv 0]) za_58) R fun b2 => (wls (sbx (cs' := [iv v1.Split, iv v1.A, iv v1.B]) tk_58 pz R R R R R R R) (wnt (wcr (wlq (po_build R (bd_58_0_1_2 1 0 1)) R (wlq (v := .agg #[iv v1.Split, iv v1.A, iv v1.B]) (plb tk_58 pz R R R) R (wlq (po_build R (bd_58_0_1_2 2 1 0)) R (wlq (v := .agg #[iv v1.Split, iv v1.A, iv v1.B]) (plb tk_58 pz R R R) R (wlq (v := .agg #[iv v1.Split, iv v1.A, iv v1.B]) (plb tk_58 pz R R R) R (wlq (v := .agg #[iv v1.Split, iv v1.A, iv v1.B]) (plb tk_58 pz R R R) R (wlq (po_build R (bd_58_0_1_2 2 0 1)) R (wlq (v := .agg #[iv v1.Split, iv v1.A, iv v1.B]) (plb tk_58 pz R R R) R (wlq (po_build R (bd_58_0_1_2 1 1 0)) R (wle (ebs (qs := [(0, .agg #[iv 1, iv 0, iv 1]), (1, .agg #[iv v1.Split, iv v1.A, iv v1.B]), (2, .agg #[iv 2, iv 1, iv 0]), (3, .agg #[iv v1.Split, iv v1.A, iv v1.B]), (4, .agg #[iv v1.Split, iv v1.A, iv v1.B]), (5, .agg #[iv v1.Split, iv v1.A, iv v1.B]), (6, .agg #[iv 2, iv 0, iv 1]), (7, .agg #[iv v1.Split, iv v1.A, iv v1.B]), (8, .agg #[iv 1, iv 1, iv 0])]) R (sb_38_9 1 0 1 v1.Split v1.A v1.B 2 1 0 v1.Split v1.A v1.B v1.Split v1.A v1.B v1.Split v1.A v1.B 2 0 1 v1.Split v1.A v1.B 1 1 0)) R fun b3 => (wlq (po_build R (bd_40_0_1 3 (⟨some ⟨b3, 0, none⟩, 9, 9⟩ : Hd))) R (wls (sbx (cs' := [iv 3, (sl (⟨some ⟨b3, 0, none⟩, 9, 9⟩ : Hd))]) tk_40 pk2 R R R R R R R) (wnt (wct ?_)))))))))))))))))))))))
 obtain rfl := oi t0
 exact wqc R tk_40 R pz R fun w hw => ⟨(⟨some ⟨b3, 0, none⟩, 9, 9⟩ : Hd), R, hw.weak (zc (pbo pk1 (n := 9) (xs := ([(GCell.mk 1 0 1), v1, (GCell.mk 2 1 0), v1, v1, v1, (GCell.mk 2 0 1), v1, (GCell.mk 1 1 0)] : List GCell)) R R (by unfold maxLen; omega)) zn)⟩

theorem c_impl_SameBlock (w : World) (a_b : GBlock) (v0a : Hd) (r0 : rdF w (dm w []) (sl v0a) a_b.Cells) (a_d : GBlock) (v1a : Hd) (r1 : rdF w (dm w []) (sl v1a) a_d.Cells) {r : Bool} (t0 : impl_SameBlock a_b a_d = some r) : Calls Tryz.prog 13 #[.agg #[.int .i64 a_b.Size, (sl v0a)], .agg #[.int .i64 a_d.Size, (sl v1a)]] w fun e w' => e = .returned (.bool r) ∧ SH w [] [] w' := by
 refine cwc (args := [_, _]) Tryz.func13 R Tryz.ntmps13 R ?_
 unfold impl_SameBlock at t0
 refine wcr (wle (eo_box R R) R fun b1 => (wle (eo_box R R) R fun b2 => (asg R R (wnt (wcs (wcs (wcj (X := Unit) (fun _ => True) (fun _ => [(2, ptr b1 0), (3, ptr b2 0), (19, .bool ((a_b.Size != a_d.Size) || (((a_b.Cells.length : Nat) : Int) != ((a_d.Cells.length : Nat) : Int))))]) (fun _ => [box b2 [iv a_d.Size, (sl v1a)], box b1 [iv a_b.Size, (sl v0a)]]) ?_ ?_)))))))
 refine wcg (wlq (pof fo_40_0 R) R (wlq (v := iv a_b.Size) (plx tk_3 pk1 R R) R (wlq (pof fo_40_0 R) R (wlq (v := iv a_d.Size) (plx tk_3 pz R R) R (wlq (po_neq R R) R (mv R R (wl_fork (t := 11) R (fun h1 => ?_) fun h1 => ?_)))))))
 exact wgf (j := 5) R R R R R (wgf (j := 5) R R R R R (wgf (j := 5) R R R R R (wgf (j := 5) R R R R R (wgf (j := 5) R R R R R (wgf (j := 5) R R R R R (wgf (j := 5) R R R R R (wlq (pit R R) R (wln (wqm () trivial (yc R (yc R (sub_b R (by rw [h1]; rfl) yn))) so2)))))))))
 exact wgn (j := 5) R R R (wlq (pof fo_40_1 R) R (wgn (j := 5) R R R (wlq (v := (sl v0a)) (plx tk_38 pk1 R R) R (wgn (j := 5) R R R (wlq (pln (rga r0) el_38 R) R (wgn (j := 5) R R R (wlq (pof fo_40_1 R) R (wgn (j := 5) R R R (wlq (v := (sl v1a)) (plx tk_38 pz R R) R (wgn (j := 5) R R R (wlq (pln (rga r1) el_38 R) R (wgn (j := 5) R R R (wlq (po_neq R R) R (wlq (pif R R) R (wln (wqm () trivial (yc R (yc R (sub_b R (by rw [h1]; rfl) yn))) so2))))))))))))))))
 intro _ _
 refine wqt (wcO t0 R (fun h2 t0 => ?_) fun h2 t0 => ?_)
 refine wcr (asg R R (wnt (wct (wqr ?_))))
 obtain rfl := oi t0
 exact wq1 R R fun w hw => ⟨R, hw.weak zn⟩
 refine wck (wqt (wcs (wcr (wlq (pof fo_40_1 R) R (wlq (v := (sl v0a)) (plx tk_38 pk1 R R) R (wlq (pln (rga r0) el_38 R) R (mv R R (wnt (gdO t0 fun g1 t0 => (sqO t0 fun y1 l1 t0 => (wj (J := Unit) (X := Unit) (fun z => y1 = .inl z) (fun _ _ => []) (fun _ _ => []) ?_ ?_)))))))))))
 refine wcb (wcf (X := Unit) l1 (fun k1 s1 x1l => [(2, ptr b1 0), (3, ptr b2 0), (22, iv ((a_b.Cells.length : Nat) : Int)), (23, iv ((k1 : Nat) : Int))]) (fun k1 s1 x1l => [box b2 [iv a_d.Size, (sl v1a)], box b1 [iv a_b.Size, (sl v0a)]]) () (su4 R R R R) so2 fun k1 s1 x1l hN1 l1 => ?_)
 by_cases hk1 : k1 < a_b.Cells.length
 refine fos l1 hk1 fun _ t1 l1 => ?_
 unfold impl_SameBlock_L1 at t1
 have c1 : (decide (((k1 : Nat) : Int) < ((a_b.Cells.length : Nat) : Int))) = true := ddt (by omega)
 refine wcr (wlq (pls R R) R (wnt (wcs (wft R c1 (wck (wqt (wcs (wcb (wcr (mv R R (asg R R (wnt (wcs (wcd [box b2 [iv a_d.Size, (sl v1a)], box b1 [iv a_b.Size, (sl v0a)]] 11 mixed (aq 0 R (pof fo_40_1 R) so2 R (aq (v := (sl v0a)) 1 R (plx tk_38 pk1 R R) so2 R (aq 2 R (pom R) so2 R (aq 3 R (po_ixn (k := k1) (rga r0) el_38 R R hk1) so2 R (aq (v := .agg #[iv ((gx a_b.Cells k1).Split), iv ((gx a_b.Cells k1).A), iv ((gx a_b.Cells k1).B)]) 4 R (po_ldfs (rga r0) tk_58 R hk1 R R R) so2 R (aq 5 R (pof fo_40_1 R) so2 R (aq (v := (sl v1a)) 6 R (plx tk_38 pz R R) so2 R (aq 7 R (pom R) so2 R (gdO t1 fun g2 t1 => (aq 8 R (po_ixn (k := k1) (rga r1) el_38 R R g2) so2 R (aq (v := .agg #[iv ((gx a_d.Cells k1).Split), iv ((gx a_d.Cells k1).A), iv ((gx a_d.Cells k1).B)]) 9 R (po_ldfs (rga r1) tk_58 R g2 R R R) so2 R (aq 10 R (po_neq_struct (ps := [(gx a_b.Cells k1).Split, (gx a_b.Cells k1).A, (gx a_b.Cells k1).B]) (qs := [(gx a_d.Cells k1).Split, (gx a_d.Cells k1).A, (gx a_d.Cells k1).B]) sq_58 R R R R) so2 R (ae (wqt (wcO t1 R (fun h3 t1 => ?_) fun h3 t1 => ?_)))))))))))))))))))))))))))))
 refine wcr (asg R R (wnt (wct (wbr (wqr (wqr (wbr (wqr (wqr ?_)))))))))
 replace t0 := lpR t0 l1 t1
 obtain rfl := oi t0
 exact wq1 R R fun w hw => ⟨R, hw.weak zn⟩
 refine wck (wqb (wqt (wcg (wlq (po_inc R R (by omega)) R ?_))))
 exact mv R R (wln (wq_rnd hk1 (stpN l1 t1) () (su4 R R R R) so2))
 have c1 : (decide (((k1 : Nat) : Int) < ((a_b.Cells.length : Nat) : Int))) = false := ddf (by omega)
 have en1 := foe l1 hk1
 exact wcr (wlq (pls R R) R (wnt (wcs (wff R c1 (wcx (wqe (wqe (wbx (wjm _ () en1 yn zn)))))))))
 intro e1 _ hp
 replace t0 := sqE (j := e1) t0 hp
 refine wqt (wcr (asg R R (wnt (wct ?_))))
 obtain rfl := oi t0
 exact wq1 R R fun w hw => ⟨R, hw.weak zn⟩

theorem c_laws_FnSummaries (w : World) (ht : Tb w) (a_code : List UInt8) (v0a : Hd) (r0 : rdF w (dm w []) (sl v0a) a_code) {r : Bool} (t0 : laws_FnSummaries a_code = some r) : Calls Tryz.prog 3 #[(sl v0a)] w fun e w' => e = .returned (.bool r) ∧ SH w [] [] w' := by
 refine cwc (args := [_]) Tryz.func3 R Tryz.ntmps3 R ?_
 unfold laws_FnSummaries at t0
 refine wcr (asg R R (wnt (wcs (wcr (mv R R (bdO t0 fun v1 hv1 t0 => (wlc (cz0 fa_4 R fun w hw => c_laws_big w a_code v0a (ra r0 hw) hv1) R fun _ => (wnt (wcO t0 R (fun h1 t0 => ?_) fun h1 t0 => ?_)))))))))
 refine wcr (asg R R (wnt (wct (wqr ?_))))
 obtain rfl := oi t0
 exact wq1 R R fun w hw => ⟨R, hw.weak zn⟩
 refine wck (wqt (wcr (mv R R (bdO t0 fun v2 hv2 t0 => (wlc (co_c5 fa_5 R fun w hw => c_spec_DrawActs w a_code v0a (ra r0 hw) hv2) R fun x1 => (mv R R (wlq (pex R R) R (wlq (pex R R) R (wle (eal (cs := [(sl hn), (sl hn), (sl hn), (sl hn), iv 0, iv 0]) za_29) R fun b1 => (wls (sbx (cs' := [(sl x1.1), (sl x1.2.1), (sl x1.2.2.1), (sl x1.2.2.2.2.1), iv v2.1.Round, iv v2.1.Year]) tk_29 pz R R R R R R R) (asg R R (wnt (wcr (wlq (v := .agg #[(sl x1.1), (sl x1.2.1), (sl x1.2.2.1), (sl x1.2.2.2.2.1), iv v2.1.Round, iv v2.1.Year]) (plb tk_29 pz R R R) R (bdO t0 fun v3 hv3 t0 => (wlc (cz1 fa_6 R fun w hw => c_impl_FormatGuild w (hw.tab ht) v2.1 x1.1 (Rg.on (rgo pk1) hw) x1.2.1 (Rg.on (rgo pk2) hw) x1.2.2.1 x1.2.2.2.1 (Rg.on (rgo pk3) hw) x1.2.2.2.2.1 (Rg.on (rgo pk4) hw) hv3) R fun x2 => (asg R R (wnt (wcr (wlq (pof fo_29_2 R) R (wlq (v := (sl x1.2.2.1)) (plx tk_26 pk1 R R) R (wlq (pln (rgo pk4) el_26 R) R (asg R R (wnt (wcs (wcr (mv R R (wlq (pln (rgo pz) el_33 R) R (mv R R (wlq (po_add R R) R (wlq (po_neq R R) R (wnt (wcO t0 R (fun h2 t0 => ?_) fun h2 t0 => ?_)))))))))))))))))))))))))))))))))
 refine wcr (asg R R (wnt (wct (wqr ?_))))
 obtain rfl := oi t0
 exact wq1 R R fun w hw => ⟨R, hw.weak zn⟩
 refine wck (wqt (wcr (asg R R (wnt (wcs (wcr (asg R R (wnt (gdO t0 fun g1 t0 => (lpO_inv t0 fun y1 l1 t0 => (wj (J := Str) (X := Unit) (fun z => y1 = z) (fun z _ => [(0, (sl v0a)), (3, ptr b1 0), (5, (sl x2)), (6, iv ((v2.1.Entries.length : Nat) : Int)), (7, bs z)]) (fun _ _ => [ownF (sl x2) v3, box b1 [(sl x1.1), (sl x1.2.1), (sl x1.2.2.1), (sl x1.2.2.2.2.1), iv v2.1.Round, iv v2.1.Year], ownF (sl x1.1) v2.1.Members, ownF (sl x1.2.1) v2.1.Stock, own (sl x1.2.2.1) x1.2.2.2.1 v2.1.Entries, ownF (sl x1.2.2.2.2.1) v2.1.Books]) ?_ ?_)))))))))))
 refine wcb (wcf (X := Unit) l1 (fun k1 s1 x1l => [(0, (sl v0a)), (3, ptr b1 0), (5, (sl x2)), (6, iv ((v2.1.Entries.length : Nat) : Int)), (7, bs s1), (8, iv ((k1 : Nat) : Int))]) (fun k1 s1 x1l => [ownF (sl x2) v3, box b1 [(sl x1.1), (sl x1.2.1), (sl x1.2.2.1), (sl x1.2.2.2.2.1), iv v2.1.Round, iv v2.1.Year], ownF (sl x1.1) v2.1.Members, ownF (sl x1.2.1) v2.1.Stock, own (sl x1.2.2.1) x1.2.2.2.1 v2.1.Entries, ownF (sl x1.2.2.2.2.1) v2.1.Books]) () (su6 R R R R R R) so6 fun k1 s1 x1l hN1 l1 => ?_)
 by_cases hk1 : k1 < v2.1.Members.length
 refine fos l1 hk1 fun _ t1 l1 => ?_
 unfold laws_FnSummaries_L1 at t1
 have c1 : (decide (((k1 : Nat) : Int) < ((v2.1.Members.length : Nat) : Int))) = true := ddt (by omega)
 refine wcs (wcr (mv R R (wlq (pof fo_29_0 R) R (wlq (v := (sl x1.1)) (plx tk_24 pk1 R R) R (wlq (pln (rgo pk2) el_24 R) R (wlq (pls R R) R (wnt (wft R c1 (wck (wqt (wcs (wcb (wcg (mv R R (gdO t1 fun g2 t1 => (wlq (po_sadd R R g2) R (wlq (pof fo_29_0 R) R (wlq (v := (sl x1.1)) (plx tk_24 pk1 R R) R (mv R R (wlq (po_ixn (k := k1) (rgo pk2) el_24 R R hk1) R (wlq (po_sfldr (rgo pk2) hk1 fo_37_0 R) R (wlq (v := iv ((gx v2.1.Members k1).Number)) (po_ldf (rgo pk2) tk_3 R hk1 R) R (bdO t1 fun v4 hv4 t1 => (wlc (cz0 fa_7 R fun w hw => c_impl_FormatInt_b w (hw.tab ht) ((gx v2.1.Members k1).Number) hv4) R fun _ => (gdO t1 fun g3 t1 => (wlq (po_sadd R R g3) R (asg R R (wln (wqb (wqt (wcg (mv R R (wlq (po_inc R R (by omega)) R ?_)))))))))))))))))))))))))))))))))
 exact asg R R (wln (wq_rnd hk1 (stpN l1 t1) () (su6 R R R R R R) so6))
 have c1 : (decide (((k1 : Nat) : Int) < ((v2.1.Members.length : Nat) : Int))) = false := ddf (by omega)
 have en1 := foe l1 hk1
 exact wcs (wcr (mv R R (wlq (pof fo_29_0 R) R (wlq (v := (sl x1.1)) (plx tk_24 pk1 R R) R (wlq (pln (rgo pk2) el_24 R) R (wlq (pls R R) R (wnt (wff R c1 (wcx (wqe (wqe (wbx (wjm _ () (Sum.inl.inj en1) (su5 R R R R R) so6)))))))))))))
 intro e1 _ hp
 obtain rfl : e1 = y1 := hp.symm
 refine wqt (wcr (asg R R (wnt (wcs (wcr (asg R R (wnt (gdO t0 fun g4 t0 => (lpO_inv t0 fun y1 l1 t0 => (wj (J := Str) (X := Unit) (fun z => y1 = z) (fun z _ => [(0, (sl v0a)), (3, ptr b1 0), (5, (sl x2)), (6, iv ((v2.1.Entries.length : Nat) : Int)), (7, bs e1), (9, bs z)]) (fun _ _ => [ownF (sl x2) v3, box b1 [(sl x1.1), (sl x1.2.1), (sl x1.2.2.1), (sl x1.2.2.2.2.1), iv v2.1.Round, iv v2.1.Year], ownF (sl x1.1) v2.1.Members, ownF (sl x1.2.1) v2.1.Stock, own (sl x1.2.2.1) x1.2.2.2.1 v2.1.Entries, ownF (sl x1.2.2.2.2.1) v2.1.Books]) ?_ ?_))))))))))
 refine wcb (wcf (X := Unit) l1 (fun k2 s2 x2l => [(0, (sl v0a)), (3, ptr b1 0), (5, (sl x2)), (6, iv ((v2.1.Entries.length : Nat) : Int)), (7, bs e1), (9, bs s2), (10, iv ((k2 : Nat) : Int))]) (fun k2 s2 x2l => [ownF (sl x2) v3, box b1 [(sl x1.1), (sl x1.2.1), (sl x1.2.2.1), (sl x1.2.2.2.2.1), iv v2.1.Round, iv v2.1.Year], ownF (sl x1.1) v2.1.Members, ownF (sl x1.2.1) v2.1.Stock, own (sl x1.2.2.1) x1.2.2.2.1 v2.1.Entries, ownF (sl x1.2.2.2.2.1) v2.1.Books]) () (su7 R R R R R R R) so6 fun k2 s2 x2l hN2 l1 => ?_)
 by_cases hk2 : k2 < v2.1.Stock.length
 refine fos l1 hk2 fun _ t1 l1 => ?_
 unfold laws_FnSummaries_L2 at t1
 have c2 : (decide (((k2 : Nat) : Int) < ((v2.1.Stock.length : Nat) : Int))) = true := ddt (by omega)
 refine wcs (wcr (mv R R (wlq (pof fo_29_1 R) R (wlq (v := (sl x1.2.1)) (plx tk_25 pk1 R R) R (wlq (pln (rgo pk3) el_25 R) R (wlq (pls R R) R (wnt (wft R c2 (wck (wqt (wcs (wcb (wcg (mv R R (gdO t1 fun g5 t1 => (wlq (po_sadd R R g5) R (wlq (pof fo_29_1 R) R (wlq (v := (sl x1.2.1)) (plx tk_25 pk1 R R) R (mv R R (wlq (po_ixn (k := k2) (rgo pk3) el_25 R R hk2) R (wlq (v := iv (gx v2.1.Stock k2)) (po_ldf (rgo pk3) tk_3 R hk2 R) R (bdO t1 fun v5 hv5 t1 => (wlc (cz0 fa_7 R fun w hw => c_impl_FormatInt_b w (hw.tab ht) (gx v2.1.Stock k2) hv5) R fun _ => (gdO t1 fun g6 t1 => (wlq (po_sadd R R g6) R (asg R R (wln (wqb (wqt (wcg (mv R R (wlq (po_inc R R (by omega)) R ?_))))))))))))))))))))))))))))))))
 exact asg R R (wln (wq_rnd hk2 (stpN l1 t1) () (su7 R R R R R R R) so6))
 have c2 : (decide (((k2 : Nat) : Int) < ((v2.1.Stock.length : Nat) : Int))) = false := ddf (by omega)
 have en2 := foe l1 hk2
 exact wcs (wcr (mv R R (wlq (pof fo_29_1 R) R (wlq (v := (sl x1.2.1)) (plx tk_25 pk1 R R) R (wlq (pln (rgo pk3) el_25 R) R (wlq (pls R R) R (wnt (wff R c2 (wcx (wqe (wqe (wbx (wjm _ () (Sum.inl.inj en2) (su6 R R R R R R) so6)))))))))))))
 intro e2 _ hp
 obtain rfl : e2 = y1 := hp.symm
 refine wqt (wcs (wcr (asg R R (wnt (gdO t0 fun g7 t0 => (sqO t0 fun y1 l1 t0 => (wj (J := Unit) (X := Unit) (fun z => y1 = .inl z) (fun _ _ => [(0, (sl v0a)), (3, ptr b1 0), (5, (sl x2)), (6, iv ((v2.1.Entries.length : Nat) : Int)), (7, bs e1), (9, bs e2)]) (fun _ _ => [ownF (sl x2) v3, box b1 [(sl x1.1), (sl x1.2.1), (sl x1.2.2.1), (sl x1.2.2.2.2.1), iv v2.1.Round, iv v2.1.Year], ownF (sl x1.1) v2.1.Members, ownF (sl x1.2.1) v2.1.Stock, own (sl x1.2.2.1) x1.2.2.2.1 v2.1.Entries, ownF (sl x1.2.2.2.2.1) v2.1.Books]) ?_ ?_)))))))
 refine wcb (wcf (X := Unit) l1 (fun k3 s3 x3l => [(0, (sl v0a)), (3, ptr b1 0), (5, (sl x2)), (6, iv ((v2.1.Entries.length : Nat) : Int)), (7, bs e1), (9, bs e2), (11, iv ((k3 : Nat) : Int))]) (fun k3 s3 x3l => [ownF (sl x2) v3, box b1 [(sl x1.1), (sl x1.2.1), (sl x1.2.2.1), (sl x1.2.2.2.2.1), iv v2.1.Round, iv v2.1.Year], ownF (sl x1.1) v2.1.Members, ownF (sl x1.2.1) v2.1.Stock, own (sl x1.2.2.1) x1.2.2.2.1 v2.1.Entries, ownF (sl x1.2.2.2.2.1) v2.1.Books]) () (su7 R R R R R R R) so6 fun k3 s3 x3l hN3 l1 => ?_)
 by_cases hk3 : k3 < v2.1.Entries.length
 refine fos l1 hk3 fun _ t1 l1 => ?_
 unfold laws_FnSummaries_L3 at t1
 have c3 : (decide (((k3 : Nat) : Int) < ((v2.1.Entries.length : Nat) : Int))) = true := ddt (by omega)
 refine wcs (wcr (mv R R (mv R R (wlq (pls R R) R (wnt (wft R c3 (wck (wqt (wcs (wcb (wcr (wlq (pof fo_29_2 R) R (wlq (v := (sl x1.2.2.1)) (plx tk_26 pk1 R R) R (mv R R (wlq (po_ixn (k := k3) (rgo pk4) el_26 R R hk3) R (wl_elem (rgo pk4) hk3 ?_))))))))))))))))
 rintro ⟨_, _, he1⟩
 obtain ⟨w1, hc1, _⟩ := rd_GEntry.1 he1
 refine wlq (v := .agg #[iv ((gx v2.1.Entries k3).Owner), iv ((gx v2.1.Entries k3).Day), iv (((gx v2.1.Entries k3).Block).Size), (sl w1)]) (po_ldns (rgo pk4) tk_42 R hc1 R R R) R (wle (eal (cs := [iv 0, iv 0, iv 0, (sl hn)]) za_42) R fun b2 => (wls (sbx (cs' := [iv ((gx v2.1.Entries k3).Owner), iv ((gx v2.1.Entries k3).Day), iv (((gx v2.1.Entries k3).Block).Size), (sl w1)]) tk_42 pz R R R R R R R) (wnt (wcs (wcd [box b2 [iv ((gx v2.1.Entries k3).Owner), iv ((gx v2.1.Entries k3).Day), iv (((gx v2.1.Entries k3).Block).Size), (sl w1)], ownF (sl x2) v3, box b1 [(sl x1.1), (sl x1.2.1), (sl x1.2.2.1), (sl x1.2.2.2.2.1), iv v2.1.Round, iv v2.1.Year], ownF (sl x1.1) v2.1.Members, ownF (sl x1.2.1) v2.1.Stock, own (sl x1.2.2.1) x1.2.2.2.1 v2.1.Entries, ownF (sl x1.2.2.2.2.1) v2.1.Books] 19 mixed (aq 0 R (pom R) so7 R (aq 1 R (pom R) so7 R (aq 2 R (po_add R R) so7 R (gdO t1 fun g8 t1 => (aq 3 R (po_ixr (rgo pk1) el_33 R R g8.1 g8.2) so7 R (aq (v := bs (gx v3 (((wr (((k3 : Nat) : Int) + 2))).toNat))) 4 R (po_ldf (rgo pk1) tk_9 R (ix_lt g8) R) so7 R (aq 5 R (pof fo_42_0 R) so7 R (aq (v := iv ((gx v2.1.Entries k3).Owner)) 6 R (plx tk_3 pz R R) so7 R (aq 9 R (pof fo_42_1 R) so7 R (aq (v := iv ((gx v2.1.Entries k3).Day)) 10 R (plx tk_3 pz R R) so7 R (aq 14 R (pof fo_42_2 R) so7 R (aq (v := .agg #[iv (((gx v2.1.Entries k3).Block).Size), (sl w1)]) 15 R (plb tk_40 pz R R R) so7 R (a1 7 (bdO t1 fun v6 hv6 t1 => (wsc R (cz0 fa_7 R fun w hw => c_impl_FormatInt_b w (hw.tab ht) ((gx v2.1.Entries k3).Owner) hv6) (fun _ => (zt so7)) R fun _ => (gdO t1 fun g9 t1 => (aq 8 R (po_sadd R R g9) so7 R (a1 11 (bdO t1 fun v7 hv7 t1 => (wsc R (cz0 fa_7 R fun w hw => c_impl_FormatInt_b w (hw.tab ht) ((gx v2.1.Entries k3).Day) hv7) (fun _ => (zt so7)) R fun _ => (gdO t1 fun g10 t1 => (aq 12 R (po_sadd R R g10) so7 R (gdO t1 fun g11 t1 => (aq 13 R (po_sadd R R g11) so7 R (a1 16 (bdO t1 fun v8 hv8 t1 => (wsc R (cz0 fa_8 R fun w hw => c_impl_BlockText w ((gx v2.1.Entries k3).Block) w1 (Rg.on (er_GEntry_0 hc1 (rgo pk5) hk3) hw) hv8) (fun _ => (zt so7)) R fun _ => (gdO t1 fun g12 t1 => (aq 17 R (po_sadd R R g12) so7 R (aq 18 R (po_sneq R R) so7 R (ae (wqt (wcO t1 R (fun h3 t1 => ?_) fun h3 t1 => ?_))))))))))))))))))))))))))))))))))))))
 refine wcr (asg R R (wnt (wct (wbr (wqr (wqr (wbr (wqr (wqr ?_)))))))))
 replace t0 := lpR t0 l1 t1
 obtain rfl := oi t0
 exact wq1 R R fun w hw => ⟨R, hw.weak zn⟩
 refine wck (wqb (wqt (wcg (mv R R (wlq (po_inc R R (by omega)) R ?_)))))
 exact asg R R (wln (wq_rnd hk3 (stpN l1 t1) () (su7 R R R R R R R) (zc pk1 (zc pk1 (zc pk1 (zc pk1 (zc pk1 (zc pk1 zn))))))))
 have c3 : (decide (((k3 : Nat) : Int) < ((v2.1.Entries.length : Nat) : Int))) = false := ddf (by omega)
 have en3 := foe l1 hk3
 exact wcs (wcr (mv R R (mv R R (wlq (pls R R) R (wnt (wff R c3 (wcx (wqe (wqe (wbx (wjm _ () en3 (su6 R R R R R R) so6)))))))))))
 intro e3 _ hp
 replace t0 := sqE (j := e3) t0 hp
 refine wqt (wcr (mv R R (bdO t0 fun v9 hv9 t0 => (wlc (cz0 fa_10 R fun w hw => c_laws_at w a_code v0a (ra r0 hw) 0 hv9) R fun _ => (wlq (po_rem R R (by decide)) R ?_)))))
 refine bdO t0 fun v10 hv10 t0 => wlc (cz1 fa_9 R fun w hw => c_impl_SampleBlock w (v9.tmod 10) hv10) R fun x6 => wle (eal (cs := [iv 0, (sl hn)]) za_40) R fun b3 => wls (sbx (cs' := [iv v10.Size, (sl x6)]) tk_40 pz R R R R R R R) (wnt (wcs (bdO t0 fun y1 t1 t0 => (wj (J := Bool) (X := Unit) (fun z => y1 = z) (fun z _ => [(2, .bool z)]) (fun _ _ => []) ?_ ?_))))
 refine wcd [box b3 [iv v10.Size, (sl x6)], ownF (sl x6) v10.Cells, ownF (sl x2) v3, box b1 [(sl x1.1), (sl x1.2.1), (sl x1.2.2.1), (sl x1.2.2.2.2.1), iv v2.1.Round, iv v2.1.Year], ownF (sl x1.1) v2.1.Members, ownF (sl x1.2.1) v2.1.Stock, own (sl x1.2.2.1) x1.2.2.2.1 v2.1.Entries, ownF (sl x1.2.2.2.2.1) v2.1.Books] 51 mixed (aq 0 R (pom R) so8 R (gdO t1 fun g13 t1 => (aq 1 R (po_ixn (k := 0) (rgo pk2) el_33 R R g13) so8 R (aq (v := bs (gx v3 0)) 2 R (po_ldf (rgo pk2) tk_9 R g13 R) so8 R (aq 3 R (pom R) so8 R (aq 4 R (po_seql R R) so8 R (aq 5 R (pom R) so8 R (waO_ (t := 102) t1 R (fun h4 t1 => ?_) fun h4 t1 => ?_))))))))
 refine an 6 5 R R R R (pom R) so8 R (gdO t1 fun g14 t1 => (an 7 5 R R R R (po_ixn (k := 1) (rgo pk2) el_33 R R g14) so8 R (an (v := bs (gx v3 1)) 8 5 R R R R (po_ldf (rgo pk2) tk_9 R g14 R) so8 R (an 9 5 R R R R (pom R) so8 R (an 10 5 R R R R (po_seql R R) so8 R (aq 11 R (pit R R) so8 R (aq 12 R (pom R) so8 R (waO_ (t := 109) t1 R (fun h5 t1 => ?_) fun h5 t1 => ?_))))))))
 refine an 13 12 R R R R (pom R) so8 R (an 14 12 R R R R (pom R) so8 R (an 15 12 R R R R (po_add R R) so8 R (gdO t1 fun g15 t1 => (an 16 12 R R R R (po_ixr (rgo pk2) el_33 R R g15.1 g15.2) so8 R (an (v := bs (gx v3 (((wr (((v2.1.Entries.length : Nat) : Int) + 2))).toNat))) 17 12 R R R R (po_ldf (rgo pk2) tk_9 R (ix_lt g15) R) so8 R (an 18 12 R R R R (pof fo_29_4 R) so8 R (an (v := iv v2.1.Round) 19 12 R R R R (plx tk_3 pk3 R R) so8 R (an (v := .agg #[(sl x1.1), (sl x1.2.1), (sl x1.2.2.1), (sl x1.2.2.2.2.1), iv v2.1.Round, iv v2.1.Year]) 23 12 R R R R (plb tk_29 pk3 R R R) so8 R (a1 20 (bdO t1 fun v11 hv11 t1 => (ws_call_on (j := 12) R R R R (cz0 fa_7 R fun w hw => c_impl_FormatInt_b w (hw.tab ht) v2.1.Round hv11) (fun _ => (zt so8)) R fun _ => (gdO t1 fun g16 t1 => (an 21 12 R R R R (po_sadd R R g16) so8 R (gdO t1 fun g17 t1 => (an 22 12 R R R R (po_sadd R R g17) so8 R (a1 24 (bdO t1 fun v12 hv12 t1 => (ws_call_on (j := 12) R R R R (cz0 fa_11 R fun w hw => c_impl_SwapRounds w v2.1 x1.1 (Rg.on (rgo pk4) hw) x1.2.1 (Rg.on (rgo pk5) hw) x1.2.2.1 x1.2.2.2.1 (Rg.on (rgo pk6) hw) x1.2.2.2.2.1 (Rg.on (rgo pk7) hw) hv12) (fun _ => (zt so8)) R fun _ => (a1 25 (bdO t1 fun v13 hv13 t1 => (ws_call_on (j := 12) R R R R (cz0 fa_7 R fun w hw => c_impl_FormatInt_b w (hw.tab ht) v12 hv13) (fun _ => (zt so8)) R fun _ => (gdO t1 fun g18 t1 => (an 26 12 R R R R (po_sadd R R g18) so8 R (an 27 12 R R R R (po_seql R R) so8 R (aq 28 R (pit R R) so8 R (aq 29 R (pom R) so8 R (waO_ (t := 126) t1 R (fun h6 t1 => ?_) fun h6 t1 => ?_)))))))))))))))))))))))))))
 refine an 30 29 R R R R (pom R) so8 R (an 31 29 R R R R (pom R) so8 R (an 32 29 R R R R (po_add R R) so8 R (gdO t1 fun g19 t1 => (an 33 29 R R R R (po_ixr (rgo pk2) el_33 R R g19.1 g19.2) so8 R (an (v := bs (gx v3 (((wr (((v2.1.Entries.length : Nat) : Int) + 3))).toNat))) 34 29 R R R R (po_ldf (rgo pk2) tk_9 R (ix_lt g19) R) so8 R (an 35 29 R R R R (pof fo_29_5 R) so8 R (an (v := iv v2.1.Year) 36 29 R R R R (plx tk_3 pk3 R R) so8 R (a1 37 (bdO t1 fun v14 hv14 t1 => (ws_call_on (j := 29) R R R R (cz0 fa_7 R fun w hw => c_impl_FormatInt_b w (hw.tab ht) v2.1.Year hv14) (fun _ => (zt so8)) R fun _ => (gdO t1 fun g20 t1 => (an 38 29 R R R R (po_sadd R R g20) so8 R (an 39 29 R R R R (po_seql R R) so8 R (aq 40 R (pit R R) so8 R (aq 41 R (pom R) so8 R (waO_ (t := 138) t1 R (fun h7 t1 => ?_) fun h7 t1 => ?_))))))))))))))))
 refine an (v := .agg #[iv v10.Size, (sl x6)]) 42 41 R R R R (plb tk_40 pz R R R) so8 R (a1 43 (bdO t1 fun v15 hv15 t1 => (ws_call_on (j := 41) R R R R (cz0 fa_12 R fun w hw => c_spec_BlockOk w v10 x6 (Rg.on (rgo pk1) hw) hv15) (fun _ => (zt so8)) R fun _ => (aq 44 R (pit R R) so8 R (aq 45 R (pom R) so8 R (waO_ (t := 142) t1 R (fun h8 t1 => ?_) fun h8 t1 => ?_))))))
 exact a1 46 (bdO t1 fun v16 hv16 t1 => (ws_call_on (j := 45) R R R R (cz1 fa_9 R fun w hw => c_impl_SampleBlock w 0 hv16) (fun _ => (zt (zc pk1 (zc pk1 (zc pk1 (zc pk1 (zc pk1 (zc pk1 (zc pk1 (zc pk1 zn)))))))))) R fun x8 => (a1 47 (bdO t1 fun v17 hv17 t1 => (ws_call_on (j := 45) R R R R (cz1 fa_14 R fun w hw => c_spec_StarBlock w hv17) (fun _ => (zt (zc pk2 (zc pk2 (zc pk2 (zc pk2 (zc pk2 (zc pk2 (zc pk2 (zc pk2 zn)))))))))) R fun x9 => (a1 48 (bdO t1 fun v18 hv18 t1 => (ws_call_on (j := 45) R R R R (cz0 fa_13 R fun w hw => c_impl_SameBlock w v16 x8 (Rg.on (rgo pk1) hw) v17 x9 (Rg.on (rgo pz) hw) hv18) (fun _ => (zt (zc pk2 (zc pk2 (zc pk2 (zc pk2 (zc pk2 (zc pk2 (zc pk2 (zc pk2 zn)))))))))) R fun _ => (aq 49 R (pit R R) (zc pk2 (zc pk2 (zc pk2 (zc pk2 (zc pk2 (zc pk2 (zc pk2 (zc pk2 zn)))))))) R (aq 50 R (po_assign R) (zc pk2 (zc pk2 (zc pk2 (zc pk2 (zc pk2 (zc pk2 (zc pk2 (zc pk2 zn)))))))) R (ae (wjm _ () (mtE t1) (su1 R) zn))))))))))))
 exact af 46 45 R R R R R so8 R (af 47 45 R R R R R so8 R (af 48 45 R R R R R so8 R (aq 49 R (pif R R) so8 R (aq 50 R (po_assign R) so8 R (ae (wjm _ () (mtE t1) (su1 R) zn))))))
 exact af 42 41 R R R R R so8 R (af 43 41 R R R R R so8 R (aq 44 R (pif R R) so8 R (aq 45 R (pom R) so8 R (af 46 45 R R R R R so8 R (af 47 45 R R R R R so8 R (af 48 45 R R R R R so8 R (aq 49 R (pif R R) so8 R (aq 50 R (po_assign R) so8 R (ae (wjm _ () (mtE t1) (su1 R) zn))))))))))
 exact af 30 29 R R R R R so8 R (af 31 29 R R R R R so8 R (af 32 29 R R R R R so8 R (af 33 29 R R R R R so8 R (af 34 29 R R R R R so8 R (af 35 29 R R R R R so8 R (af 36 29 R R R R R so8 R (af 37 29 R R R R R so8 R (af 38 29 R R R R R so8 R (af 39 29 R R R R R so8 R (aq 40 R (pif R R) so8 R (aq 41 R (pom R) so8 R (af 42 41 R R R R R so8 R (af 43 41 R R R R R so8 R (aq 44 R (pif R R) so8 R (aq 45 R (pom R) so8 R (af 46 45 R R R R R so8 R (af 47 45 R R R R R so8 R (af 48 45 R R R R R so8 R (aq 49 R (pif R R) so8 R (aq 50 R (po_assign R) so8 R (ae (wjm _ () (mtE t1) (su1 R) zn))))))))))))))))))))))
 exact af 13 12 R R R R R so8 R (af 14 12 R R R R R so8 R (af 15 12 R R R R R so8 R (af 16 12 R R R R R so8 R (af 17 12 R R R R R so8 R (af 18 12 R R R R R so8 R (af 19 12 R R R R R so8 R (af 20 12 R R R R R so8 R (af 21 12 R R R R R so8 R (af 22 12 R R R R R so8 R (af 23 12 R R R R R so8 R (af 24 12 R R R R R so8 R (af 25 12 R R R R R so8 R (af 26 12 R R R R R so8 R (af 27 12 R R R R R so8 R (aq 28 R (pif R R) so8 R (aq 29 R (pom R) so8 R (af 30 29 R R R R R so8 R (af 31 29 R R R R R so8 R (af 32 29 R R R R R so8 R (af 33 29 R R R R R so8 R (af 34 29 R R R R R so8 R (af 35 29 R R R R R so8 R (af 36 29 R R R R R so8 R (af 37 29 R R R R R so8 R (af 38 29 R R R R R so8 R (af 39 29 R R R R R so8 R (aq 40 R (pif R R) so8 R (aq 41 R (pom R) so8 R (af 42 41 R R R R R so8 R (af 43 41 R R R R R so8 R (aq 44 R (pif R R) so8 R (aq 45 R (pom R) so8 R (af 46 45 R R R R R so8 R (af 47 45 R R R R R so8 R (af 48 45 R R R R R so8 R (aq 49 R (pif R R) so8 R (aq 50 R (po_assign R) so8 R (ae (wjm _ () (mtE t1) (su1 R) zn)))))))))))))))))))))))))))))))))))))))
 refine af 6 5 R R R R R so8 R (af 7 5 R R R R R so8 R (af 8 5 R R R R R so8 R (af 9 5 R R R R R so8 R (af 10 5 R R R R R so8 R (aq 11 R (pif R R) so8 R (aq 12 R (pom R) so8 R (af 13 12 R R R R R so8 R (af 14 12 R R R R R so8 R (af 15 12 R R R R R so8 R (af 16 12 R R R R R so8 R (af 17 12 R R R R R so8 R (af 18 12 R R R R R so8 R (af 19 12 R R R R R so8 R (af 20 12 R R R R R so8 R (af 21 12 R R R R R so8 R (af 22 12 R R R R R so8 R (af 23 12 R R R R R so8 R (af 24 12 R R R R R so8 R (af 25 12 R R R R R so8 R (af 26 12 R R R R R so8 R (af 27 12 R R R R R so8 R (aq 28 R (pif R R) so8 R (aq 29 R (pom R) so8 R (af 30 29 R R R R R so8 R (af 31 29 R R R R R so8 R (af 32 29 R R R R R so8 R (af 33 29 R R R R R so8 R (af 34 29 R R R R R so8 R (af 35 29 R R R R R so8 R (af 36 29 R R R R R so8 R (af 37 29 R R R R R so8 R (af 38 29 R R R R R so8 R (af 39 29 R R R R R so8 R (aq 40 R (pif R R) so8 R (aq 41 R (pom R) so8 R (af 42 41 R R R R R so8 R (af 43 41 R R R R R so8 R (aq 44 R (pif R R) so8 R (aq 45 R (pom R) so8 R ?_)))))))))))))))))))))))))))))))))))))))
 exact af 46 45 R R R R R so8 R (af 47 45 R R R R R so8 R (af 48 45 R R R R R so8 R (aq 49 R (pif R R) so8 R (aq 50 R (po_assign R) so8 R (ae (wjm _ () (mtE t1) (su1 R) zn))))))
 intro j1 _ hp
 obtain rfl : j1 = y1 := hp.symm
 refine wqt (wct ?_)
 obtain rfl := oi t0
 exact wq1 R R fun w hw => ⟨R, hw.weak zn⟩

end Go.Proofs.YtkahnmhkfmjomafGreatDoor
