/-
 Each Go function computes its Lean function (part 4).
-/
import Derived.Test.YtjfjbgihojiijabGreatDoorWalks3
namespace Go.Proofs.YtjfjbgihojiijabGreatDoor
open Go Go.RowKit Go.Proofs
set_option maxRecDepth 100000

theorem ZiA (w : World) (a_e : GEntry) (v0a : Hd) (r0 : rdF w (dm w []) (sl v0a) a_e.Block.Cells) {r : Bool} (t0 : Zce a_e = some r) : Calls Tryz.prog 45 #[.agg #[.int .i64 a_e.Owner, .int .i64 a_e.Day, .int .i64 a_e.Block.Size, (sl v0a)]] w fun e w' => e = .returned (.bool r) ∧ SH w [] [] w' := by
 refine cwc (args := [_]) Tryz.func45 R Tryz.ntmps45 R ?_
 unfold Zce at t0
 refine wcr (wle (Zh R R) R fun b1 => (asg R R (wnt (wcs (bdO t0 fun y1 t1 t0 => (wj (J := Bool) (X := Unit) (fun z => y1 = z) (fun z _ => [(2, .bool z)]) (fun _ _ => []) ?_ ?_))))))
 refine wcg (wlq (pof Zd7 R) R (wlq (v := iv a_e.Owner) (plx tk_3 pz R R) R (bdO t1 fun v1 hv1 t1 => (wlc (cz0 ZaI R fun w hw => Zo w a_e.Owner 0 99 hv1) R fun _ => (mv R R (wlo (t := 6) t1 R (fun h1 t1 => ?_) fun h1 t1 => ?_))))))
 refine wgn (j := 3) R R R (wlq (pof ZcD R) R (wgn (j := 3) R R R (wlq (v := iv a_e.Day) (plx tk_3 pz R R) R (bdO t1 fun v2 hv2 t1 => (wgn (j := 3) R R R (wlc (cz0 ZaI R fun w hw => Zo w a_e.Day 0 9999 hv2) R (fun _ => (wlq (pit R R) R (mv R R (wlo (t := 11) t1 R (fun h2 t1 => ?_) fun h2 t1 => ?_))))))))))
 exact wgn (j := 8) R R R (wlq (pof Za4 R) R (wgn (j := 8) R R R (wlq (v := .agg #[iv a_e.Block.Size, (sl v0a)]) (plb Zb pz R R R) R (bdO t1 fun v3 hv3 t1 => (wgn (j := 8) R R R (wlc (cz0 Zd2 R fun w hw => ZZ w a_e.Block v0a (ra r0 hw) hv3) R (fun _ => (wlq (pit R R) R (asg R R (wln (wjm _ () (mtE t1) (su1 R) zn)))))))))))
 exact wgf (j := 8) R R R R R (wgf (j := 8) R R R R R (wgf (j := 8) R R R R R (wlq (pif R R) R (asg R R (wln (wjm _ () (mtE t1) (su1 R) zn))))))
 exact wgf (j := 3) R R R R R (wgf (j := 3) R R R R R (wgf (j := 3) R R R R R (wlq (pif R R) R (mv R R (wgf (j := 8) R R R R R (wgf (j := 8) R R R R R (wgf (j := 8) R R R R R (wlq (pif R R) R (asg R R (wln (wjm _ () (mtE t1) (su1 R) zn)))))))))))
 intro j1 _ hp
 obtain rfl : j1 = y1 := hp.symm
 refine wqt (wct ?_)
 obtain rfl := oi t0
 exact wq1 R R fun w hw => ⟨R, hw.weak zn⟩

theorem ZpD (w : World) (a_list : List GMember) (v0a : Hd) (r0 : rdF w (dm w []) (sl v0a) a_list) (a_number : Int) {r : Bool} (t0 : ZfM a_list a_number = some r) : Calls Tryz.prog 46 #[(sl v0a), .int .i64 a_number] w fun e w' => e = .returned (.bool r) ∧ SH w [] [] w' := by
 refine cwc (args := [_, _]) Tryz.func46 R Tryz.ntmps46 R ?_
 unfold ZfM at t0
 refine wcr (asg R R (wnt (wcs (wcr (mv R R (wlq (pln (rga r0) Zan R) R (mv R R (wnt (gdO t0 fun g1 t0 => (sqO t0 fun y1 l1 t0 => (wj (J := Unit) (X := Unit) (fun z => y1 = .inl z) (fun _ _ => []) (fun _ _ => []) ?_ ?_)))))))))))
 refine wcb (wcf (X := Unit) l1 (fun k1 s1 x1l => [(1, iv a_number), (7, (sl v0a)), (8, iv ((a_list.length : Nat) : Int)), (9, iv ((k1 : Nat) : Int))]) (fun k1 s1 x1l => []) () (su4 R R R R) zn fun k1 s1 x1l hN1 l1 => ?_)
 by_cases hk1 : k1 < a_list.length
 refine fos l1 hk1 fun _ t1 l1 => ?_
 unfold Ze8 at t1
 have c1 : (decide (((k1 : Nat) : Int) < ((a_list.length : Nat) : Int))) = true := ddt (by omega)
 refine wcr (wlq (pls R R) R (wnt (wcs (wft R c1 (wck (wqt (wcs (wcb (wcr (wlq (Zv (k := k1) (rga r0) Zan R R hk1) R (wlq (v := .agg #[iv ((gx a_list k1).Number), iv ((gx a_list k1).Since), iv ((gx a_list k1).Paid)]) (ZaB (rga r0) ZiP R hk1 R R R) R (wle (eal (cs := [iv 0, iv 0, iv 0]) ZoQ) R fun b1 => (wls (sbx (cs' := [iv ((gx a_list k1).Number), iv ((gx a_list k1).Since), iv ((gx a_list k1).Paid)]) ZiP pz R R R R R R R) (wnt (wcr (wlq (pof Zch R) R (wlq (v := iv ((gx a_list k1).Number)) (plx tk_3 pz R R) R (mv R R (wlq (pol R R) R (wnt (wcO t1 R (fun h1 t1 => ?_) fun h1 t1 => ?_)))))))))))))))))))))
 refine wcr (asg R R (wnt (wct (wbr (wqr (wqr (wbr (wqr (wqr ?_)))))))))
 replace t0 := lpR t0 l1 t1
 obtain rfl := oi t0
 exact wq1 R R fun w hw => ⟨R, hw.weak zn⟩
 refine wck (wqb (wqt (wcg (wlq (Zj R R (by omega)) R ?_))))
 exact mv R R (wln (Zl hk1 (stpN l1 t1) () (su4 R R R R) zn))
 have c1 : (decide (((k1 : Nat) : Int) < ((a_list.length : Nat) : Int))) = false := ddf (by omega)
 have en1 := foe l1 hk1
 exact wcr (wlq (pls R R) R (wnt (wcs (wff R c1 (wcx (wqe (wqe (wbx (wjm _ () en1 yn zn)))))))))
 intro e1 _ hp
 replace t0 := sqE (j := e1) t0 hp
 refine wqt (wcr (asg R R (wnt (wct ?_))))
 obtain rfl := oi t0
 exact wq1 R R fun w hw => ⟨R, hw.weak zn⟩

theorem Zmb (w : World) (a_list : List GMember) (v0a : Hd) (r0 : rdF w (dm w []) (sl v0a) a_list) (a_year : Int) {r : List Int} (t0 : Zdb a_list a_year = some r) : Calls Tryz.prog 61 #[(sl v0a), .int .i64 a_year] w fun e w' => ∃ x : Hd, e = .returned ((sl x)) ∧ SH w [] [ownF (sl x) r] w' := by
 refine cwc (args := [_, _]) Tryz.func61 R Tryz.ntmps61 R ?_
 unfold Zdb at t0
 refine wcr (asg R R (wnt (wcs (wcr (mv R R (bdO t0 fun v1 hv1 t0 => (wlc (cz0 ZmZ R fun w hw => ZcF w a_list v0a (ra r0 hw) hv1) R fun _ => (wlq (Zd R) R (wnt (wcO t0 R (fun h1 t0 => ?_) fun h1 t0 => ?_))))))))))
 refine wcr (asg R R (wnt (wct (wqr ?_))))
 obtain rfl := oi t0
 exact wq1 R R fun w hw => ⟨hn, R, hw.weak (zc ZB zn)⟩
 refine wck (wqt (wcr (wle (ebs R Zao) R fun b1 => (asg R R (wnt (wcs (wcr (mv R R (wlq (pln (rga r0) Zan R) R (mv R R (wnt (gdO t0 fun g1 t0 => (Zr t0 fun y1 l1 t0 => (wj (J := List Int) (X := Hd) (fun z => y1 = z) (fun _ x => [(5, (sl x))]) (fun z x => [ownF (sl x) z]) ?_ ?_))))))))))))))
 refine wcb (wcf (X := Hd) l1 (fun k1 s1 x1l => [(1, iv a_year), (5, (sl x1l)), (12, (sl v0a)), (13, iv ((a_list.length : Nat) : Int)), (14, iv ((k1 : Nat) : Int))]) (fun k1 s1 x1l => [ownF (sl x1l) s1]) (⟨some ⟨b1, 0, none⟩, 0, 0⟩ : Hd) (su5 R R R R R) (zc (pbo pz (n := 0) (xs := ([] : List Int)) R R (by unfold maxLen; omega)) zn) fun k1 s1 x1l hN1 l1 => ?_)
 by_cases hk1 : k1 < a_list.length
 refine fos l1 hk1 fun _ t1 l1 => ?_
 unfold Zdm at t1
 have c1 : (decide (((k1 : Nat) : Int) < ((a_list.length : Nat) : Int))) = true := ddt (by omega)
 refine wcr (wlq (pls R R) R (wnt (wcs (wft R c1 (wck (wqt (wcs (wcb (wcr (wlq (Zv (k := k1) (rga r0) Zan R R hk1) R (wlq (v := .agg #[iv ((gx a_list k1).Number), iv ((gx a_list k1).Since), iv ((gx a_list k1).Paid)]) (ZaB (rga r0) ZiP R hk1 R R R) R (wle (eal (cs := [iv 0, iv 0, iv 0]) ZoQ) R fun b2 => (wls (sbx (cs' := [iv ((gx a_list k1).Number), iv ((gx a_list k1).Since), iv ((gx a_list k1).Paid)]) ZiP pz R R R R R R R) (wnt (wcr (wlq (pof Zg6 R) R (wlq (v := iv ((gx a_list k1).Paid)) (plx tk_3 pz R R) R (mv R R (wlq (Ze1 R R) R (wnt (bdO t1 fun y2 t2 t1 => (wj (J := List Int) (X := Hd) (fun z => y2 = z) (fun _ x => [(1, iv a_year), (5, (sl x)), (12, (sl v0a)), (13, iv ((a_list.length : Nat) : Int)), (14, iv ((k1 : Nat) : Int))]) (fun z x => [ownF (sl x) z]) ?_ ?_))))))))))))))))))))))
 refine wcO t2 R (fun h2 t2 => ?_) fun h2 t2 => ?_
 refine wcg (mv R R (wlq (pof Zch R) R (wlq (v := iv ((gx a_list k1).Number)) (plx tk_3 pz R R) R (wle (ebs R (ZaZ ((gx a_list k1).Number))) R fun b3 => (gdO t2 fun g2 t2 => (wle (Zg (xs := s1) (ys := ([(gx a_list k1).Number] : List Int)) Zb1 pk2 R R (Zi fun _ g => Rg.on (rgo (pbo pz (n := 1) (xs := ([(gx a_list k1).Number] : List Int)) R R (by unfold maxLen; omega))) g) g2) R fun x3 => ?_))))))
 exact asg R R (wln (wjm _ x3 (mtE t2) (su5 R R R R R) so1))
 exact wck (wjm _ x1l (mtE t2) (su5 R R R R R) (zc pk1 zn))
 intro j1 x2 hp
 obtain rfl : j1 = y2 := hp.symm
 refine wqb (wqt (wcg (wlq (Zj R R (by omega)) R ?_)))
 exact mv R R (wln (Zl hk1 (stpN l1 t1) x2 (su5 R R R R R) so1))
 have c1 : (decide (((k1 : Nat) : Int) < ((a_list.length : Nat) : Int))) = false := ddf (by omega)
 have en1 := foe l1 hk1
 exact wcr (wlq (pls R R) R (wnt (wcs (wff R c1 (wcx (wqe (wqe (wbx (wjm _ x1l (Sum.inl.inj en1) (su1 R) so1)))))))))
 intro e1 x1 hp
 obtain rfl : e1 = y1 := hp.symm
 refine wqt (wcr (mv R R (asg R R (wnt (wct ?_)))))
 obtain rfl := oi t0
 exact wq1 R R fun w hw => ⟨x1, R, hw.weak so1⟩

theorem Zci (w : World) (a_g : GGuild) (v0a : Hd) (r0 : rdF w (dm w []) (sl v0a) a_g.Members) (v1a : Hd) (_r1 : rdF w (dm w []) (sl v1a) a_g.Stock) (v2a : Hd) (u2a : List Value) (_r2 : RdL w (dm w []) (sl v2a) u2a a_g.Entries) (v3a : Hd) (_r3 : rdF w (dm w []) (sl v3a) a_g.Books) {r : Int} (t0 : Zb8 a_g = some r) : Calls Tryz.prog 28 #[.agg #[(sl v0a), (sl v1a), (sl v2a), (sl v3a), .int .i64 a_g.Round, .int .i64 a_g.Year]] w fun e w' => e = .returned (.int .i64 r) ∧ SH w [] [] w' := by
 refine cwc (args := [_]) Tryz.func28 R Tryz.ntmps28 R ?_
 unfold Zb8 at t0
 refine wcr (wle (Zh R R) R fun b1 => (asg R R (wnt (wcs (wcr (wlq (pof Zcl R) R (wlq (v := (sl v0a)) (plx Zet pz R R) R (wlq (pof ZeK R) R (wlq (v := iv a_g.Year) (plx tk_3 pz R R) R (bdO t0 fun v1 hv1 t0 => (wlc (cz1 ZxI R fun w hw => Zmb w a_g.Members v0a (ra r0 hw) a_g.Year hv1) R fun x1 => (wlq (pln (rgo pz) ZH R) R (asg R R (wnt (wcr (mv R R (bdO t0 fun v2 hv2 t0 => (wlc (cz0 ZaI R fun w hw => Zo w ((v1.length : Nat) : Int) 2 10 hv2) R fun _ => (wnt (wcO t0 R (fun h1 t0 => ?_) fun h1 t0 => ?_))))))))))))))))))))
 refine wcr (mv R R (wlq (Zad R R) R (asg R R (wnt (wct (wqr ?_))))))
 obtain rfl := oi t0
 exact wq1 R R fun w hw => ⟨R, hw.weak zn⟩
 refine wck (wqt (wcr (asg R R (wnt (wct ?_)))))
 obtain rfl := oi t0
 exact wq1 R R fun w hw => ⟨R, hw.weak zn⟩

theorem ZbS (w : World) (a_g : GGuild) (v0a : Hd) (r0 : rdF w (dm w []) (sl v0a) a_g.Members) (v1a : Hd) (r1 : rdF w (dm w []) (sl v1a) a_g.Stock) (v2a : Hd) (u2a : List Value) (r2 : RdL w (dm w []) (sl v2a) u2a a_g.Entries) (v3a : Hd) (r3 : rdF w (dm w []) (sl v3a) a_g.Books) {r : Bool} (t0 : Zba a_g = some r) : Calls Tryz.prog 21 #[.agg #[(sl v0a), (sl v1a), (sl v2a), (sl v3a), .int .i64 a_g.Round, .int .i64 a_g.Year]] w fun e w' => e = .returned (.bool r) ∧ SH w [] [] w' := by
 refine cwc (args := [_]) Tryz.func21 R Tryz.ntmps21 R ?_
 unfold Zba at t0
 refine wcr (wle (Zh R R) R fun b1 => (asg R R (wnt (wcs (wcs (bdO t0 fun y1 t1 t0 => (wj (J := Bool) (X := Unit) (fun z => y1 = z) (fun z _ => [(1, ptr b1 0), (26, .bool z)]) (fun _ _ => [box b1 [(sl v0a), (sl v1a), (sl v2a), (sl v3a), iv a_g.Round, iv a_g.Year]]) ?_ ?_)))))))
 refine wcg (wlq (pof Zcl R) R (wlq (v := (sl v0a)) (plx Zet pz R R) R (bdO t1 fun v1 hv1 t1 => (wlc (cz0 ZmZ R fun w hw => ZcF w a_g.Members v0a (ra r0 hw) hv1) R fun _ => (wlq (Zd R) R (mv R R (wlo (t := 9) t1 R (fun h1 t1 => ?_) fun h1 t1 => ?_)))))))
 exact wgf (j := 4) R R R R R (wgf (j := 4) R R R R R (wgf (j := 4) R R R R R (wgf (j := 4) R R R R R (wlq (pit R R) R (mv R R (wgf (j := 10) R R R R R (wgf (j := 10) R R R R R (wgf (j := 10) R R R R R (wgf (j := 10) R R R R R (wlq (pit R R) R (mv R R (wgf (j := 16) R R R R R (wgf (j := 16) R R R R R (wgf (j := 16) R R R R R (wgf (j := 16) R R R R R (wlq (pit R R) R (wln (wjm _ () (mtE t1) (su2 R R) so1))))))))))))))))))
 refine wgn (j := 4) R R R (wlq (pof ZeP R) R (wgn (j := 4) R R R (wlq (v := (sl v1a)) (plx Zeu pz R R) R (bdO t1 fun v2 hv2 t1 => (wgn (j := 4) R R R (wlc (cz0 Zq6 R fun w hw => Zg4 w a_g.Stock v1a (ra r1 hw) hv2) R (fun _ => (wgn (j := 4) R R R (wlq (Zd R) R (wlq (pif R R) R (mv R R (wlo (t := 15) t1 R (fun h2 t1 => ?_) fun h2 t1 => ?_))))))))))))
 exact wgf (j := 10) R R R R R (wgf (j := 10) R R R R R (wgf (j := 10) R R R R R (wgf (j := 10) R R R R R (wlq (pit R R) R (mv R R (wgf (j := 16) R R R R R (wgf (j := 16) R R R R R (wgf (j := 16) R R R R R (wgf (j := 16) R R R R R (wlq (pit R R) R (wln (wjm _ () (mtE t1) (su2 R R) so1))))))))))))
 refine wgn (j := 10) R R R (wlq (pof ZdB R) R (wgn (j := 10) R R R (wlq (v := (sl v3a)) (plx Zg5 pz R R) R (bdO t1 fun v3 hv3 t1 => (wgn (j := 10) R R R (wlc (cz0 Zta R fun w hw => Zh5 w a_g.Books v3a (ra r3 hw) hv3) R (fun _ => (wgn (j := 10) R R R (wlq (Zd R) R (wlq (pif R R) R (mv R R (wlo (t := 21) t1 R (fun h3 t1 => ?_) fun h3 t1 => ?_))))))))))))
 exact wgf (j := 16) R R R R R (wgf (j := 16) R R R R R (wgf (j := 16) R R R R R (wgf (j := 16) R R R R R (wlq (pit R R) R (wln (wjm _ () (mtE t1) (su2 R R) so1))))))
 exact wgn (j := 16) R R R (wlq (pof Zaj R) R (wgn (j := 16) R R R (wlq (v := (sl v2a)) (plx Za5 pz R R) R (wgn (j := 16) R R R (wlq (pln (rga r2) Zbv R) R (wgn (j := 16) R R R (wlq (ZaD R R) R (wlq (pif R R) R (wln (wjm _ () (mtE t1) (su2 R R) so1))))))))))
 intro j1 _ hp
 obtain rfl : j1 = y1 := hp.symm
 refine wqt (wcO t0 R (fun h4 t0 => ?_) fun h4 t0 => ?_)
 refine wcr (asg R R (wnt (wct (wqr ?_))))
 obtain rfl := oi t0
 exact wq1 R R fun w hw => ⟨R, hw.weak zn⟩
 refine wck (wqt (wcs (wcr (wlq (pof Zaj R) R (wlq (v := (sl v2a)) (plx Za5 pz R R) R (wlq (pln (rga r2) Zbv R) R (mv R R (wnt (gdO t0 fun g1 t0 => (sqO t0 fun y1 l1 t0 => (wj (J := Unit) (X := Unit) (fun z => y1 = .inl z) (fun _ _ => [(1, ptr b1 0)]) (fun _ _ => [box b1 [(sl v0a), (sl v1a), (sl v2a), (sl v3a), iv a_g.Round, iv a_g.Year]]) ?_ ?_)))))))))))
 refine wcb (wcf (X := Unit) l1 (fun k1 s1 x1l => [(1, ptr b1 0), (28, (sl v2a)), (29, iv ((a_g.Entries.length : Nat) : Int)), (30, iv ((k1 : Nat) : Int))]) (fun k1 s1 x1l => [box b1 [(sl v0a), (sl v1a), (sl v2a), (sl v3a), iv a_g.Round, iv a_g.Year]]) () (su4 R R R R) so1 fun k1 s1 x1l hN1 l1 => ?_)
 by_cases hk1 : k1 < a_g.Entries.length
 refine fos l1 hk1 fun _ t1 l1 => ?_
 unfold Zgg at t1
 have c1 : (decide (((k1 : Nat) : Int) < ((a_g.Entries.length : Nat) : Int))) = true := ddt (by omega)
 refine wcr (wlq (pls R R) R (wnt (wcs (wft R c1 (wck (wqt (wcs (wcb (wcr (mv R R (wlq (Zv (k := k1) (rga r2) Zbv R R hk1) R (Zf3 (rga r2) hk1 ?_))))))))))))
 rintro ⟨_, _, he1⟩
 obtain ⟨w1, hc1, _⟩ := ZbW.1 he1
 refine wlq (v := .agg #[iv ((gx a_g.Entries k1).Owner), iv ((gx a_g.Entries k1).Day), iv (((gx a_g.Entries k1).Block).Size), (sl w1)]) (Zdy (rga r2) Za7 R hc1 R R R) R (wle (eal (cs := [iv 0, iv 0, iv 0, (sl hn)]) ZgP) R fun b2 => (asg R R (wls (sbx (cs' := [iv ((gx a_g.Entries k1).Owner), iv ((gx a_g.Entries k1).Day), iv (((gx a_g.Entries k1).Block).Size), (sl w1)]) Za7 pz R R R R R R R) (wnt (wcs (bdO t1 fun y2 t2 t1 => (wj (J := Bool) (X := Unit) (fun z => y2 = z) (fun z _ => [(1, ptr b1 0), (28, (sl v2a)), (29, iv ((a_g.Entries.length : Nat) : Int)), (30, iv ((k1 : Nat) : Int)), (61, .bool z)]) (fun _ _ => [box b1 [(sl v0a), (sl v1a), (sl v2a), (sl v3a), iv a_g.Round, iv a_g.Year]]) ?_ ?_)))))))
 refine wcd [box b2 [iv ((gx a_g.Entries k1).Owner), iv ((gx a_g.Entries k1).Day), iv (((gx a_g.Entries k1).Block).Size), (sl w1)], box b1 [(sl v0a), (sl v1a), (sl v2a), (sl v3a), iv a_g.Round, iv a_g.Year]] 27 mixed (aq (v := .agg #[iv ((gx a_g.Entries k1).Owner), iv ((gx a_g.Entries k1).Day), iv (((gx a_g.Entries k1).Block).Size), (sl w1)]) 0 R (plb Za7 pz R R R) so2 R (a1 1 (bdO t2 fun v4 hv4 t2 => (wsc R (cz0 Ztu R fun w hw => ZiA w (GEntry.mk ((gx a_g.Entries k1).Owner) ((gx a_g.Entries k1).Day) ((gx a_g.Entries k1).Block)) w1 (Rg.on (ZcN hc1 (rga r2) hk1) hw) hv4) (fun _ => (zt so2)) R fun _ => (aq 2 R (Zd R) so2 R (aq 3 R (pom R) so2 R (waO_ (t := 38) t2 R (fun h5 t2 => ?_) fun h5 t2 => ?_)))))))
 exact af 4 3 R R R R R so2 R (af 5 3 R R R R R so2 R (af 6 3 R R R R R so2 R (af 7 3 R R R R R so2 R (af 8 3 R R R R R so2 R (af 9 3 R R R R R so2 R (aq 10 R (pit R R) so2 R (aq 11 R (pom R) so2 R (af 12 11 R R R R R so2 R (af 13 11 R R R R R so2 R (af 14 11 R R R R R so2 R (au 15 14 R R R R so2 R (au 16 14 R R R R so2 R (au 17 14 R R R R so2 R (au 18 14 R R R R so2 R (au 19 14 R R R R so2 R (au 20 14 R R R R so2 R (au 21 14 R R R R so2 R (au 22 14 R R R R so2 R (au 23 14 R R R R so2 R (au 24 14 R R R R so2 R (af 25 11 R R R R R so2 R (aq 26 R (pit R R) so2 R (ae (wjm _ () (mtE t2) (su5 R R R R R) (zc pk1 zn)))))))))))))))))))))))))
 refine an 4 3 R R R R (pof Zcl R) so2 R (an (v := (sl v0a)) 5 3 R R R R (plx Zet pk1 R R) so2 R (an 6 3 R R R R (pof Zd7 R) so2 R (an (v := iv ((gx a_g.Entries k1).Owner)) 7 3 R R R R (plx tk_3 pz R R) so2 R (a1 8 (bdO t2 fun v5 hv5 t2 => (ZW (j := 3) R R R R (cz0 ZxX R fun w hw => ZpD w a_g.Members v0a (ra r0 hw) ((gx a_g.Entries k1).Owner) hv5) (fun _ => (zt so2)) R fun _ => (an 9 3 R R R R (Zd R) so2 R (aq 10 R (pif R R) so2 R (aq 11 R (pom R) so2 R (waO_ (t := 46) t2 R (fun h6 t2 => ?_) fun h6 t2 => ?_))))))))))
 exact af 12 11 R R R R R so2 R (af 13 11 R R R R R so2 R (af 14 11 R R R R R so2 R (au 15 14 R R R R so2 R (au 16 14 R R R R so2 R (au 17 14 R R R R so2 R (au 18 14 R R R R so2 R (au 19 14 R R R R so2 R (au 20 14 R R R R so2 R (au 21 14 R R R R so2 R (au 22 14 R R R R so2 R (au 23 14 R R R R so2 R (au 24 14 R R R R so2 R (af 25 11 R R R R R so2 R (aq 26 R (pit R R) so2 R (ae (wjm _ () (mtE t2) (su5 R R R R R) (zc pk1 zn)))))))))))))))))
 refine an 12 11 R R R R (pom R) so2 R (an 13 11 R R R R (ZaD R R) so2 R (an 14 11 R R R R (pom R) so2 R (waO_ (t := 49) t2 R (fun h7 t2 => ?_) fun h7 t2 => ?_)))
 refine an 15 14 R R R R (pof ZcD R) so2 R (an (v := iv ((gx a_g.Entries k1).Day)) 16 14 R R R R (plx tk_3 pz R R) so2 R (an 17 14 R R R R (pof Zaj R) so2 R (an (v := (sl v2a)) 18 14 R R R R (plx Za5 pk1 R R) so2 R (an 19 14 R R R R (pom R) so2 R (an 20 14 R R R R (Zad R R) so2 R (gdO t2 fun g2 t2 => (an 21 14 R R R R (Z8 (rga r2) Zbv R R g2.1 g2.2) so2 R (an 22 14 R R R R (Zak (rga r2) (ZK g2) ZcD R) so2 R (Zju (rga r2) (ZK g2) ?_)))))))))
 rintro ⟨_, _, he2⟩
 obtain ⟨w2, hc2, _⟩ := ZbW.1 he2
 exact an (v := iv ((gx a_g.Entries (((wr (((k1 : Nat) : Int) - 1))).toNat)).Day)) 23 14 R R R R (ZkY (rga r2) tk_3 R hc2 R) so2 R (an 24 14 R R R R (pls R R) so2 R (an 25 11 R R R R (pit R R) so2 R (aq 26 R (pif R R) so2 R (ae (wjm _ () (mtE t2) (su5 R R R R R) (zc pk1 zn))))))
 exact af 15 14 R R R R R so2 R (af 16 14 R R R R R so2 R (af 17 14 R R R R R so2 R (af 18 14 R R R R R so2 R (af 19 14 R R R R R so2 R (af 20 14 R R R R R so2 R (af 21 14 R R R R R so2 R (af 22 14 R R R R R so2 R (af 23 14 R R R R R so2 R (af 24 14 R R R R R so2 R (an 25 11 R R R R (pif R R) so2 R (aq 26 R (pif R R) so2 R (ae (wjm _ () (mtE t2) (su5 R R R R R) (zc pk1 zn))))))))))))))
 intro j2 _ hp
 obtain rfl : j2 = y2 := hp.symm
 refine wqt (wcO t1 R (fun h8 t1 => ?_) fun h8 t1 => ?_)
 refine wcr (asg R R (wnt (wct (wbr (wqr (wqr (wbr (wqr (wqr ?_)))))))))
 replace t0 := lpR t0 l1 t1
 obtain rfl := oi t0
 exact wq1 R R fun w hw => ⟨R, hw.weak zn⟩
 refine wck (wqb (wqt (wcg (wlq (Zj R R (by omega)) R ?_))))
 exact mv R R (wln (Zl hk1 (stpN l1 t1) () (su4 R R R R) so1))
 have c1 : (decide (((k1 : Nat) : Int) < ((a_g.Entries.length : Nat) : Int))) = false := ddf (by omega)
 have en1 := foe l1 hk1
 exact wcr (wlq (pls R R) R (wnt (wcs (wff R c1 (wcx (wqe (wqe (wbx (wjm _ () en1 (su1 R) so1)))))))))
 intro e1 _ hp
 replace t0 := sqE (j := e1) t0 hp
 refine wqt (wcs (bdO t0 fun y1 t1 t0 => (wj (J := Bool) (X := Unit) (fun z => y1 = z) (fun z _ => [(2, .bool z)]) (fun _ _ => []) ?_ ?_)))
 refine wcd [box b1 [(sl v0a), (sl v1a), (sl v2a), (sl v3a), iv a_g.Round, iv a_g.Year]] 11 mixed (aq 0 R (pof ZeK R) so1 R (aq (v := iv a_g.Year) 1 R (plx tk_3 pz R R) so1 R (a1 2 (bdO t1 fun v6 hv6 t1 => (wsc R (cz0 ZaI R fun w hw => Zo w a_g.Year 1900 2999 hv6) (fun _ => (zt so1)) R fun _ => (aq 3 R (pom R) so1 R (waO_ (t := 66) t1 R (fun h9 t1 => ?_) fun h9 t1 => ?_)))))))
 exact an 4 3 R R R R (pof Zdz R) so1 R (an (v := iv a_g.Round) 5 3 R R R R (plx tk_3 pz R R) so1 R (an (v := .agg #[(sl v0a), (sl v1a), (sl v2a), (sl v3a), iv a_g.Round, iv a_g.Year]) 6 3 R R R R (plb Zc pz R R R) so1 R (a1 7 (bdO t1 fun v7 hv7 t1 => (ZW (j := 3) R R R R (cz0 Znc R fun w hw => Zci w a_g v0a (ra r0 hw) v1a (ra r1 hw) v2a u2a (ra r2 hw) v3a (ra r3 hw) hv7) (fun _ => (zt so1)) R fun _ => (a1 8 (bdO t1 fun v8 hv8 t1 => (ZW (j := 3) R R R R (cz0 ZaI R fun w hw => Zo w a_g.Round 0 v7 hv8) (fun _ => (zt so1)) R fun _ => (aq 9 R (pit R R) so1 R (aq 10 R (Zu R) so1 R (ae (wjm _ () (mtE t1) (su1 R) zn))))))))))))
 exact af 4 3 R R R R R so1 R (af 5 3 R R R R R so1 R (af 6 3 R R R R R so1 R (af 7 3 R R R R R so1 R (af 8 3 R R R R R so1 R (aq 9 R (pif R R) so1 R (aq 10 R (Zu R) so1 R (ae (wjm _ () (mtE t1) (su1 R) zn))))))))
 intro j3 _ hp
 obtain rfl : j3 = y1 := hp.symm
 refine wqt (wct ?_)
 obtain rfl := oi t0
 exact wq1 R R fun w hw => ⟨R, hw.weak zn⟩

theorem ZoT (w : World) (a_year : Int) {r : GGuild × Bool} (t0 : ZfT a_year = some r) : Calls Tryz.prog 23 #[.int .i64 a_year] w fun e w' => ∃ x : Hd × Hd × Hd × (List Value) × Hd, e = .returned (.tuple #[.agg #[(sl x.1), (sl x.2.1), (sl x.2.2.1), (sl x.2.2.2.2), .int .i64 r.1.Round, .int .i64 r.1.Year], .bool r.2]) ∧ SH w [] [ownF (sl x.1) r.1.Members, ownF (sl x.2.1) r.1.Stock, own (sl x.2.2.1) x.2.2.2.1 r.1.Entries, ownF (sl x.2.2.2.2) r.1.Books] w' := by
 refine cwc (args := [_]) Tryz.func23 R Tryz.ntmps23 R ?_
 unfold ZfT at t0
 refine wcr (wle (eal (cs := [(sl hn), (sl hn), (sl hn), (sl hn), iv 0, iv 0]) ZF) R fun b1 => (asg R R (wnt (wcr (wle (ebs (qs := [(0, iv 1000), (1, iv 1000), (2, iv 1000), (3, iv 1000), (4, iv 1000), (5, iv 1000)]) R (Zwc 1000 1000 1000 1000 1000 1000)) R fun b2 => (mv R R (wlq (Zk R (Zt0 (⟨some ⟨b2, 0, none⟩, 6, 6⟩ : Hd) a_year)) R (wle (eal (cs := [(sl hn), (sl hn), (sl hn), (sl hn), iv 0, iv 0]) ZF) R fun b3 => (wls (sbx (cs' := [(sl hn), (sl (⟨some ⟨b2, 0, none⟩, 6, 6⟩ : Hd)), (sl hn), (sl hn), iv 0, iv a_year]) Zc pz R R R R R R R) (wnt (wcs (wcr (wlq (v := .agg #[(sl hn), (sl (⟨some ⟨b2, 0, none⟩, 6, 6⟩ : Hd)), (sl hn), (sl hn), iv 0, iv a_year]) (plb Zc pz R R R) R (bdO t0 fun v1 hv1 t0 => (wlc (cz0 Zka R fun w hw => ZbS w (GGuild.mk ([] : List GMember) ([1000, 1000, 1000, 1000, 1000, 1000] : List Int) ([] : List GEntry) ([] : List GBooking) 0 a_year) hn (Rg.on ZjA hw) (⟨some ⟨b2, 0, none⟩, 6, 6⟩ : Hd) (Rg.on (rgo (pbo pk1 (n := 6) (xs := ([1000, 1000, 1000, 1000, 1000, 1000] : List Int)) R R (by unfold maxLen; omega))) hw) hn [] (Rg.on ZjA hw) hn (Rg.on ZjA hw) hv1) R fun _ => ?_)))))))))))))))
 refine wlq (Zd R) R (wnt (wcO t0 R (fun h1 t0 => ?_) fun h1 t0 => ?_))
 refine wcr (wlq (Zk R Zvp) R (wls (sbx (cs' := [(sl hn), (sl hn), (sl hn), (sl hn), iv 0, iv 0]) Zc pk2 R R R R R R R) (asg R R (wnt (wct (wqr ?_))))))
 obtain rfl := oi t0
 exact ZG R Zc R R pz R fun w hw => ⟨(hn, hn, hn, [], hn), R, hw.weak (zc ZB (zc ZB (zc ZB (zc ZB zn))))⟩
 refine wck (wqt (wcr (wlq (v := .agg #[(sl hn), (sl (⟨some ⟨b2, 0, none⟩, 6, 6⟩ : Hd)), (sl hn), (sl hn), iv 0, iv a_year]) (plb Zc pz R R R) R (wls (sbx (cs' := [(sl hn), (sl (⟨some ⟨b2, 0, none⟩, 6, 6⟩ : Hd)), (sl hn), (sl hn), iv 0, iv a_year]) Zc pk2 R R R R R R R) (asg R R (wnt (wct ?_)))))))
 obtain rfl := oi t0
 exact ZG R Zc R R pz R fun w hw => ⟨(hn, (⟨some ⟨b2, 0, none⟩, 6, 6⟩ : Hd), hn, [], hn), R, hw.weak (zc ZB (zc (pbo pk2 (n := 6) (xs := ([1000, 1000, 1000, 1000, 1000, 1000] : List Int)) R R (by unfold maxLen; omega)) (zc ZB (zc ZB zn))))⟩

theorem Zbq (w : World) (a_list : List GMember) (v0a : Hd) (r0 : rdF w (dm w []) (sl v0a) a_list) {r : List GMember} (t0 : Zbp a_list = some r) : Calls Tryz.prog 39 #[(sl v0a)] w fun e w' => ∃ x : Hd, e = .returned ((sl x)) ∧ SH w [] [ownF (sl x) r] w' := by
 refine cwc (args := [_]) Tryz.func39 R Tryz.ntmps39 R ?_
 unfold Zbp at t0
 refine wcr (asg R R (wnt (wcr (wle (ebs R Zc1) R fun b1 => (mv R R (gdO t0 fun g1 t0 => (wle (Zg (xs := ([] : List GMember)) (ys := a_list) ZdZ (pbo pz (n := 0) (xs := ([] : List GMember)) R R (by unfold maxLen; omega)) R R (Zi fun _ g => Rg.on (rga r0) g) g1) R fun x1 => ?_)))))))
 refine asg R R (wnt (wct ?_))
 obtain rfl := oi t0
 exact wq1 R R fun w hw => ⟨x1, R, hw.weak so1⟩

theorem ZfO (w : World) (a_list : List Int) (v0a : Hd) (r0 : rdF w (dm w []) (sl v0a) a_list) {r : List Int} (t0 : ZfW a_list = some r) : Calls Tryz.prog 40 #[(sl v0a)] w fun e w' => ∃ x : Hd, e = .returned ((sl x)) ∧ SH w [] [ownF (sl x) r] w' := by
 refine cwc (args := [_]) Tryz.func40 R Tryz.ntmps40 R ?_
 unfold ZfW at t0
 refine wcr (asg R R (wnt (wcr (wle (ebs R Zao) R fun b1 => (mv R R (gdO t0 fun g1 t0 => (wle (Zg (xs := ([] : List Int)) (ys := a_list) Zb1 (pbo pz (n := 0) (xs := ([] : List Int)) R R (by unfold maxLen; omega)) R R (Zi fun _ g => Rg.on (rga r0) g) g1) R fun x1 => ?_)))))))
 refine asg R R (wnt (wct ?_))
 obtain rfl := oi t0
 exact wq1 R R fun w hw => ⟨x1, R, hw.weak so1⟩

theorem Zbf (w : World) (a_b : GBlock) (v0a : Hd) (r0 : rdF w (dm w []) (sl v0a) a_b.Cells) {r : GBlock} (t0 : Zal a_b = some r) : Calls Tryz.prog 41 #[.agg #[.int .i64 a_b.Size, (sl v0a)]] w fun e w' => ∃ x : Hd, e = .returned (.agg #[.int .i64 r.Size, (sl x)]) ∧ SH w [] [ownF (sl x) r.Cells] w' := by
 refine cwc (args := [_]) Tryz.func41 R Tryz.ntmps41 R ?_
 unfold Zal at t0
 refine wcr (wle (Zh R R) R fun b1 => (wle (eal (cs := [iv 0, (sl hn)]) Zav) R fun b2 => (wnt (wcs (wcd [box b2 [iv 0, (sl hn)], box b1 [iv a_b.Size, (sl v0a)]] 7 mixed (aq 0 R (pof ZL R) so2 R (aq (v := iv a_b.Size) 1 R (plx tk_3 pk1 R R) so2 R (aq 3 R (pof Zx R) so2 R (aq (v := (sl v0a)) 4 R (plx ZR pk1 R R) so2 R (a1 2 (wse R (ebs R ZsZ) (fun _ => (zt (zc pk1 (zc pk1 zn)))) R fun b3 => (a1 5 (gdO t0 fun g1 t0 => (wse R (Zg (xs := ([] : List GCell)) (ys := a_b.Cells) Zlo (pbo pz (n := 0) (xs := ([] : List GCell)) R R (by unfold maxLen; omega)) R R (Zi fun _ g => Rg.on (rga r0) g) g1) (fun _ => (zt (zc pk1 (zc pk1 zn)))) R fun x1 => ?_))))))))))))))
 refine aq 6 R (Zk R (ZmK a_b.Size x1)) (zc pk1 (zc pk1 zn)) R (a1 7 (ZU R (sbx (cs' := [iv a_b.Size, (sl x1)]) Zb pk1 R R R R R R R) (Zaw (by kernel_rfl)) ?_))
 refine ae (wqt (wct ?_))
 obtain rfl := oi t0
 exact wqc R Zb R pz R fun w hw => ⟨x1, R, hw.weak (zc pk1 zn)⟩

theorem Z1 (w : World) (a_g : GGuild) (v0a : Hd) (r0 : rdF w (dm w []) (sl v0a) a_g.Members) (v1a : Hd) (r1 : rdF w (dm w []) (sl v1a) a_g.Stock) (v2a : Hd) (u2a : List Value) (r2 : RdL w (dm w []) (sl v2a) u2a a_g.Entries) (v3a : Hd) (r3 : rdF w (dm w []) (sl v3a) a_g.Books) {r : GGuild} (t0 : Z6 a_g = some r) : Calls Tryz.prog 20 #[.agg #[(sl v0a), (sl v1a), (sl v2a), (sl v3a), .int .i64 a_g.Round, .int .i64 a_g.Year]] w fun e w' => ∃ x : Hd × Hd × Hd × (List Value) × Hd, e = .returned (.agg #[(sl x.1), (sl x.2.1), (sl x.2.2.1), (sl x.2.2.2.2), .int .i64 r.Round, .int .i64 r.Year]) ∧ SH w [] [ownF (sl x.1) r.Members, ownF (sl x.2.1) r.Stock, own (sl x.2.2.1) x.2.2.2.1 r.Entries, ownF (sl x.2.2.2.2) r.Books] w' := by
 refine cwc (args := [_]) Tryz.func20 R Tryz.ntmps20 R ?_
 unfold Z6 at t0
 refine wcr (wle (Zh R R) R fun b1 => (wle (eal (cs := [(sl hn), (sl hn), (sl hn), (sl hn), iv 0, iv 0]) ZF) R fun b2 => (wnt (wcs (bdO t0 fun v1 hv1 t0 => (bdO t0 fun v2 hv2 t0 => (gdO t0 fun g1 t0 => (wcj (X := Nat × Hd × Hd × Hd) (fun _ => True) (fun z => [(1, ptr b1 0), (2, ptr b2 0), (3, ptr z.1 0)]) (fun z => [box z.1 [(sl z.2.1), (sl z.2.2.1), (sl hn), (sl z.2.2.2), iv a_g.Round, iv a_g.Year], ownF (sl z.2.2.2) (([] : List GBooking) ++ a_g.Books), ownF (sl z.2.2.1) v2, ownF (sl z.2.1) v1, box b2 [(sl hn), (sl hn), (sl hn), (sl hn), iv 0, iv 0], box b1 [(sl v0a), (sl v1a), (sl v2a), (sl v3a), iv a_g.Round, iv a_g.Year]]) ?_ ?_))))))))
 refine wcd [box b2 [(sl hn), (sl hn), (sl hn), (sl hn), iv 0, iv 0], box b1 [(sl v0a), (sl v1a), (sl v2a), (sl v3a), iv a_g.Round, iv a_g.Year]] 16 mixed (Zr3 [⟨7, #[true, true, false, true, true, false, false, true, true, false, true, true, true, true, false, false, false], Unit, fun _ => [(1, ptr b1 0), (2, ptr b2 0), (7, (sl v0a)), (10, (sl v1a)), (14, (sl v3a)), (17, iv a_g.Round), (19, iv a_g.Year)], fun _ => [box b2 [(sl hn), (sl hn), (sl hn), (sl hn), iv 0, iv 0], box b1 [(sl v0a), (sl v1a), (sl v2a), (sl v3a), iv a_g.Round, iv a_g.Year]]⟩, ⟨6, #[true, true, true, true, true, false, false, true, true, false, true, true, true, true, false, false, false], Hd, fun z => [(1, ptr b1 0), (2, ptr b2 0), (8, (sl z)), (10, (sl v1a)), (14, (sl v3a)), (17, iv a_g.Round), (19, iv a_g.Year)], fun z => [ownF (sl z) v1, box b2 [(sl hn), (sl hn), (sl hn), (sl hn), iv 0, iv 0], box b1 [(sl v0a), (sl v1a), (sl v2a), (sl v3a), iv a_g.Round, iv a_g.Year]]⟩, ⟨6, #[true, true, false, true, true, false, true, true, true, false, true, true, true, true, false, false, false], Nat, fun z => [(1, ptr b1 0), (2, ptr b2 0), (7, (sl v0a)), (10, (sl v1a)), (12, (sl (⟨some ⟨z, 0, none⟩, 0, 0⟩ : Hd))), (14, (sl v3a)), (17, iv a_g.Round), (19, iv a_g.Year)], fun z => [box z [], box b2 [(sl hn), (sl hn), (sl hn), (sl hn), iv 0, iv 0], box b1 [(sl v0a), (sl v1a), (sl v2a), (sl v3a), iv a_g.Round, iv a_g.Year]]⟩, ⟨6, #[true, true, false, true, true, false, false, true, true, false, true, true, true, true, false, true, false], Nat, fun z => [(1, ptr b1 0), (2, ptr b2 0), (3, ptr z 0), (7, (sl v0a)), (10, (sl v1a)), (14, (sl v3a)), (17, iv a_g.Round), (19, iv a_g.Year)], fun z => [box z [(sl hn), (sl hn), (sl hn), (sl hn), iv 0, iv 0], box b2 [(sl hn), (sl hn), (sl hn), (sl hn), iv 0, iv 0], box b1 [(sl v0a), (sl v1a), (sl v2a), (sl v3a), iv a_g.Round, iv a_g.Year]]⟩, ⟨5, #[true, true, true, true, true, true, false, true, true, false, true, true, true, true, false, false, false], Hd × Hd, fun z => [(1, ptr b1 0), (2, ptr b2 0), (8, (sl z.1)), (11, (sl z.2)), (14, (sl v3a)), (17, iv a_g.Round), (19, iv a_g.Year)], fun z => [ownF (sl z.2) v2, ownF (sl z.1) v1, box b2 [(sl hn), (sl hn), (sl hn), (sl hn), iv 0, iv 0], box b1 [(sl v0a), (sl v1a), (sl v2a), (sl v3a), iv a_g.Round, iv a_g.Year]]⟩, ⟨5, #[true, true, true, true, true, false, true, true, true, false, true, true, true, true, false, false, false], Hd × Nat, fun z => [(1, ptr b1 0), (2, ptr b2 0), (8, (sl z.1)), (10, (sl v1a)), (12, (sl (⟨some ⟨z.2, 0, none⟩, 0, 0⟩ : Hd))), (14, (sl v3a)), (17, iv a_g.Round), (19, iv a_g.Year)], fun z => [box z.2 [], ownF (sl z.1) v1, box b2 [(sl hn), (sl hn), (sl hn), (sl hn), iv 0, iv 0], box b1 [(sl v0a), (sl v1a), (sl v2a), (sl v3a), iv a_g.Round, iv a_g.Year]]⟩, ⟨5, #[true, true, true, true, true, false, false, true, true, false, true, true, true, true, false, true, false], Nat × Hd, fun z => [(1, ptr b1 0), (2, ptr b2 0), (3, ptr z.1 0), (8, (sl z.2)), (10, (sl v1a)), (14, (sl v3a)), (17, iv a_g.Round), (19, iv a_g.Year)], fun z => [box z.1 [(sl hn), (sl hn), (sl hn), (sl hn), iv 0, iv 0], ownF (sl z.2) v1, box b2 [(sl hn), (sl hn), (sl hn), (sl hn), iv 0, iv 0], box b1 [(sl v0a), (sl v1a), (sl v2a), (sl v3a), iv a_g.Round, iv a_g.Year]]⟩, ⟨5, #[true, true, false, true, true, false, true, true, true, false, true, true, true, true, false, true, false], Nat × Nat, fun z => [(1, ptr b1 0), (2, ptr b2 0), (3, ptr z.1 0), (7, (sl v0a)), (10, (sl v1a)), (12, (sl (⟨some ⟨z.2, 0, none⟩, 0, 0⟩ : Hd))), (14, (sl v3a)), (17, iv a_g.Round), (19, iv a_g.Year)], fun z => [box z.1 [(sl hn), (sl hn), (sl hn), (sl hn), iv 0, iv 0], box z.2 [], box b2 [(sl hn), (sl hn), (sl hn), (sl hn), iv 0, iv 0], box b1 [(sl v0a), (sl v1a), (sl v2a), (sl v3a), iv a_g.Round, iv a_g.Year]]⟩, ⟨4, #[true, true, true, true, true, true, true, true, true, false, true, true, true, true, false, false, false], Hd × Hd × Nat, fun z => [(1, ptr b1 0), (2, ptr b2 0), (8, (sl z.1)), (11, (sl z.2.1)), (12, (sl (⟨some ⟨z.2.2, 0, none⟩, 0, 0⟩ : Hd))), (14, (sl v3a)), (17, iv a_g.Round), (19, iv a_g.Year)], fun z => [box z.2.2 [], ownF (sl z.2.1) v2, ownF (sl z.1) v1, box b2 [(sl hn), (sl hn), (sl hn), (sl hn), iv 0, iv 0], box b1 [(sl v0a), (sl v1a), (sl v2a), (sl v3a), iv a_g.Round, iv a_g.Year]]⟩, ⟨4, #[true, true, true, true, true, true, false, true, true, false, true, true, true, true, false, true, false], Nat × Hd × Hd, fun z => [(1, ptr b1 0), (2, ptr b2 0), (3, ptr z.1 0), (8, (sl z.2.1)), (11, (sl z.2.2)), (14, (sl v3a)), (17, iv a_g.Round), (19, iv a_g.Year)], fun z => [box z.1 [(sl hn), (sl hn), (sl hn), (sl hn), iv 0, iv 0], ownF (sl z.2.2) v2, ownF (sl z.2.1) v1, box b2 [(sl hn), (sl hn), (sl hn), (sl hn), iv 0, iv 0], box b1 [(sl v0a), (sl v1a), (sl v2a), (sl v3a), iv a_g.Round, iv a_g.Year]]⟩, ⟨4, #[true, true, true, true, true, false, true, true, true, false, true, true, true, true, false, true, false], Nat × Hd × Nat, fun z => [(1, ptr b1 0), (2, ptr b2 0), (3, ptr z.1 0), (8, (sl z.2.1)), (10, (sl v1a)), (12, (sl (⟨some ⟨z.2.2, 0, none⟩, 0, 0⟩ : Hd))), (14, (sl v3a)), (17, iv a_g.Round), (19, iv a_g.Year)], fun z => [box z.1 [(sl hn), (sl hn), (sl hn), (sl hn), iv 0, iv 0], box z.2.2 [], ownF (sl z.2.1) v1, box b2 [(sl hn), (sl hn), (sl hn), (sl hn), iv 0, iv 0], box b1 [(sl v0a), (sl v1a), (sl v2a), (sl v3a), iv a_g.Round, iv a_g.Year]]⟩, ⟨2, #[true, true, true, true, true, true, true, true, true, true, true, true, true, true, true, false, false], Hd × Hd × Hd, fun z => [(1, ptr b1 0), (2, ptr b2 0), (20, .agg #[(sl z.1), (sl z.2.1), (sl hn), (sl z.2.2), iv a_g.Round, iv a_g.Year])], fun z => [ownF (sl z.2.2) (([] : List GBooking) ++ a_g.Books), ownF (sl z.2.1) v2, ownF (sl z.1) v1, box b2 [(sl hn), (sl hn), (sl hn), (sl hn), iv 0, iv 0], box b1 [(sl v0a), (sl v1a), (sl v2a), (sl v3a), iv a_g.Round, iv a_g.Year]]⟩, ⟨3, #[true, true, true, true, true, true, true, true, true, false, true, true, true, true, false, true, false], Nat × Hd × Hd × Nat, fun z => [(1, ptr b1 0), (2, ptr b2 0), (3, ptr z.1 0), (8, (sl z.2.1)), (11, (sl z.2.2.1)), (12, (sl (⟨some ⟨z.2.2.2, 0, none⟩, 0, 0⟩ : Hd))), (14, (sl v3a)), (17, iv a_g.Round), (19, iv a_g.Year)], fun z => [box z.1 [(sl hn), (sl hn), (sl hn), (sl hn), iv 0, iv 0], box z.2.2.2 [], ownF (sl z.2.2.1) v2, ownF (sl z.2.1) v1, box b2 [(sl hn), (sl hn), (sl hn), (sl hn), iv 0, iv 0], box b1 [(sl v0a), (sl v1a), (sl v2a), (sl v3a), iv a_g.Round, iv a_g.Year]]⟩, ⟨1, #[true, true, true, true, true, true, true, true, true, true, true, true, true, true, true, true, false], Nat × Hd × Hd × Hd, fun z => [(1, ptr b1 0), (2, ptr b2 0), (3, ptr z.1 0), (20, .agg #[(sl z.2.1), (sl z.2.2.1), (sl hn), (sl z.2.2.2), iv a_g.Round, iv a_g.Year])], fun z => [box z.1 [(sl hn), (sl hn), (sl hn), (sl hn), iv 0, iv 0], ownF (sl z.2.2.2) (([] : List GBooking) ++ a_g.Books), ownF (sl z.2.2.1) v2, ownF (sl z.2.1) v1, box b2 [(sl hn), (sl hn), (sl hn), (sl hn), iv 0, iv 0], box b1 [(sl v0a), (sl v1a), (sl v2a), (sl v3a), iv a_g.Round, iv a_g.Year]]⟩] ?_ fun H => ?_)
 refine List.forall_mem_cons.2 ⟨fun H => ?_, ?_⟩
 intro _
 dsimp only
 refine wa_3 (i := 2) (j := 6) (k := 15) (by kernel_rfl) ?_ ?_ ?_
 exact wsc R (cz1 Zlu R fun w hw => Zbq w a_g.Members v0a (ra r0 hw) hv1) (fun _ => (zt (zc pk1 (zc pk1 zn)))) R fun x2o => waj H 1 R (nl R) x2o R R (su7 R R R R R R R) so3
 exact wse R (ebs R ZaJ) (fun _ => (zt (zc pk1 (zc pk1 zn)))) R fun b6o => waj H 2 R (nl R) b6o R R (su8 R R R R R R R R) so3
 exact wse R (eal (cs := [(sl hn), (sl hn), (sl hn), (sl hn), iv 0, iv 0]) ZF) (fun _ => (zt (zc pk1 (zc pk1 zn)))) R fun b15o => waj H 3 R (nl R) b15o R R (su8 R R R R R R R R) so3
 refine List.forall_mem_cons.2 ⟨fun H => ?_, ?_⟩
 intro z
 dsimp only
 refine wa_3 (i := 5) (j := 6) (k := 15) (by kernel_rfl) ?_ ?_ ?_
 exact wsc R (cz1 Zpm R fun w hw => ZfO w a_g.Stock v1a (ra r1 hw) hv2) (fun _ => (zt (zc pk2 (zc pk2 zn)))) R fun x5o => waj H 4 R (nl R) (z, x5o) R R (su7 R R R R R R R) so4
 exact wse R (ebs R ZaJ) (fun _ => (zt (zc pk2 (zc pk2 zn)))) R fun b6o => waj H 5 R (nl R) (z, b6o) R R (su8 R R R R R R R R) so4
 exact wse R (eal (cs := [(sl hn), (sl hn), (sl hn), (sl hn), iv 0, iv 0]) ZF) (fun _ => (zt (zc pk2 (zc pk2 zn)))) R fun b15o => waj H 6 R (nl R) (b15o, z) R R (su8 R R R R R R R R) so4
 refine List.forall_mem_cons.2 ⟨fun H => ?_, ?_⟩
 intro z
 dsimp only
 refine wa_2 (i := 2) (j := 15) (by kernel_rfl) ?_ ?_
 exact wsc R (cz1 Zlu R fun w hw => Zbq w a_g.Members v0a (ra r0 hw) hv1) (fun _ => (zt (zc pk2 (zc pk2 zn)))) R fun x2o => waj H 5 R (nl R) (x2o, z) R R (su8 R R R R R R R R) (zc pk1 so3)
 exact wse R (eal (cs := [(sl hn), (sl hn), (sl hn), (sl hn), iv 0, iv 0]) ZF) (fun _ => (zt (zc pk2 (zc pk2 zn)))) R fun b15o => waj H 7 R (nl R) (b15o, z) R R (su9 R R R R R R R R R) so4
 refine List.forall_mem_cons.2 ⟨fun H => ?_, ?_⟩
 intro z
 dsimp only
 refine wa_2 (i := 2) (j := 6) (by kernel_rfl) ?_ ?_
 exact wsc R (cz1 Zlu R fun w hw => Zbq w a_g.Members v0a (ra r0 hw) hv1) (fun _ => (zt (zc pk2 (zc pk2 zn)))) R fun x2o => waj H 6 R (nl R) (z, x2o) R R (su8 R R R R R R R R) (zc pk1 so3)
 exact wse R (ebs R ZaJ) (fun _ => (zt (zc pk2 (zc pk2 zn)))) R fun b6o => waj H 7 R (nl R) (z, b6o) R R (su9 R R R R R R R R R) (zc pk1 so3)
 refine List.forall_mem_cons.2 ⟨fun H => ?_, ?_⟩
 intro z
 dsimp only
 refine wa_2 (i := 6) (j := 15) (by kernel_rfl) ?_ ?_
 exact wse R (ebs R ZaJ) (fun _ => (zt (zc pk3 (zc pk3 zn)))) R fun b6o => waj H 8 R (nl R) (z.1, z.2, b6o) R R (su8 R R R R R R R R) so5
 exact wse R (eal (cs := [(sl hn), (sl hn), (sl hn), (sl hn), iv 0, iv 0]) ZF) (fun _ => (zt (zc pk3 (zc pk3 zn)))) R fun b15o => waj H 9 R (nl R) (b15o, z.1, z.2) R R (su8 R R R R R R R R) so5
 refine List.forall_mem_cons.2 ⟨fun H => ?_, ?_⟩
 intro z
 dsimp only
 refine wa_2 (i := 5) (j := 15) (by kernel_rfl) ?_ ?_
 exact wsc R (cz1 Zpm R fun w hw => ZfO w a_g.Stock v1a (ra r1 hw) hv2) (fun _ => (zt (zc pk3 (zc pk3 zn)))) R fun x5o => waj H 8 R (nl R) (z.1, x5o, z.2) R R (su8 R R R R R R R R) (zc pk1 so4)
 exact wse R (eal (cs := [(sl hn), (sl hn), (sl hn), (sl hn), iv 0, iv 0]) ZF) (fun _ => (zt (zc pk3 (zc pk3 zn)))) R fun b15o => waj H 10 R (nl R) (b15o, z.1, z.2) R R (su9 R R R R R R R R R) so5
 refine List.forall_mem_cons.2 ⟨fun H => ?_, ?_⟩
 intro z
 dsimp only
 refine wa_2 (i := 5) (j := 6) (by kernel_rfl) ?_ ?_
 exact wsc R (cz1 Zpm R fun w hw => ZfO w a_g.Stock v1a (ra r1 hw) hv2) (fun _ => (zt (zc pk3 (zc pk3 zn)))) R fun x5o => waj H 9 R (nl R) (z.1, z.2, x5o) R R (su8 R R R R R R R R) (zc pk1 so4)
 exact wse R (ebs R ZaJ) (fun _ => (zt (zc pk3 (zc pk3 zn)))) R fun b6o => waj H 10 R (nl R) (z.1, z.2, b6o) R R (su9 R R R R R R R R R) (zc pk1 so4)
 refine List.forall_mem_cons.2 ⟨fun H => ?_, ?_⟩
 intro z
 dsimp only
 exact a1 2 (wsc R (cz1 Zlu R fun w hw => Zbq w a_g.Members v0a (ra r0 hw) hv1) (fun _ => (zt (zc pk3 (zc pk3 zn)))) R fun x2o => (waj H 10 R (nl R) (z.1, x2o, z.2) R R (su9 R R R R R R R R R) (zc pk1 (zc pk1 so3))))
 refine List.forall_mem_cons.2 ⟨fun H => ?_, ?_⟩
 intro z
 dsimp only
 refine wa_2 (i := 9) (j := 15) (by kernel_rfl) ?_ ?_
 refine wse R (Zg (xs := ([] : List GBooking)) (ys := a_g.Books) Zd3 (pbo pz (n := 0) (xs := ([] : List GBooking)) R R (by unfold maxLen; omega)) R R (Zi fun _ g => Rg.on (rga r3) g) g1) (fun _ => (zt (zc pk3 (zc pk3 zn)))) R fun x9o => ?_
 exact aq 14 R (Zk R (Zgl z.1 z.2.1 x9o a_g.Round a_g.Year)) (zc pk3 (zc pk3 zn)) R (waj H 11 R (nl R) (z.1, z.2.1, x9o) R R (su3 R R R) so5)
 exact wse R (eal (cs := [(sl hn), (sl hn), (sl hn), (sl hn), iv 0, iv 0]) ZF) (fun _ => (zt (zc pk4 (zc pk4 zn)))) R fun b15o => waj H 12 R (nl R) (b15o, z.1, z.2.1, z.2.2) R R (su9 R R R R R R R R R) so6
 refine List.forall_mem_cons.2 ⟨fun H => ?_, ?_⟩
 intro z
 dsimp only
 exact a1 6 (wse R (ebs R ZaJ) (fun _ => (zt (zc pk4 (zc pk4 zn)))) R fun b6o => (waj H 12 R (nl R) (z.1, z.2.1, z.2.2, b6o) R R (su9 R R R R R R R R R) (zc pk1 so5)))
 refine List.forall_mem_cons.2 ⟨fun H => ?_, ?_⟩
 intro z
 dsimp only
 exact a1 5 (wsc R (cz1 Zpm R fun w hw => ZfO w a_g.Stock v1a (ra r1 hw) hv2) (fun _ => (zt (zc pk4 (zc pk4 zn)))) R fun x5o => (waj H 12 R (nl R) (z.1, z.2.1, x5o, z.2.2) R R (su9 R R R R R R R R R) (zc pk1 (zc pk1 so4))))
 refine List.forall_mem_cons.2 ⟨fun H => ?_, ?_⟩
 intro z
 dsimp only
 exact a1 15 (wse R (eal (cs := [(sl hn), (sl hn), (sl hn), (sl hn), iv 0, iv 0]) ZF) (fun _ => (zt (zc pk4 (zc pk4 zn)))) R fun b15o => (waj H 13 R (nl R) (b15o, z.1, z.2.1, z.2.2) R R (su4 R R R R) so6))
 refine List.forall_mem_cons.2 ⟨fun H => ?_, ?_⟩
 intro z
 dsimp only
 refine a1 9 (wse R (Zg (xs := ([] : List GBooking)) (ys := a_g.Books) Zd3 (pbo pk1 (n := 0) (xs := ([] : List GBooking)) R R (by unfold maxLen; omega)) R R (Zi fun _ g => Rg.on (rga r3) g) g1) (fun _ => (zt (zc pk4 (zc pk4 zn)))) R fun x9o => ?_)
 exact aq 14 R (Zk R (Zgl z.2.1 z.2.2.1 x9o a_g.Round a_g.Year)) (zc pk4 (zc pk4 zn)) R (waj H 13 R (nl R) (z.1, z.2.1, z.2.2.1, x9o) R R (su4 R R R R) (zc pk1 so5))
 refine List.forall_mem_cons.2 ⟨fun H => ?_, ?_⟩
 intro z
 dsimp only
 refine a1 16 (ZU R (sbx (cs' := [(sl z.2.1), (sl z.2.2.1), (sl hn), (sl z.2.2.2), iv a_g.Round, iv a_g.Year]) Zc pz R R R R R R R) (Zaw (by kernel_rfl)) ?_)
 exact ae (wqm (z.1, z.2.1, z.2.2.1, z.2.2.2) trivial (su3 R R R) so6)
 exact fun _ h => nomatch h
 exact aq 0 R (pof Zcl R) so2 R (aq (v := (sl v0a)) 1 R (plx Zet pk1 R R) so2 R (aq 3 R (pof ZeP R) so2 R (aq (v := (sl v1a)) 4 R (plx Zeu pk1 R R) so2 R (aq 7 R (pof ZdB R) so2 R (aq (v := (sl v3a)) 8 R (plx Zg5 pk1 R R) so2 R (aq 10 R (pof Zdz R) so2 R (aq (v := iv a_g.Round) 11 R (plx tk_3 pk1 R R) so2 R (aq 12 R (pof ZeK R) so2 R (aq (v := iv a_g.Year) 13 R (plx tk_3 pk1 R R) so2 R (waj H 0 R (nl R) () R R (su7 R R R R R R R) so2))))))))))
 intro x1 _
 refine wqt (wcs (wcr (wlq (pof Zaj R) R (wlq (v := (sl v2a)) (plx Za5 pk5 R R) R (wlq (pln (rga r2) Zbv R) R (mv R R (wnt (gdO t0 fun g2 t0 => (Zr t0 fun y1 l1 t0 => (wj (J := List GEntry) (X := Hd × (List Value)) (fun z => y1 = z) (fun _ _ => [(2, ptr b2 0), (3, ptr x1.1 0)]) (fun z x => [box x1.1 [(sl x1.2.1), (sl x1.2.2.1), (sl x.1), (sl x1.2.2.2), iv a_g.Round, iv a_g.Year], ownF (sl x1.2.2.2) (([] : List GBooking) ++ a_g.Books), ownF (sl x1.2.2.1) v2, ownF (sl x1.2.1) v1, box b2 [(sl hn), (sl hn), (sl hn), (sl hn), iv 0, iv 0], own (sl x.1) x.2 z]) ?_ ?_))))))))))
 refine wcb (wcf (X := Hd × (List Value)) l1 (fun k1 s1 x1l => [(2, ptr b2 0), (3, ptr x1.1 0), (22, (sl v2a)), (23, iv ((a_g.Entries.length : Nat) : Int)), (24, iv ((k1 : Nat) : Int))]) (fun k1 s1 x1l => [box x1.1 [(sl x1.2.1), (sl x1.2.2.1), (sl x1l.1), (sl x1.2.2.2), iv a_g.Round, iv a_g.Year], ownF (sl x1.2.2.2) (([] : List GBooking) ++ a_g.Books), ownF (sl x1.2.2.1) v2, ownF (sl x1.2.1) v1, box b2 [(sl hn), (sl hn), (sl hn), (sl hn), iv 0, iv 0], own (sl x1l.1) x1l.2 s1]) (hn, []) (su5 R R R R R) (zc pz (zc pz (zc pz (zc pz (zc pz (zc ZB zn)))))) fun k1 s1 x1l hN1 l1 => ?_)
 by_cases hk1 : k1 < a_g.Entries.length
 refine fos l1 hk1 fun _ t1 l1 => ?_
 unfold Zdo at t1
 have c1 : (decide (((k1 : Nat) : Int) < ((a_g.Entries.length : Nat) : Int))) = true := ddt (by omega)
 refine wcr (wlq (pls R R) R (wnt (wcs (wft R c1 (wck (wqt (wcs (wcb (wcr (wlq (Zv (k := k1) (rga r2) Zbv R R hk1) R (Zf3 (rga r2) hk1 ?_)))))))))))
 rintro ⟨_, _, he1⟩
 obtain ⟨w1, hc1, _⟩ := ZbW.1 he1
 refine wlq (v := .agg #[iv ((gx a_g.Entries k1).Owner), iv ((gx a_g.Entries k1).Day), iv (((gx a_g.Entries k1).Block).Size), (sl w1)]) (Zdy (rga r2) Za7 R hc1 R R R) R (wle (eal (cs := [iv 0, iv 0, iv 0, (sl hn)]) ZgP) R fun b3 => (wls (sbx (cs' := [iv ((gx a_g.Entries k1).Owner), iv ((gx a_g.Entries k1).Day), iv (((gx a_g.Entries k1).Block).Size), (sl w1)]) Za7 pz R R R R R R R) (wnt (wcd [box b3 [iv ((gx a_g.Entries k1).Owner), iv ((gx a_g.Entries k1).Day), iv (((gx a_g.Entries k1).Block).Size), (sl w1)], box x1.1 [(sl x1.2.1), (sl x1.2.2.1), (sl x1l.1), (sl x1.2.2.2), iv a_g.Round, iv a_g.Year], ownF (sl x1.2.2.2) (([] : List GBooking) ++ a_g.Books), ownF (sl x1.2.2.1) v2, ownF (sl x1.2.1) v1, box b2 [(sl hn), (sl hn), (sl hn), (sl hn), iv 0, iv 0]] 13 mixed (aq 0 R (pof Zaj R) so6 R (aq (v := (sl x1l.1)) 1 R (plx Za5 pk1 R R) so6 R (aq 2 R (pof Zd7 R) so6 R (aq (v := iv ((gx a_g.Entries k1).Owner)) 3 R (plx tk_3 pz R R) so6 R (aq 4 R (pof ZcD R) so6 R (aq (v := iv ((gx a_g.Entries k1).Day)) 5 R (plx tk_3 pz R R) so6 R (aq 6 R (pof Za4 R) so6 R (aq (v := .agg #[iv (((gx a_g.Entries k1).Block).Size), (sl w1)]) 7 R (plb Zb pz R R R) so6 R (a1 8 (bdO t1 fun v3 hv3 t1 => (wsc R (cz1 ZlM R fun w hw => Zbf w ((gx a_g.Entries k1).Block) w1 (Rg.on (ZcN hc1 (rga r2) hk1) hw) hv3) (fun _ => (zt (zc pk1 (zc pk1 (zc pk1 (zc pk1 (zc pk1 (zc pk1 zn)))))))) R fun x3 => (aq 9 R (Zk R (ZfZ ((gx a_g.Entries k1).Owner) ((gx a_g.Entries k1).Day) v3.Size x3)) (zc pk1 (zc pk1 (zc pk1 (zc pk1 (zc pk1 (zc pk1 zn)))))) R (a1 10 (wse R (ebs R (Zna ((gx a_g.Entries k1).Owner) ((gx a_g.Entries k1).Day) v3.Size x3)) (fun _ => (zt (zc pk2 (zc pk2 (zc pk2 (zc pk2 (zc pk2 (zc pk2 zn)))))))) R fun b4 => (a1 11 (gdO t1 fun g3 t1 => (wse R (Zc3 (us := x1l.2) (xs := s1) Zre pk8 (Zjj (x := (GEntry.mk ((gx a_g.Entries k1).Owner) ((gx a_g.Entries k1).Day) v3)) pk1) pz R R R g3) (fun _ => (zt (zc pk2 (zc pk2 (zc pk2 (zc pk2 (zc pk2 (zc pk2 zn)))))))) R fun x4 => (aq 12 R (pof Zaj R) (zc pk2 (zc pk2 (zc pk2 (zc pk2 (zc pk2 (zc pk2 zn)))))) R (a1 13 (ZU R (sbx (cs' := [(sl x1.2.1), (sl x1.2.2.1), (sl x4), (sl x1.2.2.2), iv a_g.Round, iv a_g.Year]) Za5 pk3 R R R R R R R) (Zaw (by kernel_rfl)) ?_))))))))))))))))))))))))
 refine ae (wqb (wqt (wcg (wlq (Zj R R (by omega)) R ?_))))
 exact mv R R (wln (Zl hk1 (stpN l1 t1) (x4, (x1l.2 ++ [iv ((gx a_g.Entries k1).Owner), iv ((gx a_g.Entries k1).Day), iv v3.Size, (sl x3)])) (su5 R R R R R) (zc pz (zc pk3 (zc pk3 (zc pk3 (zc pk3 so1)))))))
 have c1 : (decide (((k1 : Nat) : Int) < ((a_g.Entries.length : Nat) : Int))) = false := ddf (by omega)
 have en1 := foe l1 hk1
 exact wcr (wlq (pls R R) R (wnt (wcs (wff R c1 (wcx (wqe (wqe (wbx (wjm _ (x1l.1, x1l.2) (Sum.inl.inj en1) (su2 R R) so6)))))))))
 intro e1 x2 hp
 obtain rfl : e1 = y1 := hp.symm
 refine wqt (wcr (wlq (v := .agg #[(sl x1.2.1), (sl x1.2.2.1), (sl x2.1), (sl x1.2.2.2), iv a_g.Round, iv a_g.Year]) (plb Zc pz R R R) R (wls (sbx (cs' := [(sl x1.2.1), (sl x1.2.2.1), (sl x2.1), (sl x1.2.2.2), iv a_g.Round, iv a_g.Year]) Zc pk4 R R R R R R R) (wnt (wct ?_)))))
 obtain rfl := oi t0
 exact wqc R Zc R pz R fun w hw => ⟨(x1.2.1, x1.2.2.1, x2.1, x2.2, x1.2.2.2), R, hw.weak (zc pk4 (zc pk3 (zc pk3 (zc pk2 zn))))⟩

theorem Zn9 (w : World) (a_list : List GMember) (v0a : Hd) (r0 : rdF w (dm w []) (sl v0a) a_list) (a_number : Int) (a_year : Int) {r : (List GMember) × Bool} (t0 : Zcz a_list a_number a_year = some r) : Calls Tryz.prog 53 #[(sl v0a), .int .i64 a_number, .int .i64 a_year] w fun e w' => ∃ x : Hd, e = .returned (.tuple #[(sl x), .bool r.2]) ∧ SH w [] [ownF (sl x) r.1] w' := by
 refine cwc (args := [_, _, _]) Tryz.func53 R Tryz.ntmps53 R ?_
 unfold Zcz at t0
 refine wcr (asg R R (asg R R (wnt (wcr (wle (ebs R Zc1) R fun b1 => (asg R R (asg R R (wnt (wcs (Zjx t0 fun y1 l1 t0 => (wj (J := Int) (X := Unit) (fun z => y1 = z) (fun z _ => [(0, (sl v0a)), (1, iv a_number), (2, iv a_year), (8, (sl (⟨some ⟨b1, 0, none⟩, 0, 0⟩ : Hd))), (9, iv z)]) (fun _ _ => [box b1 []]) ?_ ?_)))))))))))
 refine wcb (ZkQ (X := Unit) l1 (fun s1 x1l => [(0, (sl v0a)), (1, iv a_number), (2, iv a_year), (8, (sl (⟨some ⟨b1, 0, none⟩, 0, 0⟩ : Hd))), (9, iv s1)]) (fun s1 x1l => [box b1 []]) () (su5 R R R R R) so1 fun m1 s1 x1l l1 => (Ziy l1 fun _ t1 l1 => ?_))
 unfold Zhg at t1
 refine wcs (wcs (bdO t1 fun y2 t2 t1 => (wj (J := Bool) (X := Unit) (fun z => y2 = z) (fun z _ => [(0, (sl v0a)), (1, iv a_number), (2, iv a_year), (8, (sl (⟨some ⟨b1, 0, none⟩, 0, 0⟩ : Hd))), (9, iv s1), (23, .bool z)]) (fun _ _ => [box b1 []]) ?_ ?_)))
 refine wcg (mv R R (mv R R (wlq (pln (rga r0) Zan R) R (wlq (pls R R) R (mv R R (wlo (t := 15) t2 R (fun h1 t2 => ?_) fun h1 t2 => ?_))))))
 exact wgn (j := 4) R R R (mv R R (wgn (j := 4) R R R (mv R R (gdO t2 fun g1 t2 => (wgn (j := 4) R R R (wlq (Z8 (rga r0) Zan R R g1.1 g1.2) R (wgn (j := 4) R R R (wlq (Zak (rga r0) (ZK g1) Zch R) R (wgn (j := 4) R R R (wlq (v := iv ((gx a_list ((s1).toNat)).Number)) (ZD (rga r0) tk_3 R (ZK g1) R) R (wgn (j := 4) R R R (mv R R (wgn (j := 4) R R R (wlq (pls R R) R (wlq (pit R R) R (wln (wjm _ () (mtE t2) (su6 R R R R R R) so1)))))))))))))))))
 exact wgf (j := 4) R R R R R (wgf (j := 4) R R R R R (wgf (j := 4) R R R R R (wgf (j := 4) R R R R R (wgf (j := 4) R R R R R (wgf (j := 4) R R R R R (wgf (j := 4) R R R R R (wlq (pif R R) R (wln (wjm _ () (mtE t2) (su6 R R R R R R) so1)))))))))
 intro j1 _ hp
 obtain rfl : j1 = y2 := hp.symm
 refine wqt (wcO t1 R (fun h2 t1 => ?_) fun h2 t1 => ?_)
 exact wck (wqt (wcb (wcg (mv R R (wlq (Z4 R R) R (asg R R (wln (wqb (ZjD (stwN l1 t1) () (su5 R R R R R) so1)))))))))
 exact wcx (wqe (wqe (wbx (wjm _ () (Sum.inl.inj (stwB l1 t1)) (su5 R R R R R) so1))))
 intro e1 _ hp
 obtain rfl : e1 = y1 := hp.symm
 refine wqt (wcr (mv R R (mv R R (mv R R (gdO t0 fun g2 t0 => (wlq (Ziz (l := 0) (h := (e1).toNat) (rga r0) Zan R (.inl ⟨R, R⟩) (.inr ⟨_, R, ixn g2.1⟩) g2.2.1 g2.2.2) R (gdO t0 fun g3 t0 => (wle (Zg (xs := ([] : List GMember)) (ys := ((a_list.drop 0).take ((e1).toNat - 0))) ZdZ (pbo pz (n := 0) (xs := ([] : List GMember)) R R (by unfold maxLen; omega)) R R (Zi fun _ g => Rg.on (ZgN (rga r0) g2.2.1 g2.2.2) g) g3) R fun x3 => ?_))))))))
 refine mv R R (mv R R (mv R R (wlq (Zad R R) R (wlq (Zk R (ZnM a_number a_year (wr (a_year - 1)))) R (wle (ebs R (Zs1 a_number a_year (wr (a_year - 1)))) R fun b2 => (gdO t0 fun g4 t0 => (wle (Zg (xs := (([] : List GMember) ++ ((a_list.drop 0).take ((e1).toNat - 0)))) (ys := ([(GMember.mk a_number a_year (wr (a_year - 1)))] : List GMember)) ZdZ pk1 R R (Zi fun _ g => Rg.on (rgo (pbo pz (n := 1) (xs := ([(GMember.mk a_number a_year (wr (a_year - 1)))] : List GMember)) R R (by unfold maxLen; omega))) g) g4) R fun x4 => ?_)))))))
 refine asg R R (wnt (wcr (mv R R (mv R R (mv R R (gdO t0 fun g5 t0 => (wlq (Ziz (l := (e1).toNat) (h := a_list.length) (rga r0) Zan R (.inr ⟨_, R, ixn g5.1⟩) (.inl ⟨R, R⟩) g5.2.1 g5.2.2) R (gdO t0 fun g6 t0 => (wle (Zg (xs := ((([] : List GMember) ++ ((a_list.drop 0).take ((e1).toNat - 0))) ++ [(GMember.mk a_number a_year (wr (a_year - 1)))])) (ys := ((a_list.drop ((e1).toNat)).take (a_list.length - ((e1).toNat)))) ZdZ pz R R (Zi fun _ g => Rg.on (ZgN (rga r0) g5.2.1 g5.2.2) g) g6) R fun x5 => (asg R R (wnt (wcs (wcs (bdO t0 fun y1 t1 t0 => (wj (J := Bool) (X := Unit) (fun z => y1 = z) (fun z _ => [(0, (sl v0a)), (8, (sl x5)), (50, .bool z)]) (fun _ _ => [ownF (sl x5) (((([] : List GMember) ++ ((a_list.drop 0).take ((e1).toNat - 0))) ++ [(GMember.mk a_number a_year (wr (a_year - 1)))]) ++ ((a_list.drop ((e1).toNat)).take (a_list.length - ((e1).toNat))))]) ?_ ?_)))))))))))))))
 refine wcg (mv R R (bdO t1 fun v1 hv1 t1 => (wlc (cz0 ZmZ R fun w hw => ZcF w a_list v0a (ra r0 hw) hv1) R fun _ => (wlq (Zd R) R (mv R R (wlo (t := 46) t1 R (fun h3 t1 => ?_) fun h3 t1 => ?_))))))
 exact wgf (j := 3) R R R R R (wgf (j := 3) R R R R R (wgf (j := 3) R R R R R (wlq (pit R R) R (wln (wjm _ () (mtE t1) (su3 R R R) so1)))))
 exact wgn (j := 3) R R R (mv R R (bdO t1 fun v2 hv2 t1 => (wgn (j := 3) R R R (wlc (cz0 ZmZ R fun w hw => ZcF w (((([] : List GMember) ++ ((a_list.drop 0).take ((e1).toNat - 0))) ++ [(GMember.mk a_number a_year (wr (a_year - 1)))]) ++ ((a_list.drop ((e1).toNat)).take (a_list.length - ((e1).toNat)))) x5 (Rg.on (rgo pz) hw) hv2) R (fun _ => (wgn (j := 3) R R R (wlq (Zd R) R (wlq (pif R R) R (wln (wjm _ () (mtE t1) (su3 R R R) so1))))))))))
 intro j2 _ hp
 obtain rfl : j2 = y1 := hp.symm
 refine wqt (wcO t0 R (fun h4 t0 => ?_) fun h4 t0 => ?_)
 refine wcr (mv R R (bdO t0 fun v3 hv3 t0 => (wlc (cz1 Zlu R fun w hw => Zbq w a_list v0a (ra r0 hw) hv3) R fun x7 => (asg R R (asg R R (wnt (wct (wqr ?_))))))))
 obtain rfl := oi t0
 exact Z0 R R R fun w hw => ⟨x7, R, hw.weak so1⟩
 refine wck (wqt (wcr (mv R R (asg R R (asg R R (wnt (wct ?_)))))))
 obtain rfl := oi t0
 exact Z0 R R R fun w hw => ⟨x5, R, hw.weak so1⟩

theorem Zqg (w : World) (a_list : List GMember) (v0a : Hd) (r0 : rdF w (dm w []) (sl v0a) a_list) (a_number : Int) (a_years : Int) {r : (List GMember) × Bool} (t0 : ZgD a_list a_number a_years = some r) : Calls Tryz.prog 54 #[(sl v0a), .int .i64 a_number, .int .i64 a_years] w fun e w' => ∃ x : Hd, e = .returned (.tuple #[(sl x), .bool r.2]) ∧ SH w [] [ownF (sl x) r.1] w' := by
 refine cwc (args := [_, _, _]) Tryz.func54 R Tryz.ntmps54 R ?_
 unfold ZgD at t0
 refine wcr (asg R R (asg R R (wnt (wcr (mv R R (bdO t0 fun v1 hv1 t0 => (wlc (cz1 Zlu R fun w hw => Zbq w a_list v0a (ra r0 hw) hv1) R fun x1 => (asg R R (asg R R (wnt (wcs (wcs (bdO t0 fun y1 t1 t0 => (wj (J := Bool) (X := Unit) (fun z => y1 = z) (fun z _ => [(0, (sl v0a)), (1, iv a_number), (2, iv a_years), (8, (sl x1)), (9, .bool false), (20, .bool z)]) (fun _ _ => [ownF (sl x1) v1]) ?_ ?_))))))))))))))
 refine wcg (mv R R (bdO t1 fun v2 hv2 t1 => (wlc (cz0 ZmZ R fun w hw => ZcF w a_list v0a (ra r0 hw) hv2) R fun _ => (wlq (Zd R) R (mv R R (wlo (t := 16) t1 R (fun h1 t1 => ?_) fun h1 t1 => ?_))))))
 exact wgf (j := 3) R R R R R (wgf (j := 3) R R R R R (wgf (j := 3) R R R R R (wlq (pit R R) R (wln (wjm _ () (mtE t1) (su6 R R R R R R) so1)))))
 exact wgn (j := 3) R R R (mv R R (bdO t1 fun v3 hv3 t1 => (wgn (j := 3) R R R (wlc (cz0 ZaI R fun w hw => Zo w a_years 1 10 hv3) R (fun _ => (wgn (j := 3) R R R (wlq (Zd R) R (wlq (pif R R) R (wln (wjm _ () (mtE t1) (su6 R R R R R R) so1))))))))))
 intro j1 _ hp
 obtain rfl : j1 = y1 := hp.symm
 refine wqt (wcO t0 R (fun h2 t0 => ?_) fun h2 t0 => ?_)
 refine wcr (mv R R (asg R R (asg R R (wnt (wct (wqr ?_))))))
 obtain rfl := oi t0
 exact Z0 R R R fun w hw => ⟨x1, R, hw.weak so1⟩
 refine wck (wqt (wcs (wcr (mv R R (wlq (pln (rgo pz) Zan R) R (mv R R (wnt (gdO t0 fun g1 t0 => (Zr t0 fun y1 l1 t0 => (wj (J := (List GMember) × Bool) (X := Unit) (fun z => y1 = z) (fun z _ => [(0, (sl v0a)), (8, (sl x1)), (9, .bool z.2)]) (fun z _ => [ownF (sl x1) z.1]) ?_ ?_))))))))))
 refine wcb (wcf (X := Unit) l1 (fun k1 s1 x1l => [(0, (sl v0a)), (1, iv a_number), (2, iv a_years), (8, (sl x1)), (9, .bool s1.2), (23, iv ((v1.length : Nat) : Int)), (24, iv ((k1 : Nat) : Int))]) (fun k1 s1 x1l => [ownF (sl x1) s1.1]) () (su7 R R R R R R R) so1 fun k1 s1 x1l hN1 l1 => ?_)
 by_cases hk1 : k1 < v1.length
 refine fos l1 hk1 fun _ t1 l1 => ?_
 unfold Zgt at t1
 have c1 : (decide (((k1 : Nat) : Int) < ((v1.length : Nat) : Int))) = true := ddt (by omega)
 refine wcr (wlq (pls R R) R (wnt (wcs (wft R c1 (wck (wqt (wcs (wcb (wcr (mv R R (asg R R (wnt (wcr (mv R R (mv R R (gdO t1 fun g2 t1 => (wlq (Zv (k := k1) (rgo pz) Zan R R g2) R (wlq (Zak (rgo pz) g2 Zch R) R (wlq (v := iv ((gx s1.1 k1).Number)) (ZD (rgo pz) tk_3 R g2 R) R (mv R R (wlq (pol R R) R (wnt (wcj (X := Unit) (fun _ => True) (fun _ => [(0, (sl v0a)), (1, iv a_number), (2, iv a_years), (8, (sl x1)), (9, .bool (((gx s1.1 k1).Number == a_number) || s1.2)), (23, iv ((v1.length : Nat) : Int)), (24, iv ((k1 : Nat) : Int))]) (fun _ => [ownF (sl x1) (bif ((gx s1.1 k1).Number == a_number) then (s1.1.set k1 (GMember.mk ((gx s1.1 k1).Number) ((gx s1.1 k1).Since) (wr ((gx s1.1 k1).Paid + a_years)))) else s1.1)]) ?_ ?_)))))))))))))))))))))))
 refine ZbI R (fun h3 => ?_) fun h3 => ?_
 exact wcr (mv R R (mv R R (wlq (Zv (k := k1) (rgo pz) Zan R R g2) R (wlq (Zak (rgo pz) g2 Zg6 R) R (wlq (v := iv ((gx s1.1 k1).Paid)) (ZD (rgo pz) tk_3 R g2 R) R (mv R R (wlq (Z4 R R) R (wlq (Zv (k := k1) (rgo pz) Zan R R g2) R (wlq (Zak (rgo pz) g2 Zg6 R) R (wls (ZiY (x' := (GMember.mk ((gx s1.1 k1).Number) ((gx s1.1 k1).Since) (wr ((gx s1.1 k1).Paid + a_years)))) tk_3 pz R R R R R R g2 R) (wnt (wcg (asg R R (wln (wqm () trivial (yc R (yc R (yc R (yc R (Z2 R (by rw [h3]; rfl) (su2 R R)))))) (zc (by simp only [h3, cond_true]; exact pz) zn))))))))))))))))
 exact wck (wqm () trivial (yc R (yc R (yc R (yc R (Z2 R (by rw [h3]; rfl) (su2 R R)))))) (zc (by simp only [h3, cond_false]; exact pz) zn))
 intro _ _
 refine wqb (wqt (wcg (wlq (Zj R R (by omega)) R ?_)))
 exact mv R R (wln (Zl hk1 (stpN l1 t1) () (su7 R R R R R R R) so1))
 have c1 : (decide (((k1 : Nat) : Int) < ((v1.length : Nat) : Int))) = false := ddf (by omega)
 have en1 := foe l1 hk1
 exact wcr (wlq (pls R R) R (wnt (wcs (wff R c1 (wcx (wqe (wqe (wbx (wjm _ () (Sum.inl.inj en1) (su3 R R R) so1)))))))))
 intro e1 _ hp
 obtain rfl : e1 = y1 := hp.symm
 refine wqt (wcs (wcs (bdO t0 fun y1 t1 t0 => (wj (J := Bool) (X := Unit) (fun z => y1 = z) (fun z _ => [(0, (sl v0a)), (8, (sl x1)), (50, .bool z)]) (fun _ _ => [ownF (sl x1) e1.1]) ?_ ?_))))
 refine wcg (mv R R (wlq (Zd R) R (mv R R (wlo (t := 46) t1 R (fun h4 t1 => ?_) fun h4 t1 => ?_))))
 exact wgf (j := 2) R R R R R (wgf (j := 2) R R R R R (wgf (j := 2) R R R R R (wlq (pit R R) R (wln (wjm _ () (mtE t1) (su3 R R R) so1)))))
 exact wgn (j := 2) R R R (mv R R (bdO t1 fun v4 hv4 t1 => (wgn (j := 2) R R R (wlc (cz0 ZmZ R fun w hw => ZcF w e1.1 x1 (Rg.on (rgo pz) hw) hv4) R (fun _ => (wgn (j := 2) R R R (wlq (Zd R) R (wlq (pif R R) R (wln (wjm _ () (mtE t1) (su3 R R R) so1))))))))))
 intro j3 _ hp
 obtain rfl : j3 = y1 := hp.symm
 refine wqt (wcO t0 R (fun h5 t0 => ?_) fun h5 t0 => ?_)
 refine wcr (mv R R (bdO t0 fun v5 hv5 t0 => (wlc (cz1 Zlu R fun w hw => Zbq w a_list v0a (ra r0 hw) hv5) R fun x6 => (asg R R (asg R R (wnt (wct (wqr ?_))))))))
 obtain rfl := oi t0
 exact Z0 R R R fun w hw => ⟨x6, R, hw.weak so1⟩
 refine wck (wqt (wcr (mv R R (asg R R (asg R R (wnt (wct ?_)))))))
 obtain rfl := oi t0
 exact Z0 R R R fun w hw => ⟨x1, R, hw.weak so1⟩

theorem Zp2 (w : World) (a_list : List GBooking) (v0a : Hd) (r0 : rdF w (dm w []) (sl v0a) a_list) (a_b : GBooking) {r : (List GBooking) × Bool} (t0 : ZgE a_list a_b = some r) : Calls Tryz.prog 55 #[(sl v0a), .agg #[.int .i64 a_b.Day, .int .i64 a_b.From, .int .i64 a_b.To, .int .i64 a_b.Sum]] w fun e w' => ∃ x : Hd, e = .returned (.tuple #[(sl x), .bool r.2]) ∧ SH w [] [ownF (sl x) r.1] w' := by
 refine cwc (args := [_, _]) Tryz.func55 R Tryz.ntmps55 R ?_
 unfold ZgE at t0
 refine wcr (wle (Zh R R) R fun b1 => (asg R R (asg R R (wnt (wcs (gdO t0 fun g1 t0 => (gdO t0 fun g2 t0 => (wcj (X := Hd) (fun _ => True) (fun z => [(0, (sl v0a)), (6, (sl z))]) (fun z => [ownF (sl z) ((([] : List GBooking) ++ a_list) ++ [a_b])]) ?_ ?_))))))))
 refine wcd [box b1 [iv a_b.Day, iv a_b.From, iv a_b.To, iv a_b.Sum]] 7 mixed (aq 1 R (pom R) so1 R (aq (v := .agg #[iv a_b.Day, iv a_b.From, iv a_b.To, iv a_b.Sum]) 3 R (plb Zm7 pz R R R) so1 R (wa_2 (i := 0) (j := 4) (by kernel_rfl) ?_ ?_)))
 refine wse R (ebs R ZaJ) (fun _ => (zt (zc pk1 zn))) R fun b2 => wa_2 (i := 2) (j := 4) (by kernel_rfl) ?_ ?_
 refine wse R (Zg (xs := ([] : List GBooking)) (ys := a_list) Zd3 (pbo pz (n := 0) (xs := ([] : List GBooking)) R R (by unfold maxLen; omega)) R R (Zi fun _ g => Rg.on (rga r0) g) g1) (fun _ => (zt (zc pk1 zn))) R fun x1 => ?_
 refine a1 4 (wse R (ebs R (Zjw a_b.Day a_b.From a_b.To a_b.Sum)) (fun _ => (zt (zc pk2 zn))) R fun b3 => (a1 5 (wse R (Zg (xs := (([] : List GBooking) ++ a_list)) (ys := ([a_b] : List GBooking)) Zd3 pk1 R R (Zi fun _ g => Rg.on (rgo (pbo pz (n := 1) (xs := ([a_b] : List GBooking)) R R (by unfold maxLen; omega))) g) g2) (fun _ => (zt (zc pk2 zn))) R fun x2 => ?_)))
 exact aq 6 R (Zu R) (zc pk2 zn) R (ae (wqm x2 trivial (su2 R R) so1))
 refine wse R (ebs R (Zjw a_b.Day a_b.From a_b.To a_b.Sum)) (fun _ => (zt (zc pk2 zn))) R fun b4 => a1 2 (wse R (Zg (xs := ([] : List GBooking)) (ys := a_list) Zd3 (pbo pk1 (n := 0) (xs := ([] : List GBooking)) R R (by unfold maxLen; omega)) R R (Zi fun _ g => Rg.on (rga r0) g) g1) (fun _ => (zt (zc pk2 zn))) R fun x3 => ?_)
 refine a1 5 (wse R (Zg (xs := (([] : List GBooking) ++ a_list)) (ys := ([a_b] : List GBooking)) Zd3 pz R R (Zi fun _ g => Rg.on (rgo (pbo pk1 (n := 1) (xs := ([a_b] : List GBooking)) R R (by unfold maxLen; omega))) g) g2) (fun _ => (zt (zc pk2 zn))) R fun x4 => ?_)
 exact aq 6 R (Zu R) (zc pk2 zn) R (ae (wqm x4 trivial (su2 R R) so1))
 refine wse R (ebs R (Zjw a_b.Day a_b.From a_b.To a_b.Sum)) (fun _ => (zt (zc pk1 zn))) R fun b5 => a1 0 (wse R (ebs R ZaJ) (fun _ => (zt (zc pk2 zn))) R fun b6 => (a1 2 (wse R (Zg (xs := ([] : List GBooking)) (ys := a_list) Zd3 (pbo pz (n := 0) (xs := ([] : List GBooking)) R R (by unfold maxLen; omega)) R R (Zi fun _ g => Rg.on (rga r0) g) g1) (fun _ => (zt (zc pk2 zn))) R fun x5 => ?_)))
 refine a1 5 (wse R (Zg (xs := (([] : List GBooking) ++ a_list)) (ys := ([a_b] : List GBooking)) Zd3 pz R R (Zi fun _ g => Rg.on (rgo (pbo pk1 (n := 1) (xs := ([a_b] : List GBooking)) R R (by unfold maxLen; omega))) g) g2) (fun _ => (zt (zc pk2 zn))) R fun x6 => ?_)
 exact aq 6 R (Zu R) (zc pk2 zn) R (ae (wqm x6 trivial (su2 R R) so1))
 intro x7 _
 refine wqt (wcs (wcs (bdO t0 fun y1 t1 t0 => (wj (J := Bool) (X := Unit) (fun z => y1 = z) (fun z _ => [(0, (sl v0a)), (6, (sl x7)), (20, .bool z)]) (fun _ _ => [ownF (sl x7) ((([] : List GBooking) ++ a_list) ++ [a_b])]) ?_ ?_))))
 refine wcg (mv R R (bdO t1 fun v1 hv1 t1 => (wlc (cz0 Zta R fun w hw => Zh5 w a_list v0a (ra r0 hw) hv1) R fun _ => (wlq (Zd R) R (mv R R (wlo (t := 16) t1 R (fun h1 t1 => ?_) fun h1 t1 => ?_))))))
 exact wgf (j := 3) R R R R R (wgf (j := 3) R R R R R (wgf (j := 3) R R R R R (wlq (pit R R) R (wln (wjm _ () (mtE t1) (su3 R R R) so1)))))
 exact wgn (j := 3) R R R (mv R R (bdO t1 fun v2 hv2 t1 => (wgn (j := 3) R R R (wlc (cz0 Zta R fun w hw => Zh5 w ((([] : List GBooking) ++ a_list) ++ [a_b]) x7 (Rg.on (rgo pz) hw) hv2) R (fun _ => (wgn (j := 3) R R R (wlq (Zd R) R (wlq (pif R R) R (wln (wjm _ () (mtE t1) (su3 R R R) so1))))))))))
 intro j1 _ hp
 obtain rfl : j1 = y1 := hp.symm
 refine wqt (wcO t0 R (fun h2 t0 => ?_) fun h2 t0 => ?_)
 refine wcr (wle (ebs R ZaJ) R fun b7 => (mv R R (wle (Zg (xs := ([] : List GBooking)) (ys := a_list) Zd3 (pbo pz (n := 0) (xs := ([] : List GBooking)) R R (by unfold maxLen; omega)) R R (Zi fun _ g => Rg.on (rga r0) g) g1) R fun x9 => ?_)))
 refine asg R R (asg R R (wnt (wct (wqr ?_))))
 obtain rfl := oi t0
 exact Z0 R R R fun w hw => ⟨x9, R, hw.weak so1⟩
 refine wck (wqt (wcr (mv R R (asg R R (asg R R (wnt (wct ?_)))))))
 obtain rfl := oi t0
 exact Z0 R R R fun w hw => ⟨x7, R, hw.weak so1⟩

theorem ZaR (w : World) (fp : List Nat) (a_g : GGuild) (v0a : Hd) (r0 : rdF w (dm w fp) (sl v0a) a_g.Members) (v1a : Hd) (r1 : rdF w (dm w fp) (sl v1a) a_g.Stock) (v2a : Hd) (u2a : List Value) (r2 : RdL w (dm w fp) (sl v2a) u2a a_g.Entries) (v3a : Hd) (r3 : rdF w (dm w fp) (sl v3a) a_g.Books) (a_next : GGuild) (v4a : Hd) (v5a : Hd) (v6a : Hd) (u6a : List Value) (v7a : Hd) (a_ok : Bool) (o : Ow w [ownF (sl v4a) a_next.Members, ownF (sl v5a) a_next.Stock, own (sl v6a) u6a a_next.Entries, ownF (sl v7a) a_next.Books] fp) {r : GGuild × Bool} (t0 : Zam a_g a_next a_ok = some r) : Calls Tryz.prog 56 #[.agg #[(sl v0a), (sl v1a), (sl v2a), (sl v3a), .int .i64 a_g.Round, .int .i64 a_g.Year], .agg #[(sl v4a), (sl v5a), (sl v6a), (sl v7a), .int .i64 a_next.Round, .int .i64 a_next.Year], .bool a_ok] w fun e w' => ∃ x : Hd × Hd × Hd × (List Value) × Hd, e = .returned (.tuple #[.agg #[(sl x.1), (sl x.2.1), (sl x.2.2.1), (sl x.2.2.2.2), .int .i64 r.1.Round, .int .i64 r.1.Year], .bool r.2]) ∧ SH w fp [ownF (sl x.1) r.1.Members, ownF (sl x.2.1) r.1.Stock, own (sl x.2.2.1) x.2.2.2.1 r.1.Entries, ownF (sl x.2.2.2.2) r.1.Books] w' := by
 refine ZaS (args := [_, _, _]) o Tryz.func56 R Tryz.ntmps56 R ?_
 unfold Zam at t0
 refine wcr (wle (Zh R R) R fun b1 => (wle (Zh R R) R fun b2 => (wle (eal (cs := [(sl hn), (sl hn), (sl hn), (sl hn), iv 0, iv 0]) ZF) R fun b3 => (asg R R (wnt (wcs (wcs (bdO t0 fun y1 t1 t0 => (wj (J := Bool) (X := Unit) (fun z => y1 = z) (fun z _ => [(3, ptr b1 0), (4, ptr b2 0), (6, ptr b3 0), (19, .bool z)]) (fun _ _ => [box b3 [(sl hn), (sl hn), (sl hn), (sl hn), iv 0, iv 0], box b2 [(sl v4a), (sl v5a), (sl v6a), (sl v7a), iv a_next.Round, iv a_next.Year], box b1 [(sl v0a), (sl v1a), (sl v2a), (sl v3a), iv a_g.Round, iv a_g.Year], ownF (sl v4a) a_next.Members, ownF (sl v5a) a_next.Stock, own (sl v6a) u6a a_next.Entries, ownF (sl v7a) a_next.Books]) ?_ ?_)))))))))
 refine wcg (wlq (v := .agg #[(sl v0a), (sl v1a), (sl v2a), (sl v3a), iv a_g.Round, iv a_g.Year]) (plb Zc pk2 R R R) R (bdO t1 fun v1 hv1 t1 => (wlc (cz0 Zka R fun w hw => ZbS w a_g v0a (ra r0 hw) v1a (ra r1 hw) v2a u2a (ra r2 hw) v3a (ra r3 hw) hv1) R fun _ => (wlq (Zd R) R (mv R R (wlo (t := 11) t1 R (fun h1 t1 => ?_) fun h1 t1 => ?_))))))
 exact wgf (j := 3) R R R R R (wgf (j := 3) R R R R R (wlq (pit R R) R (mv R R (wgf (j := 7) R R R R R (wgf (j := 7) R R R R R (wgf (j := 7) R R R R R (wlq (pit R R) R (wln (wjm _ () (mtE t1) (su4 R R R R) so7)))))))))
 refine wgn (j := 3) R R R (mv R R (wgn (j := 3) R R R (wlq (Zd R) R (wlq (pif R R) R (mv R R (wlo (t := 15) t1 R (fun h2 t1 => ?_) fun h2 t1 => ?_))))))
 exact wgf (j := 7) R R R R R (wgf (j := 7) R R R R R (wgf (j := 7) R R R R R (wlq (pit R R) R (wln (wjm _ () (mtE t1) (su4 R R R R) so7)))))
 exact wgn (j := 7) R R R (wlq (v := .agg #[(sl v4a), (sl v5a), (sl v6a), (sl v7a), iv a_next.Round, iv a_next.Year]) (plb Zc pk1 R R R) R (bdO t1 fun v2 hv2 t1 => (wgn (j := 7) R R R (wlc (cz0 Zka R fun w hw => ZbS w a_next v4a (Rg.on (rgo pk3) hw) v5a (Rg.on (rgo pk4) hw) v6a u6a (Rg.on (rgo pk5) hw) v7a (Rg.on (rgo pk6) hw) hv2) R (fun _ => (wgn (j := 7) R R R (wlq (Zd R) R (wlq (pif R R) R (wln (wjm _ () (mtE t1) (su4 R R R R) so7))))))))))
 intro j1 _ hp
 obtain rfl : j1 = y1 := hp.symm
 refine wqt (wcO t0 R (fun h3 t0 => ?_) fun h3 t0 => ?_)
 refine wcr (wlq (v := .agg #[(sl v0a), (sl v1a), (sl v2a), (sl v3a), iv a_g.Round, iv a_g.Year]) (plb Zc pk2 R R R) R (bdO t0 fun v3 hv3 t0 => (wlc (ZaM Zg0 R fun w hw => Z1 w a_g v0a (ra r0 hw) v1a (ra r1 hw) v2a u2a (ra r2 hw) v3a (ra r3 hw) hv3) R fun x2 => (wls (sbx (cs' := [(sl x2.1), (sl x2.2.1), (sl x2.2.2.1), (sl x2.2.2.2.2), iv v3.Round, iv v3.Year]) Zc pk4 R R R R R R R) (asg R R (wnt (wct (wqr ?_))))))))
 obtain rfl := oi t0
 exact ZG R Zc R R pz R fun w hw => ⟨(x2.1, x2.2.1, x2.2.2.1, x2.2.2.2.1, x2.2.2.2.2), R, hw.weak (zc pk1 (zc pk1 (zc pk1 (zc pk1 zn))))⟩
 refine wck (wqt (wcr (wlq (v := .agg #[(sl v4a), (sl v5a), (sl v6a), (sl v7a), iv a_next.Round, iv a_next.Year]) (plb Zc pk1 R R R) R (wls (sbx (cs' := [(sl v4a), (sl v5a), (sl v6a), (sl v7a), iv a_next.Round, iv a_next.Year]) Zc pz R R R R R R R) (asg R R (wnt (wct ?_)))))))
 obtain rfl := oi t0
 exact ZG R Zc R R pz R fun w hw => ⟨(v4a, v5a, v6a, u6a, v7a), R, hw.weak (zc pk3 (zc pk3 (zc pk3 (zc pk3 zn))))⟩

theorem Zmw (w : World) (a_g : GGuild) (v0a : Hd) (r0 : rdF w (dm w []) (sl v0a) a_g.Members) (v1a : Hd) (r1 : rdF w (dm w []) (sl v1a) a_g.Stock) (v2a : Hd) (u2a : List Value) (r2 : RdL w (dm w []) (sl v2a) u2a a_g.Entries) (v3a : Hd) (r3 : rdF w (dm w []) (sl v3a) a_g.Books) (a_number : Int) {r : GGuild × Bool} (t0 : Zds a_g a_number = some r) : Calls Tryz.prog 24 #[.agg #[(sl v0a), (sl v1a), (sl v2a), (sl v3a), .int .i64 a_g.Round, .int .i64 a_g.Year], .int .i64 a_number] w fun e w' => ∃ x : Hd × Hd × Hd × (List Value) × Hd, e = .returned (.tuple #[.agg #[(sl x.1), (sl x.2.1), (sl x.2.2.1), (sl x.2.2.2.2), .int .i64 r.1.Round, .int .i64 r.1.Year], .bool r.2]) ∧ SH w [] [ownF (sl x.1) r.1.Members, ownF (sl x.2.1) r.1.Stock, own (sl x.2.2.1) x.2.2.2.1 r.1.Entries, ownF (sl x.2.2.2.2) r.1.Books] w' := by
 refine cwc (args := [_, _]) Tryz.func24 R Tryz.ntmps24 R ?_
 unfold Zds at t0
 refine wcr (wle (Zh R R) R fun b1 => (wle (eal (cs := [(sl hn), (sl hn), (sl hn), (sl hn), iv 0, iv 0]) ZF) R fun b2 => (asg R R (wnt (wcr (wlq (v := .agg #[(sl v0a), (sl v1a), (sl v2a), (sl v3a), iv a_g.Round, iv a_g.Year]) (plb Zc pk1 R R R) R (bdO t0 fun v1 hv1 t0 => (wlc (ZaM Zg0 R fun w hw => Z1 w a_g v0a (ra r0 hw) v1a (ra r1 hw) v2a u2a (ra r2 hw) v3a (ra r3 hw) hv1) R fun x1 => (wle (eal (cs := [(sl hn), (sl hn), (sl hn), (sl hn), iv 0, iv 0]) ZF) R fun b3 => (wls (sbx (cs' := [(sl x1.1), (sl x1.2.1), (sl x1.2.2.1), (sl x1.2.2.2.2), iv v1.Round, iv v1.Year]) Zc pz R R R R R R R) (asg R R (wnt (wcs (wcr (wlq (pof ZdB R) R (wlq (v := (sl v3a)) (plx Zg5 pk6 R R) R (wlq (pln (rga r3) Zge R) R (asg R R (wnt (wcr (mv R R (wlq (ZaD R R) R (wnt (bdO t0 fun y1 t1 t0 => (wj (J := Int) (X := Unit) (fun z => y1 = z) (fun z _ => [(1, iv a_number), (2, ptr b1 0), (4, ptr b2 0), (6, ptr b3 0), (7, iv z)]) (fun _ _ => [box b3 [(sl x1.1), (sl x1.2.1), (sl x1.2.2.1), (sl x1.2.2.2.2), iv v1.Round, iv v1.Year], box b2 [(sl hn), (sl hn), (sl hn), (sl hn), iv 0, iv 0], box b1 [(sl v0a), (sl v1a), (sl v2a), (sl v3a), iv a_g.Round, iv a_g.Year], ownF (sl x1.1) v1.Members, ownF (sl x1.2.1) v1.Stock, own (sl x1.2.2.1) x1.2.2.2.1 v1.Entries, ownF (sl x1.2.2.2.2) v1.Books]) ?_ ?_)))))))))))))))))))))))))
 refine wcO t1 R (fun h1 t1 => ?_) fun h1 t1 => ?_
 exact wcg (wlq (pof ZdB R) R (wlq (v := (sl v3a)) (plx Zg5 pk6 R R) R (mv R R (wlq (Zad R R) R (gdO t1 fun g1 t1 => (wlq (Z8 (rga r3) Zge R R g1.1 g1.2) R (wlq (Zak (rga r3) (ZK g1) ZhU R) R (wlq (v := iv ((gx a_g.Books (((wr (((a_g.Books.length : Nat) : Int) - 1))).toNat)).Day)) (ZD (rga r3) tk_3 R (ZK g1) R) R (asg R R (wln (wjm _ () (mtE t1) (su5 R R R R R) (zc pz (zc pk4 (zc pk4 so4))))))))))))))
 exact wck (wjm _ () (mtE t1) (su5 R R R R R) (zc pz (zc pk4 (zc pk4 so4))))
 intro j1 _ hp
 obtain rfl : j1 = y1 := hp.symm
 refine wqt (wcr (wlq (pof Zcl R) R (wlq (v := (sl x1.1)) (plx Zet pz R R) R (mv R R (wlq (pof ZeK R) R (wlq (v := iv a_g.Year) (plx tk_3 pk2 R R) R (bdO t0 fun v2 hv2 t0 => (wlc (cz1 Zxj R fun w hw => Zn9 w v1.Members x1.1 (Rg.on (rgo pk3) hw) a_number a_g.Year hv2) R fun x3 => (mv R R (wlq (pex R R) R (wlq (pex R R) R (asg R R (asg R R (wnt (wcr (mv R R (mv R R (bdO t0 fun v3 hv3 t0 => (wlc (cz1 ZxK R fun w hw => Zqg w v2.1 x3 (Rg.on (rgo pz) hw) a_number 1 hv3) R fun x4 => (mv R R (wlq (pex R R) R (wlq (pex R R) R (asg R R (asg R R (wnt (wcr (wlq (pof ZdB R) R (wlq (v := (sl x1.2.2.2.2)) (plx Zg5 pk2 R R) R (mv R R (wlq (Zk R (ZlX j1 0 1 20)) R (bdO t0 fun v4 hv4 t0 => (wlc (cz1 ZxA R fun w hw => Zp2 w v1.Books x1.2.2.2.2 (Rg.on (rgo pk8) hw) (GBooking.mk j1 0 1 20) hv4) R fun x5 => (mv R R (wlq (pex R R) R (wlq (pex R R) R (asg R R (asg R R (wnt (wcr ?_)))))))))))))))))))))))))))))))))))))))
 refine mv R R (mv R R (wlq (pof Zcl R) R (wls (sbx (cs' := [(sl x4), (sl x1.2.1), (sl x1.2.2.1), (sl x1.2.2.2.2), iv v1.Round, iv v1.Year]) Zet pk3 R R R R R R R) (wlq (pof ZdB R) R (wls (sbx (cs' := [(sl x4), (sl x1.2.1), (sl x1.2.2.1), (sl x5), iv v1.Round, iv v1.Year]) Zg5 pz R R R R R R R) (wnt (wcs (bdO t0 fun y1 t1 t0 => (wj (J := Bool × GGuild) (X := Hd × Hd × Hd × (List Value) × Hd) (fun z => y1 = z) (fun z _ => [(4, ptr b2 0), (5, .bool z.1)]) (fun z x => [box b2 [(sl x.1), (sl x.2.1), (sl x.2.2.1), (sl x.2.2.2.2), iv ((z.2).Round), iv ((z.2).Year)], ownF (sl x.1) ((z.2).Members), ownF (sl x.2.1) ((z.2).Stock), own (sl x.2.2.1) x.2.2.2.1 ((z.2).Entries), ownF (sl x.2.2.2.2) ((z.2).Books)]) ?_ ?_)))))))))
 refine wcg (wlq (v := .agg #[(sl v0a), (sl v1a), (sl v2a), (sl v3a), iv a_g.Round, iv a_g.Year]) (plb Zc pk5 R R R) R (wlq (v := .agg #[(sl x4), (sl x1.2.1), (sl x1.2.2.1), (sl x5), iv v1.Round, iv v1.Year]) (plb Zc pz R R R) R (mv R R (mv R R (wlo (t := 59) t1 R (fun h2 t1 => ?_) fun h2 t1 => ?_)))))
 refine wgn (j := 3) R R R (mv R R (wlq (pit R R) R (mv R R (wlo (t := 62) t1 R (fun h3 t1 => ?_) fun h3 t1 => ?_))))
 refine wgn (j := 6) R R R (mv R R (wlq (pit R R) R (mv R R (wlo (t := 65) t1 R (fun h4 t1 => ?_) fun h4 t1 => ?_))))
 exact wgn (j := 9) R R R (wlq (pof Zdz R) R (wgn (j := 9) R R R (wlq (v := iv a_g.Round) (plx tk_3 pk5 R R) R (wgn (j := 9) R R R (wlq (pol R R) R (wlq (pit R R) R (bdO t1 fun v5 hv5 t1 => (wlc (Zke [ownF (sl x4) v3.1, ownF (sl x1.2.1) v1.Stock, own (sl x1.2.2.1) x1.2.2.2.1 v1.Entries, ownF (sl x5) v4.1] Zkg (zc pk2 (zc pk6 (zc pk6 (zc pk1 Zz)))) R fun w fp hw => ZaR w fp a_g v0a ((Zt r0) w fp hw) v1a ((Zt r1) w fp hw) v2a u2a ((Zt r2) w fp hw) v3a ((Zt r3) w fp hw) (GGuild.mk v3.1 v1.Stock v1.Entries v4.1 v1.Round v1.Year) x4 x1.2.1 x1.2.2.1 x1.2.2.2.1 x5 (a_g.Round == 0) hw.ow hv5) R fun x7 => (wlq (pex R R) R (wlq (pex R R) R (wls (sbx (cs' := [(sl x7.1), (sl x7.2.1), (sl x7.2.2.1), (sl x7.2.2.2.2), iv v5.1.Round, iv v5.1.Year]) Zc pk6 R R R R R R R) (asg R R (wln (wjm _ (x7.1, x7.2.1, x7.2.2.1, x7.2.2.2.1, x7.2.2.2.2) (mtE t1) (su2 R R) so5))))))))))))))
 exact wgf (j := 9) R R R R R (wgf (j := 9) R R R R R (wgf (j := 9) R R R R R (wlq (pif R R) R (bdO t1 fun v6 hv6 t1 => (wlc (Zke [ownF (sl x4) v3.1, ownF (sl x1.2.1) v1.Stock, own (sl x1.2.2.1) x1.2.2.2.1 v1.Entries, ownF (sl x5) v4.1] Zkg (zc pk2 (zc pk6 (zc pk6 (zc pk1 Zz)))) R fun w fp hw => ZaR w fp a_g v0a ((Zt r0) w fp hw) v1a ((Zt r1) w fp hw) v2a u2a ((Zt r2) w fp hw) v3a ((Zt r3) w fp hw) (GGuild.mk v3.1 v1.Stock v1.Entries v4.1 v1.Round v1.Year) x4 x1.2.1 x1.2.2.1 x1.2.2.2.1 x5 false hw.ow hv6) R fun x8 => (wlq (pex R R) R (wlq (pex R R) R (wls (sbx (cs' := [(sl x8.1), (sl x8.2.1), (sl x8.2.2.1), (sl x8.2.2.2.2), iv v6.1.Round, iv v6.1.Year]) Zc pk6 R R R R R R R) (asg R R (wln (wjm _ (x8.1, x8.2.1, x8.2.2.1, x8.2.2.2.1, x8.2.2.2.2) (mtE t1) (su2 R R) so5)))))))))))
 exact wgf (j := 6) R R R R R (wlq (pif R R) R (mv R R (wgf (j := 9) R R R R R (wgf (j := 9) R R R R R (wgf (j := 9) R R R R R (wlq (pif R R) R (bdO t1 fun v7 hv7 t1 => (wlc (Zke [ownF (sl x4) v3.1, ownF (sl x1.2.1) v1.Stock, own (sl x1.2.2.1) x1.2.2.2.1 v1.Entries, ownF (sl x5) v4.1] Zkg (zc pk2 (zc pk6 (zc pk6 (zc pk1 Zz)))) R fun w fp hw => ZaR w fp a_g v0a ((Zt r0) w fp hw) v1a ((Zt r1) w fp hw) v2a u2a ((Zt r2) w fp hw) v3a ((Zt r3) w fp hw) (GGuild.mk v3.1 v1.Stock v1.Entries v4.1 v1.Round v1.Year) x4 x1.2.1 x1.2.2.1 x1.2.2.2.1 x5 false hw.ow hv7) R fun x9 => (wlq (pex R R) R (wlq (pex R R) R (wls (sbx (cs' := [(sl x9.1), (sl x9.2.1), (sl x9.2.2.1), (sl x9.2.2.2.2), iv v7.1.Round, iv v7.1.Year]) Zc pk6 R R R R R R R) (asg R R (wln (wjm _ (x9.1, x9.2.1, x9.2.2.1, x9.2.2.2.1, x9.2.2.2.2) (mtE t1) (su2 R R) so5))))))))))))))
 exact wgf (j := 3) R R R R R (wlq (pif R R) R (mv R R (wgf (j := 6) R R R R R (wlq (pif R R) R (mv R R (wgf (j := 9) R R R R R (wgf (j := 9) R R R R R (wgf (j := 9) R R R R R (wlq (pif R R) R (bdO t1 fun v8 hv8 t1 => (wlc (Zke [ownF (sl x4) v3.1, ownF (sl x1.2.1) v1.Stock, own (sl x1.2.2.1) x1.2.2.2.1 v1.Entries, ownF (sl x5) v4.1] Zkg (zc pk2 (zc pk6 (zc pk6 (zc pk1 Zz)))) R fun w fp hw => ZaR w fp a_g v0a ((Zt r0) w fp hw) v1a ((Zt r1) w fp hw) v2a u2a ((Zt r2) w fp hw) v3a ((Zt r3) w fp hw) (GGuild.mk v3.1 v1.Stock v1.Entries v4.1 v1.Round v1.Year) x4 x1.2.1 x1.2.2.1 x1.2.2.2.1 x5 false hw.ow hv8) R fun x10 => (wlq (pex R R) R (wlq (pex R R) R (wls (sbx (cs' := [(sl x10.1), (sl x10.2.1), (sl x10.2.2.1), (sl x10.2.2.2.2), iv v8.1.Round, iv v8.1.Year]) Zc pk6 R R R R R R R) (asg R R (wln (wjm _ (x10.1, x10.2.1, x10.2.2.1, x10.2.2.2.1, x10.2.2.2.2) (mtE t1) (su2 R R) so5)))))))))))))))))
 intro j2 x6 hp
 obtain rfl : j2 = y1 := hp.symm
 refine wqt (wct ?_)
 obtain rfl := oi t0
 exact ZG R Zc R R pz R fun w hw => ⟨(x6.1, x6.2.1, x6.2.2.1, x6.2.2.2.1, x6.2.2.2.2), R, hw.weak (zc pk1 (zc pk1 (zc pk1 (zc pk1 zn))))⟩

theorem ZiZ (w : World)  {r : GGuild} (t0 : ZbP = some r) : Calls Tryz.prog 9 #[] w fun e w' => ∃ x : Hd × Hd × Hd × (List Value) × Hd, e = .returned (.agg #[(sl x.1), (sl x.2.1), (sl x.2.2.1), (sl x.2.2.2.2), .int .i64 r.Round, .int .i64 r.Year]) ∧ SH w [] [ownF (sl x.1) r.Members, ownF (sl x.2.1) r.Stock, own (sl x.2.2.1) x.2.2.2.1 r.Entries, ownF (sl x.2.2.2.2) r.Books] w' := by
 refine cwc (args := []) Tryz.func9 R Tryz.ntmps9 R ?_
 unfold ZbP at t0
 refine wcr (wle (eal (cs := [(sl hn), (sl hn), (sl hn), (sl hn), iv 0, iv 0]) ZF) R fun b1 => (wnt (wcr (bdO t0 fun v1 hv1 t0 => (wlc (ZaM Zx7 R fun w hw => ZoT w 2020 hv1) R fun x1 => (mv R R (wlq (pex R R) R (wlq (pex R R) R (wle (eal (cs := [(sl hn), (sl hn), (sl hn), (sl hn), iv 0, iv 0]) ZF) R fun b2 => (wls (sbx (cs' := [(sl x1.1), (sl x1.2.1), (sl x1.2.2.1), (sl x1.2.2.2.2), iv v1.1.Round, iv v1.1.Year]) Zc pz R R R R R R R) (asg R R (wnt (wcs (wcr (asg R R (wnt (Zr t0 fun y1 l1 t0 => (wj (J := (List GMember) × (List Int) × (List GEntry) × (List GBooking) × Int × Int) (X := Hd × Hd × Hd × (List Value) × Hd) (fun z => y1 = z) (fun _ _ => [(0, ptr b1 0), (1, ptr b2 0)]) (fun z x => [box b2 [(sl x.1), (sl x.2.1), (sl x.2.2.1), (sl x.2.2.2.2), iv z.2.2.2.2.1, iv z.2.2.2.2.2], ownF (sl x.1) z.1, ownF (sl x.2.1) z.2.1, own (sl x.2.2.1) x.2.2.2.1 z.2.2.1, ownF (sl x.2.2.2.2) z.2.2.2.1, box b1 [(sl hn), (sl hn), (sl hn), (sl hn), iv 0, iv 0]]) ?_ ?_))))))))))))))))))
 refine wcb (wcf (X := Hd × Hd × Hd × (List Value) × Hd) l1 (fun k1 s1 x1l => [(0, ptr b1 0), (1, ptr b2 0), (3, iv (((k1 + 1) : Nat) : Int))]) (fun k1 s1 x1l => [box b2 [(sl x1l.1), (sl x1l.2.1), (sl x1l.2.2.1), (sl x1l.2.2.2.2), iv s1.2.2.2.2.1, iv s1.2.2.2.2.2], ownF (sl x1l.1) s1.1, ownF (sl x1l.2.1) s1.2.1, own (sl x1l.2.2.1) x1l.2.2.2.1 s1.2.2.1, ownF (sl x1l.2.2.2.2) s1.2.2.2.1, box b1 [(sl hn), (sl hn), (sl hn), (sl hn), iv 0, iv 0]]) (x1.1, x1.2.1, x1.2.2.1, x1.2.2.2.1, x1.2.2.2.2) (su3 R R R) so6 fun k1 s1 x1l hN1 l1 => ?_)
 by_cases hk1 : k1 < 3
 refine fos l1 hk1 fun _ t1 l1 => ?_
 unfold Zf6 at t1
 have c1 : (decide ((((k1 + 1) : Nat) : Int) ≤ 3)) = true := ddt (by omega)
 refine wcs (wcr (mv R R (wlq (Zdf R R) R (wnt (wft R c1 (wck (wqt (wcs (wcb (wcr (wlq (v := .agg #[(sl x1l.1), (sl x1l.2.1), (sl x1l.2.2.1), (sl x1l.2.2.2.2), iv s1.2.2.2.2.1, iv s1.2.2.2.2.2]) (plb Zc pz R R R) R (mv R R (bdO t1 fun v2 hv2 t1 => (wlc (ZaM Zvs R fun w hw => Zmw w (GGuild.mk s1.1 s1.2.1 s1.2.2.1 s1.2.2.2.1 s1.2.2.2.2.1 s1.2.2.2.2.2) x1l.1 (Rg.on (rgo pk1) hw) x1l.2.1 (Rg.on (rgo pk2) hw) x1l.2.2.1 x1l.2.2.2.1 (Rg.on (rgo pk3) hw) x1l.2.2.2.2 (Rg.on (rgo pk4) hw) (((k1 + 1) : Nat) : Int) hv2) R fun x3 => (mv R R (wlq (pex R R) R (wlq (pex R R) R (wle (eal (cs := [(sl hn), (sl hn), (sl hn), (sl hn), iv 0, iv 0]) ZF) R fun b3 => (wls (sbx (cs' := [(sl x3.1), (sl x3.2.1), (sl x3.2.2.1), (sl x3.2.2.2.2), iv v2.1.Round, iv v2.1.Year]) Zc pz R R R R R R R) (asg R R (wnt (wcg (wlq (v := .agg #[(sl x3.1), (sl x3.2.1), (sl x3.2.2.1), (sl x3.2.2.2.2), iv v2.1.Round, iv v2.1.Year]) (plb Zc pz R R R) R (wls (sbx (cs' := [(sl x3.1), (sl x3.2.1), (sl x3.2.2.1), (sl x3.2.2.2.2), iv v2.1.Round, iv v2.1.Year]) Zc pk5 R R R R R R R) (wln (wqb (wqt (wcg (mv R R (wlq (Zj R R (by omega)) R ?_))))))))))))))))))))))))))))))
 exact asg R R (wln (Zl hk1 (stpN l1 t1) (x3.1, x3.2.1, x3.2.2.1, x3.2.2.2.1, x3.2.2.2.2) (su3 R R R) (zc pz (zc pk1 (zc pk1 (zc pk1 (zc pk1 (zc pk5 zn))))))))
 have c1 : (decide ((((k1 + 1) : Nat) : Int) ≤ 3)) = false := ddf (by omega)
 have en1 := foe l1 hk1
 exact wcs (wcr (mv R R (wlq (Zdf R R) R (wnt (wff R c1 (wcx (wqe (wqe (wbx (wjm _ (x1l.1, x1l.2.1, x1l.2.2.1, x1l.2.2.2.1, x1l.2.2.2.2) (Sum.inl.inj en1) (su2 R R) so6))))))))))
 intro e1 x2 hp
 obtain rfl : e1 = y1 := hp.symm
 refine wqt (wcr (wlq (v := .agg #[(sl x2.1), (sl x2.2.1), (sl x2.2.2.1), (sl x2.2.2.2.2), iv e1.2.2.2.2.1, iv e1.2.2.2.2.2]) (plb Zc pz R R R) R (wls (sbx (cs' := [(sl x2.1), (sl x2.2.1), (sl x2.2.2.1), (sl x2.2.2.2.2), iv e1.2.2.2.2.1, iv e1.2.2.2.2.2]) Zc pk5 R R R R R R R) (wnt (wct ?_)))))
 obtain rfl := oi t0
 exact wqc R Zc R pz R fun w hw => ⟨(x2.1, x2.2.1, x2.2.2.1, x2.2.2.2.1, x2.2.2.2.2), R, hw.weak (zc pk2 (zc pk2 (zc pk2 (zc pk2 zn))))⟩

theorem ZhB (w : World) (a_a : Int) {r : GCell} (t0 : ZcJ a_a = some r) : Calls Tryz.prog 82 #[.int .i64 a_a] w fun e w' => e = .returned (.agg #[.int .i64 r.Split, .int .i64 r.A, .int .i64 r.B]) ∧ SH w [] [] w' := by
 refine cwc (args := [_]) Tryz.func82 R Tryz.ntmps82 R ?_
 unfold ZcJ at t0
 refine wcr (wle (eal (cs := [iv 0, iv 0, iv 0]) Zbj) R fun b1 => (wnt (wcs (wcr (mv R R (bdO t0 fun v1 hv1 t0 => (wlc (cz0 Zpg R fun w hw => ZgQ w a_a hv1) R fun _ => (wlq (Zd R) R (wnt (wcO t0 R (fun h1 t0 => ?_) fun h1 t0 => ?_))))))))))
 refine wcr (wlq (Zk R ZgH) R (wls (sbx (cs' := [iv 0, iv 0, iv 0]) Zf pz R R R R R R R) (wnt (wct (wqr ?_)))))
 obtain rfl := oi t0
 exact wqc R Zf R pz R fun w hw => ⟨R, hw.weak zn⟩
 refine wck (wqt (wcr (mv R R (mv R R (wlq (Zk R (ZpJ a_a a_a)) R (wls (sbx (cs' := [iv 0, iv a_a, iv a_a]) Zf pz R R R R R R R) (wnt (wct ?_))))))))
 obtain rfl := oi t0
 exact wqc R Zf R pz R fun w hw => ⟨R, hw.weak zn⟩

theorem Zcy (w : World) (a_split : Int) (a_a : Int) (a_b : Int) {r : GCell} (t0 : Zbc a_split a_a a_b = some r) : Calls Tryz.prog 81 #[.int .i64 a_split, .int .i64 a_a, .int .i64 a_b] w fun e w' => e = .returned (.agg #[.int .i64 r.Split, .int .i64 r.A, .int .i64 r.B]) ∧ SH w [] [] w' := by
 refine cwc (args := [_, _, _]) Tryz.func81 R Tryz.ntmps81 R ?_
 unfold Zbc at t0
 refine wcr (wle (eal (cs := [iv 0, iv 0, iv 0]) Zbj) R fun b1 => (wnt (wcs (wcr (mv R R (mv R R (wlq (pol R R) R (wnt (wcO t0 R (fun h1 t0 => ?_) fun h1 t0 => ?_)))))))))
 refine wcr (mv R R (bdO t0 fun v1 hv1 t0 => (wlc (cz0 Zte R fun w hw => ZhB w a_a hv1) R fun _ => (wls (sbx (cs' := [iv v1.Split, iv v1.A, iv v1.B]) Zf pz R R R R R R R) (wnt (wct (wqr ?_)))))))
 obtain rfl := oi t0
 exact wqc R Zf R pz R fun w hw => ⟨R, hw.weak zn⟩
 refine wck (wqt (wcr (mv R R (mv R R (mv R R (wlq (Zk R (ZcV a_split a_a a_b)) R (wle (eal (cs := [iv 0, iv 0, iv 0]) Zbj) R fun b2 => (wls (sbx (cs' := [iv a_split, iv a_a, iv a_b]) Zf pz R R R R R R R) (wnt (wcs (wcr (wlq (v := .agg #[iv a_split, iv a_a, iv a_b]) (plb Zf pz R R R) R (bdO t0 fun v2 hv2 t0 => (wlc (cz0 Zib R fun w hw => Za9 w (GCell.mk a_split a_a a_b) hv2) R fun _ => (wlq (Zd R) R (wnt (wcO t0 R (fun h2 t0 => ?_) fun h2 t0 => ?_)))))))))))))))))
 refine wcr (wlq (Zk R ZgH) R (wls (sbx (cs' := [iv 0, iv 0, iv 0]) Zf pk1 R R R R R R R) (wnt (wct (wqr ?_)))))
 obtain rfl := oi t0
 exact wqc R Zf R pz R fun w hw => ⟨R, hw.weak zn⟩
 refine wck (wqt (wcr (wlq (v := .agg #[iv a_split, iv a_a, iv a_b]) (plb Zf pz R R R) R (wls (sbx (cs' := [iv a_split, iv a_a, iv a_b]) Zf pk1 R R R R R R R) (wnt (wct ?_))))))
 obtain rfl := oi t0
 exact wqc R Zf R pz R fun w hw => ⟨R, hw.weak zn⟩

theorem Zoy (w : World)  {r : GBlock} (t0 : ZgO = some r) : Calls Tryz.prog 78 #[] w fun e w' => ∃ x : Hd, e = .returned (.agg #[.int .i64 r.Size, (sl x)]) ∧ SH w [] [ownF (sl x) r.Cells] w' := by
 refine cwc (args := []) Tryz.func78 R Tryz.ntmps78 R ?_
 unfold ZgO at t0
 refine wcr (wle (eal (cs := [iv 0, (sl hn)]) Zav) R fun b1 => (wnt (wcr (bdO t0 fun v1 hv1 t0 => (wlc (cz0 Zte R fun w hw => ZhB w 1 hv1) R fun _ => (wle (eal (cs := [iv 0, iv 0, iv 0]) Zbj) R fun b2 => (wls (sbx (cs' := [iv v1.Split, iv v1.A, iv v1.B]) Zf pz R R R R R R R) (wnt (wcs (wcd [box b2 [iv v1.Split, iv v1.A, iv v1.B], box b1 [iv 0, (sl hn)]] 11 mixed (aq (v := .agg #[iv v1.Split, iv v1.A, iv v1.B]) 1 R (plb Zf pz R R R) so2 R (aq (v := .agg #[iv v1.Split, iv v1.A, iv v1.B]) 3 R (plb Zf pz R R R) so2 R (aq (v := .agg #[iv v1.Split, iv v1.A, iv v1.B]) 4 R (plb Zf pz R R R) so2 R (aq (v := .agg #[iv v1.Split, iv v1.A, iv v1.B]) 5 R (plb Zf pz R R R) so2 R (aq (v := .agg #[iv v1.Split, iv v1.A, iv v1.B]) 7 R (plb Zf pz R R R) so2 R (a1 0 (bdO t0 fun v2 hv2 t0 => (wsc R (cz0 Zng R fun w hw => Zcy w 1 0 1 hv2) (fun _ => (zt so2)) R fun _ => (a1 2 (bdO t0 fun v3 hv3 t0 => (wsc R (cz0 Zng R fun w hw => Zcy w 2 1 0 hv3) (fun _ => (zt so2)) R fun _ => (a1 6 (bdO t0 fun v4 hv4 t0 => (wsc R (cz0 Zng R fun w hw => Zcy w 2 0 1 hv4) (fun _ => (zt so2)) R fun _ => (a1 8 (bdO t0 fun v5 hv5 t0 => (wsc R (cz0 Zng R fun w hw => Zcy w 1 1 0 hv5) (fun _ => (zt so2)) R fun _ => (a1 9 (wse R (ebs (qs := [(0, .agg #[iv v2.Split, iv v2.A, iv v2.B]), (1, .agg #[iv v1.Split, iv v1.A, iv v1.B]), (2, .agg #[iv v3.Split, iv v3.A, iv v3.B]), (3, .agg #[iv v1.Split, iv v1.A, iv v1.B]), (4, .agg #[iv v1.Split, iv v1.A, iv v1.B]), (5, .agg #[iv v1.Split, iv v1.A, iv v1.B]), (6, .agg #[iv v4.Split, iv v4.A, iv v4.B]), (7, .agg #[iv v1.Split, iv v1.A, iv v1.B]), (8, .agg #[iv v5.Split, iv v5.A, iv v5.B])]) R (Zv5 v2.Split v2.A v2.B v1.Split v1.A v1.B v3.Split v3.A v3.B v1.Split v1.A v1.B v1.Split v1.A v1.B v1.Split v1.A v1.B v4.Split v4.A v4.B v1.Split v1.A v1.B v5.Split v5.A v5.B)) (fun _ => (zt (zc pk1 (zc pk1 zn)))) R fun b3 => (aq 10 R (Zk R (ZmK 3 (⟨some ⟨b3, 0, none⟩, 9, 9⟩ : Hd))) (zc pk1 (zc pk1 zn)) R (a1 11 (ZU R (sbx (cs' := [iv 3, (sl (⟨some ⟨b3, 0, none⟩, 9, 9⟩ : Hd))]) Zb pk2 R R R R R R R) (Zaw (by kernel_rfl)) ?_))))))))))))))))))))))))))))))))
 refine ae (wqt (wct ?_))
 obtain rfl := oi t0
 exact wqc R Zb R pz R fun w hw => ⟨(⟨some ⟨b3, 0, none⟩, 9, 9⟩ : Hd), R, hw.weak (zc (pbo pk1 (n := 9) (xs := ([v2, v1, v3, v1, v1, v1, v4, v1, v5] : List GCell)) R R (by unfold maxLen; omega)) zn)⟩

theorem ZkK (w : World) (a_x : Int) (a_y : Int) (c_p2 : Int) (b2c : Nat) (q2 : Bx w b2c [.int .i64 c_p2]) {r : GCell} (t0 : ZdW a_x a_y c_p2 = some r) : Calls Tryz.prog 80 #[.int .i64 a_x, .int .i64 a_y, ptr b2c 0] w fun e w' => e = .returned (.agg #[.int .i64 r.Split, .int .i64 r.A, .int .i64 r.B]) ∧ SH w [] [] w' := by
 refine cwc (args := [_, _, _]) Tryz.func80 R Tryz.ntmps80 R ?_
 unfold ZdW at t0
 refine wcr (wle (eal (cs := [iv 0, iv 0, iv 0]) Zbj) R fun b1 => (wnt (wcs (wcr (mv R R (wlq (Zcu R R) R (mv R R (wlq (Z4 R R) R (wlq (v := iv c_p2) (ZgC q2 tk_3 R R) R (wlq (Zia R R (by decide)) R ?_))))))))))
 refine wlq (pls R R) R (wnt (wcO t0 R (fun h1 t0 => ?_) fun h1 t0 => ?_))
 refine wcr (bdO t0 fun v1 hv1 t0 => (wlc (cz0 Zng R fun w hw => Zcy w 1 0 1 hv1) R fun _ => (wls (sbx (cs' := [iv v1.Split, iv v1.A, iv v1.B]) Zf pz R R R R R R R) (wnt (wct (wqr ?_))))))
 obtain rfl := oi t0
 exact wqc R Zf R pz R fun w hw => ⟨R, hw.weak zn⟩
 refine wck (wqt (wcr (wlq (v := iv c_p2) (ZgC q2 tk_3 R R) R (wlq (Zk1 R R (by decide)) R ?_))))
 refine wlq (Z4 R R) R (bdO t0 fun v2 hv2 t0 => (wlc (cz0 Zte R fun w hw => ZhB w (wr ((wr (c_p2.tdiv 5)) + 1)) hv2) R fun _ => (wls (sbx (cs' := [iv v2.Split, iv v2.A, iv v2.B]) Zf pz R R R R R R R) (wnt (wct ?_)))))
 obtain rfl := oi t0
 exact wqc R Zf R pz R fun w hw => ⟨R, hw.weak zn⟩

theorem ZiM (w : World) (a_size : Int) (a_one : Int → Int → Option GCell) (f1 : Nat) (us1 : List Value) (fn1 : FnAt Tryz.prog f1) (hg1 : ∀ (w' : World) (z0 : Int) (z1 : Int) (_ : Keep [] w w') (z : GCell) (_ : a_one z0 z1 = some z), Calls Tryz.prog f1 (([.int .i64 z0, .int .i64 z1] : List Value) ++ us1).toArray w' fun e w'' => e = .returned (.agg #[.int .i64 z.Split, .int .i64 z.A, .int .i64 z.B]) ∧ SH w' [] [] w'') {r : GBlock} (t0 : Ze5 a_size a_one = some r) : Calls Tryz.prog 79 #[.int .i64 a_size, .func (.func f1) #[] us1.toArray] w fun e w' => ∃ x : Hd, e = .returned (.agg #[.int .i64 r.Size, (sl x)]) ∧ SH w [] [ownF (sl x) r.Cells] w' := by
 refine cwc (args := [_, _]) Tryz.func79 R Tryz.ntmps79 R ?_
 unfold Ze5 at t0
 refine wcr (wle (eal (cs := [iv 0, (sl hn)]) Zav) R fun b1 => (wnt (wcr (mv R R (wlq (Zk R (ZkZ a_size)) R (wle (eal (cs := [iv 0, (sl hn)]) Zav) R fun b2 => (wls (sbx (cs' := [iv a_size, (sl hn)]) Zb pz R R R R R R R) (wnt (wcs (wcr (mv R R (mv R R (wnt (gdO t0 fun g1 t0 => (Zr t0 fun y1 l1 t0 => (wj (J := List GCell) (X := Hd) (fun z => y1 = z) (fun _ _ => [(4, ptr b1 0), (5, ptr b2 0)]) (fun z x => [box b2 [iv a_size, (sl x)], box b1 [iv 0, (sl hn)], ownF (sl x) z]) ?_ ?_))))))))))))))))
 refine wcb (wcf (X := Hd) l1 (fun k1 s1 x1l => [(0, iv a_size), (1, .func (.func f1) #[] us1.toArray), (4, ptr b1 0), (5, ptr b2 0), (10, iv a_size), (11, iv ((k1 : Nat) : Int))]) (fun k1 s1 x1l => [box b2 [iv a_size, (sl x1l)], box b1 [iv 0, (sl hn)], ownF (sl x1l) s1]) hn (su6 R R R R R R) (zc pz (zc pz (zc ZB zn))) fun k1 s1 x1l hN1 l1 => ?_)
 by_cases hk1 : k1 < (a_size).toNat
 refine fos l1 hk1 fun _ t1 l1 => ?_
 unfold Zik at t1
 have c1 : (decide (((k1 : Nat) : Int) < a_size)) = true := ddt (by omega)
 refine wcr (wlq (pls R R) R (wnt (wcs (wft R c1 (wck (wqt (wcs (wcb (wcr (mv R R (asg R R (wnt (wcr (mv R R (mv R R (wnt (Zr t1 fun y2 l2 t1 => (wj (J := List GCell) (X := Hd) (fun z => y2 = z) (fun _ _ => [(0, iv a_size), (1, .func (.func f1) #[] us1.toArray), (4, ptr b1 0), (5, ptr b2 0), (10, iv a_size), (11, iv ((k1 : Nat) : Int))]) (fun z x => [box b2 [iv a_size, (sl x)], box b1 [iv 0, (sl hn)], ownF (sl x) z]) ?_ ?_))))))))))))))))))
 refine wcb (wcf (X := Hd) l2 (fun k2 s2 x2l => [(0, iv a_size), (1, .func (.func f1) #[] us1.toArray), (4, ptr b1 0), (5, ptr b2 0), (6, iv ((k1 : Nat) : Int)), (10, iv a_size), (11, iv ((k1 : Nat) : Int)), (14, iv a_size), (15, iv ((k2 : Nat) : Int))]) (fun k2 s2 x2l => [box b2 [iv a_size, (sl x2l)], box b1 [iv 0, (sl hn)], ownF (sl x2l) s2]) x1l (su9 R R R R R R R R R) so3 fun k2 s2 x2l hN2 l2 => ?_)
 by_cases hk2 : k2 < (a_size).toNat
 refine fos l2 hk2 fun _ t2 l2 => ?_
 unfold Zig at t2
 have c2 : (decide (((k2 : Nat) : Int) < a_size)) = true := ddt (by omega)
 refine wcr (wlq (pls R R) R (wnt (wcs (wft R c2 (wck (wqt (wcs (wcb (wcr (mv R R (asg R R (wnt (wcd [box b2 [iv a_size, (sl x2l)], box b1 [iv 0, (sl hn)]] 9 mixed (aq 0 R (pof Zx R) so2 R (aq (v := (sl x2l)) 1 R (plx ZR pz R R) so2 R (aq 2 R (pom R) so2 R (aq 3 R (pom R) so2 R (aq 4 R (pom R) so2 R (a1 5 (bdO t2 fun v1 hv1 t2 => (wsc R (co_d fn1 R R fun w hw => hg1 w ((k2 : Nat) : Int) ((k1 : Nat) : Int) hw.keep _ hv1) (fun _ => (zt so2)) R fun _ => (a1 6 (wse R (ebs R (Zk3 v1.Split v1.A v1.B)) (fun _ => (zt (zc pk1 (zc pk1 zn)))) R fun b3 => (a1 7 (gdO t2 fun g2 t2 => (wse R (Zg (xs := s2) (ys := ([v1] : List GCell)) Zlo pk3 R R (Zi fun _ g => Rg.on (rgo (pbo pz (n := 1) (xs := ([v1] : List GCell)) R R (by unfold maxLen; omega))) g) g2) (fun _ => (zt (zc pk2 (zc pk2 zn)))) R fun x3 => ?_))))))))))))))))))))))))))
 refine aq 8 R (pof Zx R) (zc pk2 (zc pk2 zn)) R (a1 9 (ZU R (sbx (cs' := [iv a_size, (sl x3)]) ZR pk2 R R R R R R R) (Zaw (by kernel_rfl)) ?_))
 refine ae (wqb (wqt (wcg (wlq (Zj R R (by omega)) R ?_))))
 exact mv R R (wln (Zl hk2 (stpN l2 t2) x3 (su9 R R R R R R R R R) (zc pz (zc pk2 so1))))
 have c2 : (decide (((k2 : Nat) : Int) < a_size)) = false := ddf (by omega)
 have en1 := foe l2 hk2
 exact wcr (wlq (pls R R) R (wnt (wcs (wff R c2 (wcx (wqe (wqe (wbx (wjm _ x2l (Sum.inl.inj en1) (su6 R R R R R R) so3)))))))))
 intro e2 x2 hp
 obtain rfl : e2 = y2 := hp.symm
 refine wqb (wqt (wcg (wlq (Zj R R (by omega)) R ?_)))
 exact mv R R (wln (Zl hk1 (stpN l1 t1) x2 (su6 R R R R R R) so3))
 have c1 : (decide (((k1 : Nat) : Int) < a_size)) = false := ddf (by omega)
 have en2 := foe l1 hk1
 exact wcr (wlq (pls R R) R (wnt (wcs (wff R c1 (wcx (wqe (wqe (wbx (wjm _ x1l (Sum.inl.inj en2) (su2 R R) so3)))))))))
 intro e1 x1 hp
 obtain rfl : e1 = y1 := hp.symm
 refine wqt (wcr (wlq (v := .agg #[iv a_size, (sl x1)]) (plb Zb pz R R R) R (wls (sbx (cs' := [iv a_size, (sl x1)]) Zb pk1 R R R R R R R) (wnt (wct ?_)))))
 obtain rfl := oi t0
 exact wqc R Zb R pz R fun w hw => ⟨x1, R, hw.weak (zc pk2 zn)⟩

theorem ZmR (w : World) (a_n : Int) {r : GBlock} (t0 : ZdJ a_n = some r) : Calls Tryz.prog 48 #[.int .i64 a_n] w fun e w' => ∃ x : Hd, e = .returned (.agg #[.int .i64 r.Size, (sl x)]) ∧ SH w [] [ownF (sl x) r.Cells] w' := by
 refine cwc (args := [_]) Tryz.func48 R Tryz.ntmps48 R ?_
 unfold ZdJ at t0
 refine wcr (wle (Zh R R) R fun b1 => (wle (eal (cs := [iv 0, (sl hn)]) Zav) R fun b2 => (wnt (wcs (wcb (wcr (wlq (v := iv a_n) (plx tk_3 pk1 R R) R (wlq (pol R R) R (asg R R (wnt (wcO t0 R (fun h1 t0 => ?_) fun h1 t0 => ?_)))))))))))
 refine wcr (bdO t0 fun v1 hv1 t0 => (wlc (cz1 ZxU R fun w hw => Zoy w hv1) R fun x1 => (wls (sbx (cs' := [iv v1.Size, (sl x1)]) Zb pk1 R R R R R R R) (wnt (wct (wbr (wqr ?_)))))))
 obtain rfl := oi t0
 exact wqc R Zb R pz R fun w hw => ⟨x1, R, hw.weak (zc pk1 zn)⟩
 refine wcr (wlq (v := iv a_n) (plx tk_3 pk1 R R) R (bdO t0 fun v2 hv2 t0 => (wlc (cz0 ZaI R fun w hw => Zo w a_n 1 9 hv2) R fun _ => (wlq (Zd R) R (asg R R (wnt (wcO t0 R (fun h2 t0 => ?_) fun h2 t0 => ?_)))))))
 refine wcr (wlq (Zk R ZiJ) R (wls (sbx (cs' := [iv 0, (sl hn)]) Zb pz R R R R R R R) (wnt (wct (wbr (wqr ?_))))))
 obtain rfl := oi t0
 exact wqc R Zb R pz R fun w hw => ⟨hn, R, hw.weak (zc ZB zn)⟩
 refine wck (wqb (wqt (wcr (wlq (ZiL R) R (bdO t0 fun v3 hv3 t0 => (wlc (cz1 Zrd R fun w hw => ZiM w 2 (fun z0 z1 => ZdW z0 z1 a_n) 80 [ptr b1 0] ZxW (fun w2 z0 z1  hk _ hz => ZkK w2 z0 z1 a_n b1 (Bx.keep (hw.at_box pk1) hk) hz) hv3) R fun x2 => (wls (sbx (cs' := [iv v3.Size, (sl x2)]) Zb pk1 R R R R R R R) (wnt (wct ?_)))))))))
 obtain rfl := oi t0
 exact wqc R Zb R pz R fun w hw => ⟨x2, R, hw.weak (zc pk1 zn)⟩

theorem ZlK (w : World) (a_b : GBlock) (v0a : Hd) (r0 : rdF w (dm w []) (sl v0a) a_b.Cells) (a_x : Int) (a_y : Int) {r : Bool} (t0 : ZcS a_b a_x a_y = some r) : Calls Tryz.prog 88 #[.agg #[.int .i64 a_b.Size, (sl v0a)], .int .i64 a_x, .int .i64 a_y] w fun e w' => e = .returned (.bool r) ∧ SH w [] [] w' := by
 refine cwc (args := [_, _, _]) Tryz.func88 R Tryz.ntmps88 R ?_
 unfold ZcS at t0
 refine wcr (wle (Zh R R) R fun b1 => (asg R R (wnt (wcs (bdO t0 fun y1 t1 t0 => (wj (J := Bool) (X := Unit) (fun z => y1 = z) (fun z _ => [(6, .bool z)]) (fun _ _ => []) ?_ ?_))))))
 refine wcg (wlq (v := .agg #[iv a_b.Size, (sl v0a)]) (plb Zb pz R R R) R (bdO t1 fun v1 hv1 t1 => (wlc (cz0 Zd2 R fun w hw => ZZ w a_b v0a (ra r0 hw) hv1) R fun _ => (mv R R (wlo (t := 9) t1 R (fun h1 t1 => ?_) fun h1 t1 => ?_)))))
 refine wgn (j := 2) R R R (mv R R (wgn (j := 2) R R R (wlq (pof ZL R) R (wgn (j := 2) R R R (wlq (v := iv a_b.Size) (plx tk_3 pz R R) R (wgn (j := 2) R R R (wlq (Zad R R) R (bdO t1 fun v2 hv2 t1 => (wgn (j := 2) R R R (wlc (cz0 ZaI R fun w hw => Zo w a_x 0 (wr (a_b.Size - 1)) hv2) R (fun _ => (wlq (pit R R) R (mv R R (wlo (t := 16) t1 R (fun h2 t1 => ?_) fun h2 t1 => ?_))))))))))))))
 exact wgn (j := 9) R R R (mv R R (wgn (j := 9) R R R (wlq (pof ZL R) R (wgn (j := 9) R R R (wlq (v := iv a_b.Size) (plx tk_3 pz R R) R (wgn (j := 9) R R R (wlq (Zad R R) R (bdO t1 fun v3 hv3 t1 => (wgn (j := 9) R R R (wlc (cz0 ZaI R fun w hw => Zo w a_y 0 (wr (a_b.Size - 1)) hv3) R (fun _ => (wlq (pit R R) R (asg R R (wln (wjm _ () (mtE t1) (su1 R) zn)))))))))))))))
 exact wgf (j := 9) R R R R R (wgf (j := 9) R R R R R (wgf (j := 9) R R R R R (wgf (j := 9) R R R R R (wgf (j := 9) R R R R R (wlq (pif R R) R (asg R R (wln (wjm _ () (mtE t1) (su1 R) zn))))))))
 exact wgf (j := 2) R R R R R (wgf (j := 2) R R R R R (wgf (j := 2) R R R R R (wgf (j := 2) R R R R R (wgf (j := 2) R R R R R (wlq (pif R R) R (mv R R (wgf (j := 9) R R R R R (wgf (j := 9) R R R R R (wgf (j := 9) R R R R R (wgf (j := 9) R R R R R (wgf (j := 9) R R R R R (wlq (pif R R) R (asg R R (wln (wjm _ () (mtE t1) (su1 R) zn)))))))))))))))
 intro j1 _ hp
 obtain rfl : j1 = y1 := hp.symm
 refine wqt (wct ?_)
 obtain rfl := oi t0
 exact wq1 R R fun w hw => ⟨R, hw.weak zn⟩

theorem Zhv (w : World) (a_b : GBlock) (v0a : Hd) (r0 : rdF w (dm w []) (sl v0a) a_b.Cells) (a_x : Int) (a_y : Int) {r : GCell} (t0 : Zdv a_b a_x a_y = some r) : Calls Tryz.prog 60 #[.agg #[.int .i64 a_b.Size, (sl v0a)], .int .i64 a_x, .int .i64 a_y] w fun e w' => e = .returned (.agg #[.int .i64 r.Split, .int .i64 r.A, .int .i64 r.B]) ∧ SH w [] [] w' := by
 refine cwc (args := [_, _, _]) Tryz.func60 R Tryz.ntmps60 R ?_
 unfold Zdv at t0
 refine wcr (wle (Zh R R) R fun b1 => (wle (eal (cs := [iv 0, iv 0, iv 0]) Zbj) R fun b2 => (wnt (wcs (wcr (wlq (v := .agg #[iv a_b.Size, (sl v0a)]) (plb Zb pk1 R R R) R (mv R R (mv R R (bdO t0 fun v1 hv1 t0 => (wlc (cz0 Zxt R fun w hw => ZlK w a_b v0a (ra r0 hw) a_x a_y hv1) R fun _ => (wlq (Zd R) R (wnt (wcO t0 R (fun h1 t0 => ?_) fun h1 t0 => ?_)))))))))))))
 refine wcr (wlq (Zk R ZgH) R (wls (sbx (cs' := [iv 0, iv 0, iv 0]) Zf pz R R R R R R R) (wnt (wct (wqr ?_)))))
 obtain rfl := oi t0
 exact wqc R Zf R pz R fun w hw => ⟨R, hw.weak zn⟩
 refine wck (wqt (wcr (wlq (pof Zx R) R (wlq (v := (sl v0a)) (plx ZR pk1 R R) R (mv R R (wlq (pof ZL R) R (wlq (v := iv a_b.Size) (plx tk_3 pk1 R R) R (wlq (Zcu R R) R (mv R R (wlq (Z4 R R) R (gdO t0 fun g1 t0 => (wlq (Z8 (rga r0) Z7 R R g1.1 g1.2) R (wlq (v := .agg #[iv ((gx a_b.Cells (((wr ((wr (a_y * a_b.Size)) + a_x))).toNat)).Split), iv ((gx a_b.Cells (((wr ((wr (a_y * a_b.Size)) + a_x))).toNat)).A), iv ((gx a_b.Cells (((wr ((wr (a_y * a_b.Size)) + a_x))).toNat)).B)]) (ZaB (rga r0) Zf R (ZK g1) R R R) R (wls (sbx (cs' := [iv ((gx a_b.Cells (((wr ((wr (a_y * a_b.Size)) + a_x))).toNat)).Split), iv ((gx a_b.Cells (((wr ((wr (a_y * a_b.Size)) + a_x))).toNat)).A), iv ((gx a_b.Cells (((wr ((wr (a_y * a_b.Size)) + a_x))).toNat)).B)]) Zf pz R R R R R R R) (wnt (wct ?_))))))))))))))))
 obtain rfl := oi t0
 exact wqc R Zf R pz R fun w hw => ⟨R, hw.weak zn⟩

theorem Znu (w : World) (a_c : GCell) {r : GCell} (t0 : Zen a_c = some r) : Calls Tryz.prog 202 #[.agg #[.int .i64 a_c.Split, .int .i64 a_c.A, .int .i64 a_c.B]] w fun e w' => e = .returned (.agg #[.int .i64 r.Split, .int .i64 r.A, .int .i64 r.B]) ∧ SH w [] [] w' := by
 refine cwc (args := [_]) Tryz.func202 R Tryz.ntmps202 R ?_
 unfold Zen at t0
 refine wcr (wle (Zh R R) R fun b1 => (wle (eal (cs := [iv 0, iv 0, iv 0]) Zbj) R fun b2 => (wnt (wcs (wcb (wcr (wlq (v := .agg #[iv a_c.Split, iv a_c.A, iv a_c.B]) (plb Zf pk1 R R R) R (bdO t0 fun v1 hv1 t0 => (wlc (cz0 Zib R fun w hw => Za9 w a_c hv1) R fun _ => (wlq (Zd R) R (asg R R (wnt (wcO t0 R (fun h1 t0 => ?_) fun h1 t0 => ?_)))))))))))))
 refine wcr (wlq (Zk R ZgH) R (wls (sbx (cs' := [iv 0, iv 0, iv 0]) Zf pz R R R R R R R) (wnt (wct (wbr (wqr ?_))))))
 obtain rfl := oi t0
 exact wqc R Zf R pz R fun w hw => ⟨R, hw.weak zn⟩
 refine wcr (wlq (pof ZaX R) R (wlq (v := iv a_c.Split) (plx tk_3 pk1 R R) R (wlq (pol R R) R (asg R R (wnt (wcO t0 R (fun h2 t0 => ?_) fun h2 t0 => ?_))))))
 refine wcr (wlq (v := .agg #[iv a_c.Split, iv a_c.A, iv a_c.B]) (plb Zf pk1 R R R) R (wls (sbx (cs' := [iv a_c.Split, iv a_c.A, iv a_c.B]) Zf pz R R R R R R R) (wnt (wct (wbr (wqr ?_))))))
 obtain rfl := oi t0
 exact wqc R Zf R pz R fun w hw => ⟨R, hw.weak zn⟩
 refine wck (wqb (wqt (wcr (wlq (pof ZaX R) R (wlq (v := iv a_c.Split) (plx tk_3 pk1 R R) R (wlq (Zad R R) R (wlq (pof ZaY R) R (wlq (v := iv a_c.B) (plx tk_3 pk1 R R) R (wlq (pof ZaF R) R (wlq (v := iv a_c.A) (plx tk_3 pk1 R R) R (wlq (Zk R (ZcV (wr (3 - a_c.Split)) a_c.B a_c.A)) R (wls (sbx (cs' := [iv (wr (3 - a_c.Split)), iv a_c.B, iv a_c.A]) Zf pz R R R R R R R) (wnt (wct ?_))))))))))))))
 obtain rfl := oi t0
 exact wqc R Zf R pz R fun w hw => ⟨R, hw.weak zn⟩

theorem Zk8 (w : World) (a_x : Int) (a_y : Int) (c_p2 : GBlock) (v0a : Hd) (r0 : rdF w (dm w []) (sl v0a) c_p2.Cells) (b2c : Nat) (q2 : Bx w b2c [.int .i64 c_p2.Size, (sl v0a)]) {r : GCell} (t0 : Zcx a_x a_y c_p2 = some r) : Calls Tryz.prog 201 #[.int .i64 a_x, .int .i64 a_y, ptr b2c 0] w fun e w' => e = .returned (.agg #[.int .i64 r.Split, .int .i64 r.A, .int .i64 r.B]) ∧ SH w [] [] w' := by
 refine cwc (args := [_, _, _]) Tryz.func201 R Tryz.ntmps201 R ?_
 unfold Zcx at t0
 refine wcr (wle (eal (cs := [iv 0, iv 0, iv 0]) Zbj) R fun b1 => (wnt (wcr (wlq (v := .agg #[iv c_p2.Size, (sl v0a)]) (Zi7 q2 Zb R R R) R (wlq (pof ZL R) R (wlq (v := iv c_p2.Size) (ZgC q2 tk_3 R R) R (wlq (Zad R R) R (mv R R (wlq (Zad R R) R (mv R R (bdO t0 fun v1 hv1 t0 => (wlc (cz0 Zrb R fun w hw => Zhv w c_p2 v0a (ra r0 hw) (wr ((wr (c_p2.Size - 1)) - a_x)) a_y hv1) R fun _ => (bdO t0 fun v2 hv2 t0 => (wlc (cz0 ZwL R fun w hw => Znu w v1 hv2) R fun _ => (wls (sbx (cs' := [iv v2.Split, iv v2.A, iv v2.B]) Zf pz R R R R R R R) (wnt (wct ?_)))))))))))))))))
 obtain rfl := oi t0
 exact wqc R Zf R pz R fun w hw => ⟨R, hw.weak zn⟩

theorem Zmp (w : World) (a_b : GBlock) (v0a : Hd) (r0 : rdF w (dm w []) (sl v0a) a_b.Cells) {r : GBlock} (t0 : ZdK a_b = some r) : Calls Tryz.prog 193 #[.agg #[.int .i64 a_b.Size, (sl v0a)]] w fun e w' => ∃ x : Hd, e = .returned (.agg #[.int .i64 r.Size, (sl x)]) ∧ SH w [] [ownF (sl x) r.Cells] w' := by
 refine cwc (args := [_]) Tryz.func193 R Tryz.ntmps193 R ?_
 unfold ZdK at t0
 refine wcr (wle (Zh R R) R fun b1 => (wle (eal (cs := [iv 0, (sl hn)]) Zav) R fun b2 => (wnt (wcs (wcr (wlq (v := .agg #[iv a_b.Size, (sl v0a)]) (plb Zb pk1 R R R) R (bdO t0 fun v1 hv1 t0 => (wlc (cz0 Zd2 R fun w hw => ZZ w a_b v0a (ra r0 hw) hv1) R fun _ => (wlq (Zd R) R (wnt (wcO t0 R (fun h1 t0 => ?_) fun h1 t0 => ?_)))))))))))
 refine wcr (wlq (Zk R ZiJ) R (wls (sbx (cs' := [iv 0, (sl hn)]) Zb pz R R R R R R R) (wnt (wct (wqr ?_)))))
 obtain rfl := oi t0
 exact wqc R Zb R pz R fun w hw => ⟨hn, R, hw.weak (zc ZB zn)⟩
 refine wck (wqt (wcr (wlq (pof ZL R) R (wlq (v := iv a_b.Size) (plx tk_3 pk1 R R) R (wlq (ZiL R) R (bdO t0 fun v2 hv2 t0 => (wlc (cz1 Zrd R fun w hw => ZiM w a_b.Size (fun z0 z1 => Zcx z0 z1 a_b) 201 [ptr b1 0] Zw7 (fun w2 z0 z1  hk _ hz => Zk8 w2 z0 z1 a_b v0a (RdL.later (ra r0 hw) hk) b1 (Bx.keep (hw.at_box pk1) hk) hz) hv2) R fun x1 => (wls (sbx (cs' := [iv v2.Size, (sl x1)]) Zb pk1 R R R R R R R) (wnt (wct ?_))))))))))
 obtain rfl := oi t0
 exact wqc R Zb R pz R fun w hw => ⟨x1, R, hw.weak (zc pk1 zn)⟩

theorem Zpx (w : World) (a_c : GCell) {r : GCell} (t0 : ZfR a_c = some r) : Calls Tryz.prog 204 #[.agg #[.int .i64 a_c.Split, .int .i64 a_c.A, .int .i64 a_c.B]] w fun e w' => e = .returned (.agg #[.int .i64 r.Split, .int .i64 r.A, .int .i64 r.B]) ∧ SH w [] [] w' := by
 refine cwc (args := [_]) Tryz.func204 R Tryz.ntmps204 R ?_
 unfold ZfR at t0
 refine wcr (wle (Zh R R) R fun b1 => (wle (eal (cs := [iv 0, iv 0, iv 0]) Zbj) R fun b2 => (wnt (wcs (wcb (wcr (wlq (v := .agg #[iv a_c.Split, iv a_c.A, iv a_c.B]) (plb Zf pk1 R R R) R (bdO t0 fun v1 hv1 t0 => (wlc (cz0 Zib R fun w hw => Za9 w a_c hv1) R fun _ => (wlq (Zd R) R (asg R R (wnt (wcO t0 R (fun h1 t0 => ?_) fun h1 t0 => ?_)))))))))))))
 refine wcr (wlq (Zk R ZgH) R (wls (sbx (cs' := [iv 0, iv 0, iv 0]) Zf pz R R R R R R R) (wnt (wct (wbr (wqr ?_))))))
 obtain rfl := oi t0
 exact wqc R Zf R pz R fun w hw => ⟨R, hw.weak zn⟩
 refine wcr (wlq (pof ZaX R) R (wlq (v := iv a_c.Split) (plx tk_3 pk1 R R) R (wlq (pol R R) R (asg R R (wnt (wcO t0 R (fun h2 t0 => ?_) fun h2 t0 => ?_))))))
 refine wcr (wlq (pof ZaY R) R (wlq (v := iv a_c.B) (plx tk_3 pk1 R R) R (wlq (pof ZaF R) R (wlq (v := iv a_c.A) (plx tk_3 pk1 R R) R (wlq (Zk R (ZcV 2 a_c.B a_c.A)) R (wls (sbx (cs' := [iv 2, iv a_c.B, iv a_c.A]) Zf pz R R R R R R R) (wnt (wct (wbr (wqr ?_))))))))))
 obtain rfl := oi t0
 exact wqc R Zf R pz R fun w hw => ⟨R, hw.weak zn⟩
 refine wcr (wlq (pof ZaX R) R (wlq (v := iv a_c.Split) (plx tk_3 pk1 R R) R (wlq (pol R R) R (asg R R (wnt (wcO t0 R (fun h3 t0 => ?_) fun h3 t0 => ?_))))))
 refine wcr (wlq (pof ZaF R) R (wlq (v := iv a_c.A) (plx tk_3 pk1 R R) R (wlq (pof ZaY R) R (wlq (v := iv a_c.B) (plx tk_3 pk1 R R) R (wlq (Zk R (ZcV 1 a_c.A a_c.B)) R (wls (sbx (cs' := [iv 1, iv a_c.A, iv a_c.B]) Zf pz R R R R R R R) (wnt (wct (wbr (wqr ?_))))))))))
 obtain rfl := oi t0
 exact wqc R Zf R pz R fun w hw => ⟨R, hw.weak zn⟩
 refine wck (wqb (wqt (wcr (wlq (v := .agg #[iv a_c.Split, iv a_c.A, iv a_c.B]) (plb Zf pk1 R R R) R (wls (sbx (cs' := [iv a_c.Split, iv a_c.A, iv a_c.B]) Zf pz R R R R R R R) (wnt (wct ?_)))))))
 obtain rfl := oi t0
 exact wqc R Zf R pz R fun w hw => ⟨R, hw.weak zn⟩

theorem Zl8 (w : World) (a_x : Int) (a_y : Int) (c_p2 : GBlock) (v0a : Hd) (r0 : rdF w (dm w []) (sl v0a) c_p2.Cells) (b2c : Nat) (q2 : Bx w b2c [.int .i64 c_p2.Size, (sl v0a)]) {r : GCell} (t0 : Zc9 a_x a_y c_p2 = some r) : Calls Tryz.prog 203 #[.int .i64 a_x, .int .i64 a_y, ptr b2c 0] w fun e w' => e = .returned (.agg #[.int .i64 r.Split, .int .i64 r.A, .int .i64 r.B]) ∧ SH w [] [] w' := by
 refine cwc (args := [_, _, _]) Tryz.func203 R Tryz.ntmps203 R ?_
 unfold Zc9 at t0
 refine wcr (wle (eal (cs := [iv 0, iv 0, iv 0]) Zbj) R fun b1 => (wnt (wcr (wlq (v := .agg #[iv c_p2.Size, (sl v0a)]) (Zi7 q2 Zb R R R) R (mv R R (wlq (pof ZL R) R (wlq (v := iv c_p2.Size) (ZgC q2 tk_3 R R) R (wlq (Zad R R) R (mv R R (wlq (Zad R R) R (bdO t0 fun v1 hv1 t0 => (wlc (cz0 Zrb R fun w hw => Zhv w c_p2 v0a (ra r0 hw) a_y (wr ((wr (c_p2.Size - 1)) - a_x)) hv1) R fun _ => (bdO t0 fun v2 hv2 t0 => (wlc (cz0 ZwT R fun w hw => Zpx w v1 hv2) R fun _ => (wls (sbx (cs' := [iv v2.Split, iv v2.A, iv v2.B]) Zf pz R R R R R R R) (wnt (wct ?_)))))))))))))))))
 obtain rfl := oi t0
 exact wqc R Zf R pz R fun w hw => ⟨R, hw.weak zn⟩

theorem Zob (w : World) (a_b : GBlock) (v0a : Hd) (r0 : rdF w (dm w []) (sl v0a) a_b.Cells) {r : GBlock} (t0 : ZeU a_b = some r) : Calls Tryz.prog 194 #[.agg #[.int .i64 a_b.Size, (sl v0a)]] w fun e w' => ∃ x : Hd, e = .returned (.agg #[.int .i64 r.Size, (sl x)]) ∧ SH w [] [ownF (sl x) r.Cells] w' := by
 refine cwc (args := [_]) Tryz.func194 R Tryz.ntmps194 R ?_
 unfold ZeU at t0
 refine wcr (wle (Zh R R) R fun b1 => (wle (eal (cs := [iv 0, (sl hn)]) Zav) R fun b2 => (wnt (wcs (wcr (wlq (v := .agg #[iv a_b.Size, (sl v0a)]) (plb Zb pk1 R R R) R (bdO t0 fun v1 hv1 t0 => (wlc (cz0 Zd2 R fun w hw => ZZ w a_b v0a (ra r0 hw) hv1) R fun _ => (wlq (Zd R) R (wnt (wcO t0 R (fun h1 t0 => ?_) fun h1 t0 => ?_)))))))))))
 refine wcr (wlq (Zk R ZiJ) R (wls (sbx (cs' := [iv 0, (sl hn)]) Zb pz R R R R R R R) (wnt (wct (wqr ?_)))))
 obtain rfl := oi t0
 exact wqc R Zb R pz R fun w hw => ⟨hn, R, hw.weak (zc ZB zn)⟩
 refine wck (wqt (wcr (wlq (pof ZL R) R (wlq (v := iv a_b.Size) (plx tk_3 pk1 R R) R (wlq (ZiL R) R (bdO t0 fun v2 hv2 t0 => (wlc (cz1 Zrd R fun w hw => ZiM w a_b.Size (fun z0 z1 => Zc9 z0 z1 a_b) 203 [ptr b1 0] Zw5 (fun w2 z0 z1  hk _ hz => Zl8 w2 z0 z1 a_b v0a (RdL.later (ra r0 hw) hk) b1 (Bx.keep (hw.at_box pk1) hk) hz) hv2) R fun x1 => (wls (sbx (cs' := [iv v2.Size, (sl x1)]) Zb pk1 R R R R R R R) (wnt (wct ?_))))))))))
 obtain rfl := oi t0
 exact wqc R Zb R pz R fun w hw => ⟨x1, R, hw.weak (zc pk1 zn)⟩

theorem ZpL (w : World) (a_b : GBlock) (v0a : Hd) (r0 : rdF w (dm w []) (sl v0a) a_b.Cells) (a_k : Int) {r : GBlock} (t0 : ZfL a_b a_k = some r) : Calls Tryz.prog 181 #[.agg #[.int .i64 a_b.Size, (sl v0a)], .int .i64 a_k] w fun e w' => ∃ x : Hd, e = .returned (.agg #[.int .i64 r.Size, (sl x)]) ∧ SH w [] [ownF (sl x) r.Cells] w' := by
 refine cwc (args := [_, _]) Tryz.func181 R Tryz.ntmps181 R ?_
 unfold ZfL at t0
 refine wcr (wle (Zh R R) R fun b1 => (wle (eal (cs := [iv 0, (sl hn)]) Zav) R fun b2 => (wnt (wcs (wcs (bdO t0 fun y1 t1 t0 => (wj (J := Bool) (X := Unit) (fun z => y1 = z) (fun z _ => [(1, iv a_k), (2, ptr b1 0), (4, ptr b2 0), (13, .bool z)]) (fun _ _ => [box b2 [iv 0, (sl hn)], box b1 [iv a_b.Size, (sl v0a)]]) ?_ ?_)))))))
 refine wcg (wlq (v := .agg #[iv a_b.Size, (sl v0a)]) (plb Zb pk1 R R R) R (bdO t1 fun v1 hv1 t1 => (wlc (cz0 Zd2 R fun w hw => ZZ w a_b v0a (ra r0 hw) hv1) R fun _ => (wlq (Zd R) R (mv R R (wlo (t := 9) t1 R (fun h1 t1 => ?_) fun h1 t1 => ?_))))))
 exact wgf (j := 3) R R R R R (wgf (j := 3) R R R R R (wgf (j := 3) R R R R R (wlq (pit R R) R (wln (wjm _ () (mtE t1) (su4 R R R R) so2)))))
 exact wgn (j := 3) R R R (mv R R (bdO t1 fun v2 hv2 t1 => (wgn (j := 3) R R R (wlc (cz0 ZaI R fun w hw => Zo w a_k 0 7 hv2) R (fun _ => (wgn (j := 3) R R R (wlq (Zd R) R (wlq (pif R R) R (wln (wjm _ () (mtE t1) (su4 R R R R) so2))))))))))
 intro j1 _ hp
 obtain rfl : j1 = y1 := hp.symm
 refine wqt (wcO t0 R (fun h2 t0 => ?_) fun h2 t0 => ?_)
 refine wcr (wlq (Zk R ZiJ) R (wls (sbx (cs' := [iv 0, (sl hn)]) Zb pz R R R R R R R) (wnt (wct (wqr ?_)))))
 obtain rfl := oi t0
 exact wqc R Zb R pz R fun w hw => ⟨hn, R, hw.weak (zc ZB zn)⟩
 refine wck (wqt (wcr (wlq (v := .agg #[iv a_b.Size, (sl v0a)]) (plb Zb pk1 R R R) R (bdO t0 fun v3 hv3 t0 => (wlc (cz1 ZlM R fun w hw => Zbf w a_b v0a (ra r0 hw) hv3) R fun x2 => (wle (eal (cs := [iv 0, (sl hn)]) Zav) R fun b3 => (wls (sbx (cs' := [iv v3.Size, (sl x2)]) Zb pz R R R R R R R) (wnt (wcs (wcr (mv R R (wlq (Ze1 R R) R (wnt (bdO t0 fun y1 t1 t0 => (wj (J := GBlock) (X := Hd) (fun z => y1 = z) (fun _ _ => [(1, iv a_k), (4, ptr b2 0), (5, ptr b3 0)]) (fun z x => [box b3 [iv ((z).Size), (sl x)], box b2 [iv 0, (sl hn)], ownF (sl x) ((z).Cells)]) ?_ ?_)))))))))))))))
 refine wcO t1 R (fun h3 t1 => ?_) fun h3 t1 => ?_
 exact wcg (wlq (v := .agg #[iv a_b.Size, (sl v0a)]) (plb Zb pk3 R R R) R (bdO t1 fun v4 hv4 t1 => (wlc (cz1 Zwx R fun w hw => Zmp w a_b v0a (ra r0 hw) hv4) R fun x4 => (wls (sbx (cs' := [iv v4.Size, (sl x4)]) Zb pk1 R R R R R R R) (wln (wjm _ x4 (mtE t1) (su3 R R R) (zc pz (zc pk2 so1))))))))
 exact wck (wjm _ x2 (mtE t1) (su3 R R R) (zc pz (zc pk1 so1)))
 intro j2 x3 hp
 obtain rfl : j2 = y1 := hp.symm
 refine wqt (wcs (wcr (mv R R (wlq (Zia R R (by decide)) R ?_))))
 refine mv R R (wnt (gdO t0 fun g1 t0 => (Zr t0 fun y1 l1 t0 => (wj (J := Int × (List GCell)) (X := Hd) (fun z => y1 = z) (fun _ _ => [(4, ptr b2 0), (5, ptr b3 0)]) (fun z x => [box b3 [iv z.1, (sl x)], box b2 [iv 0, (sl hn)], ownF (sl x) z.2]) ?_ ?_))))
 refine wcb (wcf (X := Hd) l1 (fun k1 s1 x1l => [(4, ptr b2 0), (5, ptr b3 0), (22, iv (a_k.tmod 4)), (23, iv ((k1 : Nat) : Int))]) (fun k1 s1 x1l => [box b3 [iv s1.1, (sl x1l)], box b2 [iv 0, (sl hn)], ownF (sl x1l) s1.2]) x3 (su4 R R R R) so3 fun k1 s1 x1l hN1 l1 => ?_)
 by_cases hk1 : k1 < ((a_k.tmod 4)).toNat
 refine fos l1 hk1 fun _ t1 l1 => ?_
 unfold Zfw at t1
 have c1 : (decide (((k1 : Nat) : Int) < (a_k.tmod 4))) = true := ddt (by omega)
 refine wcr (wlq (pls R R) R (wnt (wcs (wft R c1 (wck (wqt (wcs (wcb (wcg (wlq (v := .agg #[iv s1.1, (sl x1l)]) (plb Zb pz R R R) R (bdO t1 fun v5 hv5 t1 => (wlc (cz1 Zw0 R fun w hw => Zob w (GBlock.mk s1.1 s1.2) x1l (Rg.on (rgo pk2) hw) hv5) R fun x6 => (wls (sbx (cs' := [iv v5.Size, (sl x6)]) Zb pk1 R R R R R R R) (wln (wqb (wqt (wcg (wlq (Zj R R (by omega)) R ?_))))))))))))))))))
 exact mv R R (wln (Zl hk1 (stpN l1 t1) x6 (su4 R R R R) (zc pz (zc pk1 so1))))
 have c1 : (decide (((k1 : Nat) : Int) < (a_k.tmod 4))) = false := ddf (by omega)
 have en1 := foe l1 hk1
 exact wcr (wlq (pls R R) R (wnt (wcs (wff R c1 (wcx (wqe (wqe (wbx (wjm _ x1l (Sum.inl.inj en1) (su2 R R) so3)))))))))
 intro e1 x5 hp
 obtain rfl : e1 = y1 := hp.symm
 refine wqt (wcr (wlq (v := .agg #[iv e1.1, (sl x5)]) (plb Zb pz R R R) R (wls (sbx (cs' := [iv e1.1, (sl x5)]) Zb pk1 R R R R R R R) (wnt (wct ?_)))))
 obtain rfl := oi t0
 exact wqc R Zb R pz R fun w hw => ⟨x5, R, hw.weak (zc pk2 zn)⟩

theorem ZmM (w : World) (a_b : GBlock) (v0a : Hd) (r0 : rdF w (dm w []) (sl v0a) a_b.Cells) {r : List GBlock} (t0 : ZgT a_b = some r) : Calls Tryz.prog 169 #[.agg #[.int .i64 a_b.Size, (sl v0a)]] w fun e w' => ∃ x : Hd × (List Value), e = .returned ((sl x.1)) ∧ SH w [] [own (sl x.1) x.2 r] w' := by
 refine cwc (args := [_]) Tryz.func169 R Tryz.ntmps169 R ?_
 unfold ZgT at t0
 refine wcr (wle (Zh R R) R fun b1 => (asg R R (wnt (wcr (wle (ebs R ZrI) R fun b2 => (asg R R (wnt (wcs (wcr (mv R R (wnt (Zr t0 fun y1 l1 t0 => (wj (J := List GBlock) (X := Hd × (List Value)) (fun z => y1 = z) (fun _ x => [(3, (sl x.1))]) (fun z x => [own (sl x.1) x.2 z]) ?_ ?_)))))))))))))
 refine wcb (wcf (X := Hd × (List Value)) l1 (fun k1 s1 x1l => [(1, ptr b1 0), (3, (sl x1l.1)), (6, iv ((k1 : Nat) : Int))]) (fun k1 s1 x1l => [box b1 [iv a_b.Size, (sl v0a)], own (sl x1l.1) x1l.2 s1]) ((⟨some ⟨b2, 0, none⟩, 0, 0⟩ : Hd), []) (su3 R R R) (zc pk1 (zc (ZjK pz) zn)) fun k1 s1 x1l hN1 l1 => ?_)
 by_cases hk1 : k1 < 8
 refine fos l1 hk1 fun _ t1 l1 => ?_
 unfold Zht at t1
 have c1 : (decide (((k1 : Nat) : Int) < 8)) = true := ddt (by omega)
 refine wcr (wlq (pls R R) R (wnt (wcs (wft R c1 (wck (wqt (wcs (wcb (wcr (mv R R (asg R R (wnt (wcg (mv R R (wlq (v := .agg #[iv a_b.Size, (sl v0a)]) (plb Zb pz R R R) R (mv R R (bdO t1 fun v1 hv1 t1 => (wlc (cz1 Zwn R fun w hw => ZpL w a_b v0a (ra r0 hw) ((k1 : Nat) : Int) hv1) R fun x2 => (wle (ebs R (Zr1 v1.Size x2)) R fun b3 => (gdO t1 fun g1 t1 => (wle (Zc3 (us := x1l.2) (xs := s1) ZuF pk3 (Zps (x := v1) pk1) pz R R R g1) R fun x3 => (asg R R (wln (wqb (wqt (wcg (wlq (Zj R R (by omega)) R ?_)))))))))))))))))))))))))))
 exact mv R R (wln (Zl hk1 (stpN l1 t1) (x3, (x1l.2 ++ [iv v1.Size, (sl x2)])) (su3 R R R) (zc pk2 so1)))
 have c1 : (decide (((k1 : Nat) : Int) < 8)) = false := ddf (by omega)
 have en1 := foe l1 hk1
 exact wcr (wlq (pls R R) R (wnt (wcs (wff R c1 (wcx (wqe (wqe (wbx (wjm _ (x1l.1, x1l.2) (Sum.inl.inj en1) (su1 R) (zc pk1 zn))))))))))
 intro e1 x1 hp
 obtain rfl : e1 = y1 := hp.symm
 refine wqt (wcr (mv R R (asg R R (wnt (wct ?_)))))
 obtain rfl := oi t0
 exact wq1 R R fun w hw => ⟨(x1.1, x1.2), R, hw.weak so1⟩

theorem ZkX (w : World) (a_list : List Int) (v0a : Hd) (r0 : rdF w (dm w []) (sl v0a) a_list) (a_n : Int) {r : Int} (t0 : ZdP a_list a_n = some r) : Calls Tryz.prog 195 #[(sl v0a), .int .i64 a_n] w fun e w' => e = .returned (.int .i64 r) ∧ SH w [] [] w' := by
 refine cwc (args := [_, _]) Tryz.func195 R Tryz.ntmps195 R ?_
 unfold ZdP at t0
 refine wcr (asg R R (wnt (wcs (wcr (mv R R (wlq (pln (rga r0) ZH R) R (mv R R (wnt (gdO t0 fun g1 t0 => (sqO t0 fun y1 l1 t0 => (wj (J := Unit) (X := Unit) (fun z => y1 = .inl z) (fun _ _ => []) (fun _ _ => []) ?_ ?_)))))))))))
 refine wcb (wcf (X := Unit) l1 (fun k1 s1 x1l => [(1, iv a_n), (7, (sl v0a)), (8, iv ((a_list.length : Nat) : Int)), (9, iv ((k1 : Nat) : Int))]) (fun k1 s1 x1l => []) () (su4 R R R R) zn fun k1 s1 x1l hN1 l1 => ?_)
 by_cases hk1 : k1 < a_list.length
 refine fos l1 hk1 fun _ t1 l1 => ?_
 unfold Zgc at t1
 have c1 : (decide (((k1 : Nat) : Int) < ((a_list.length : Nat) : Int))) = true := ddt (by omega)
 refine wcr (wlq (pls R R) R (wnt (wcs (wft R c1 (wck (wqt (wcs (wcb (wcr (mv R R (wlq (Zv (k := k1) (rga r0) ZH R R hk1) R (wlq (v := iv (gx a_list k1)) (ZD (rga r0) tk_3 R hk1 R) R (asg R R (asg R R (wnt (wcr (mv R R (mv R R (wlq (pol R R) R (wnt (wcO t1 R (fun h1 t1 => ?_) fun h1 t1 => ?_)))))))))))))))))))))
 refine wcr (mv R R (asg R R (wnt (wct (wbr (wqr (wqr (wbr (wqr (wqr ?_))))))))))
 replace t0 := lpR t0 l1 t1
 obtain rfl := oi t0
 exact wq1 R R fun w hw => ⟨R, hw.weak zn⟩
 refine wck (wqb (wqt (wcg (wlq (Zj R R (by omega)) R ?_))))
 exact mv R R (wln (Zl hk1 (stpN l1 t1) () (su4 R R R R) zn))
 have c1 : (decide (((k1 : Nat) : Int) < ((a_list.length : Nat) : Int))) = false := ddf (by omega)
 have en1 := foe l1 hk1
 exact wcr (wlq (pls R R) R (wnt (wcs (wff R c1 (wcx (wqe (wqe (wbx (wjm _ () en1 yn zn)))))))))
 intro e1 _ hp
 replace t0 := sqE (j := e1) t0 hp
 refine wqt (wcr (asg R R (wnt (wct ?_))))
 obtain rfl := oi t0
 exact wq1 R R fun w hw => ⟨R, hw.weak zn⟩

theorem ZtB (w : World) (a_list : List Int) (v0a : Hd) (r0 : rdF w (dm w []) (sl v0a) a_list) (a_n : Int) {r : List Int} (t0 : ZjG a_list a_n = some r) : Calls Tryz.prog 209 #[(sl v0a), .int .i64 a_n] w fun e w' => ∃ x : Hd, e = .returned ((sl x)) ∧ SH w [] [ownF (sl x) r] w' := by
 refine cwc (args := [_, _]) Tryz.func209 R Tryz.ntmps209 R ?_
 unfold ZjG at t0
 refine wcr (asg R R (wnt (wcr (wle (ebs R Zao) R fun b1 => (asg R R (asg R R (wnt (wcs (wcr (mv R R (wlq (pln (rga r0) ZH R) R (mv R R (wnt (gdO t0 fun g1 t0 => (Zr t0 fun y1 l1 t0 => (wj (J := (List Int) × Bool) (X := Hd) (fun z => y1 = z) (fun z x => [(1, iv a_n), (5, (sl x)), (6, .bool z.2)]) (fun z x => [ownF (sl x) z.1]) ?_ ?_))))))))))))))))
 refine wcb (wcf (X := Hd) l1 (fun k1 s1 x1l => [(1, iv a_n), (5, (sl x1l)), (6, .bool s1.2), (10, (sl v0a)), (11, iv ((a_list.length : Nat) : Int)), (12, iv ((k1 : Nat) : Int))]) (fun k1 s1 x1l => [ownF (sl x1l) s1.1]) (⟨some ⟨b1, 0, none⟩, 0, 0⟩ : Hd) (su6 R R R R R R) (zc (pbo pz (n := 0) (xs := ([] : List Int)) R R (by unfold maxLen; omega)) zn) fun k1 s1 x1l hN1 l1 => ?_)
 by_cases hk1 : k1 < a_list.length
 refine fos l1 hk1 fun _ t1 l1 => ?_
 unfold ZiG at t1
 have c1 : (decide (((k1 : Nat) : Int) < ((a_list.length : Nat) : Int))) = true := ddt (by omega)
 refine wcr (wlq (pls R R) R (wnt (wcs (wft R c1 (wck (wqt (wcs (wcb (wcr (wlq (Zv (k := k1) (rga r0) ZH R R hk1) R (wlq (v := iv (gx a_list k1)) (ZD (rga r0) tk_3 R hk1 R) R (asg R R (wnt (wcs (wcs (wcj (X := Unit) (fun _ => True) (fun _ => [(1, iv a_n), (5, (sl x1l)), (6, .bool s1.2), (8, iv (gx a_list k1)), (10, (sl v0a)), (11, iv ((a_list.length : Nat) : Int)), (12, iv ((k1 : Nat) : Int)), (22, .bool ((!s1.2) && (decide (a_n ≤ (gx a_list k1)))))]) (fun _ => [ownF (sl x1l) s1.1]) ?_ ?_))))))))))))))))
 refine wcg (mv R R (wlq (Zd R) R (mv R R (Zah (t := 18) R (fun h1 => ?_) fun h1 => ?_))))
 exact wgn (j := 2) R R R (mv R R (wgn (j := 2) R R R (mv R R (wgn (j := 2) R R R (wlq (Zdf R R) R (wlq (pit R R) R (wln (wqm () trivial (yc R (yc R (yc R (yc R (yc R (yc R (yc R (Z2 R (by rw [h1]; rfl) yn)))))))) so1))))))))
 exact wgf (j := 2) R R R R R (wgf (j := 2) R R R R R (wgf (j := 2) R R R R R (wlq (pif R R) R (wln (wqm () trivial (yc R (yc R (yc R (yc R (yc R (yc R (yc R (Z2 R (by rw [h1]; rfl) yn)))))))) so1)))))
 intro _ _
 refine wqt (bdO t1 fun y2 t2 t1 => (wj (J := (List Int) × Bool) (X := Hd) (fun z => y2 = z) (fun z x => [(1, iv a_n), (5, (sl x)), (6, .bool z.2), (8, iv (gx a_list k1)), (10, (sl v0a)), (11, iv ((a_list.length : Nat) : Int)), (12, iv ((k1 : Nat) : Int))]) (fun z x => [ownF (sl x) z.1]) ?_ ?_))
 refine wcO t2 R (fun h2 t2 => ?_) fun h2 t2 => ?_
 refine wcr (mv R R (mv R R (wle (ebs R (ZaZ a_n)) R fun b2 => (gdO t2 fun g2 t2 => (wle (Zg (xs := s1.1) (ys := ([a_n] : List Int)) Zb1 pk1 R R (Zi fun _ g => Rg.on (rgo (pbo pz (n := 1) (xs := ([a_n] : List Int)) R R (by unfold maxLen; omega))) g) g2) R fun x4 => ?_)))))
 exact asg R R (wnt (wcg (asg R R (wln (wjm _ x4 (mtE t2) (su7 R R R R R R R) so1)))))
 exact wck (wjm _ x1l (mtE t2) (su7 R R R R R R R) so1)
 intro j2 x3 hp
 obtain rfl : j2 = y2 := hp.symm
 refine wqt (wcg (mv R R (mv R R (wle (ebs R (ZaZ (gx a_list k1))) R fun b3 => (gdO t1 fun g3 t1 => (wle (Zg (xs := j2.1) (ys := ([(gx a_list k1)] : List Int)) Zb1 pk1 R R (Zi fun _ g => Rg.on (rgo (pbo pz (n := 1) (xs := ([(gx a_list k1)] : List Int)) R R (by unfold maxLen; omega))) g) g3) R fun x5 => ?_))))))
 refine asg R R (wln (wqb (wqt (wcg (wlq (Zj R R (by omega)) R ?_)))))
 exact mv R R (wln (Zl hk1 (stpN l1 t1) x5 (su6 R R R R R R) so1))
 have c1 : (decide (((k1 : Nat) : Int) < ((a_list.length : Nat) : Int))) = false := ddf (by omega)
 have en1 := foe l1 hk1
 exact wcr (wlq (pls R R) R (wnt (wcs (wff R c1 (wcx (wqe (wqe (wbx (wjm _ x1l (Sum.inl.inj en1) (su3 R R R) so1)))))))))
 intro e1 x1 hp
 obtain rfl : e1 = y1 := hp.symm
 refine wqt (wcs (wcr (mv R R (wlq (Zd R) R (wnt (bdO t0 fun y1 t1 t0 => (wj (J := List Int) (X := Hd) (fun z => y1 = z) (fun _ x => [(5, (sl x))]) (fun z x => [ownF (sl x) z]) ?_ ?_)))))))
 refine wcO t1 R (fun h3 t1 => ?_) fun h3 t1 => ?_
 refine wcg (mv R R (mv R R (wle (ebs R (ZaZ a_n)) R fun b4 => (gdO t1 fun g4 t1 => (wle (Zg (xs := e1.1) (ys := ([a_n] : List Int)) Zb1 pk1 R R (Zi fun _ g => Rg.on (rgo (pbo pz (n := 1) (xs := ([a_n] : List Int)) R R (by unfold maxLen; omega))) g) g4) R fun x7 => ?_)))))
 exact asg R R (wln (wjm _ x7 (mtE t1) (su1 R) so1))
 exact wck (wjm _ x1 (mtE t1) (su1 R) so1)
 intro j3 x6 hp
 obtain rfl : j3 = y1 := hp.symm
 refine wqt (wcr (mv R R (asg R R (wnt (wct ?_)))))
 obtain rfl := oi t0
 exact wq1 R R fun w hw => ⟨x6, R, hw.weak so1⟩

theorem Zq5 (w : World) (a_list : List Int) (v0a : Hd) (r0 : rdF w (dm w []) (sl v0a) a_list) {r : List Int} (t0 : Zho a_list = some r) : Calls Tryz.prog 208 #[(sl v0a)] w fun e w' => ∃ x : Hd, e = .returned ((sl x)) ∧ SH w [] [ownF (sl x) r] w' := by
 refine cwc (args := [_]) Tryz.func208 R Tryz.ntmps208 R ?_
 unfold Zho at t0
 refine wcr (asg R R (wnt (wcr (wle (ebs R Zao) R fun b1 => (asg R R (wnt (wcs (wcr (mv R R (wlq (pln (rga r0) ZH R) R (mv R R (wnt (gdO t0 fun g1 t0 => (Zr t0 fun y1 l1 t0 => (wj (J := List Int) (X := Hd) (fun z => y1 = z) (fun _ x => [(3, (sl x))]) (fun z x => [ownF (sl x) z]) ?_ ?_)))))))))))))))
 refine wcb (wcf (X := Hd) l1 (fun k1 s1 x1l => [(3, (sl x1l)), (7, (sl v0a)), (8, iv ((a_list.length : Nat) : Int)), (9, iv ((k1 : Nat) : Int))]) (fun k1 s1 x1l => [ownF (sl x1l) s1]) (⟨some ⟨b1, 0, none⟩, 0, 0⟩ : Hd) (su4 R R R R) (zc (pbo pz (n := 0) (xs := ([] : List Int)) R R (by unfold maxLen; omega)) zn) fun k1 s1 x1l hN1 l1 => ?_)
 by_cases hk1 : k1 < a_list.length
 refine fos l1 hk1 fun _ t1 l1 => ?_
 unfold Zhc at t1
 have c1 : (decide (((k1 : Nat) : Int) < ((a_list.length : Nat) : Int))) = true := ddt (by omega)
 refine wcr (wlq (pls R R) R (wnt (wcs (wft R c1 (wck (wqt (wcs (wcb (wcr (wlq (Zv (k := k1) (rga r0) ZH R R hk1) R (wlq (v := iv (gx a_list k1)) (ZD (rga r0) tk_3 R hk1 R) R (asg R R (wnt (wcg (mv R R (mv R R (bdO t1 fun v1 hv1 t1 => (wlc (cz1 Zwf R fun w hw => ZtB w s1 x1l (Rg.on (rgo pz) hw) (gx a_list k1) hv1) R fun x2 => (asg R R (wln (wqb (wqt (wcg (wlq (Zj R R (by omega)) R ?_))))))))))))))))))))))))
 exact mv R R (wln (Zl hk1 (stpN l1 t1) x2 (su4 R R R R) so1))
 have c1 : (decide (((k1 : Nat) : Int) < ((a_list.length : Nat) : Int))) = false := ddf (by omega)
 have en1 := foe l1 hk1
 exact wcr (wlq (pls R R) R (wnt (wcs (wff R c1 (wcx (wqe (wqe (wbx (wjm _ x1l (Sum.inl.inj en1) (su1 R) so1)))))))))
 intro e1 x1 hp
 obtain rfl : e1 = y1 := hp.symm
 refine wqt (wcr (mv R R (asg R R (wnt (wct ?_)))))
 obtain rfl := oi t0
 exact wq1 R R fun w hw => ⟨x1, R, hw.weak so1⟩

theorem ZpA (w : World) (a_list : List Int) (v0a : Hd) (r0 : rdF w (dm w []) (sl v0a) a_list) (a_a : Int) (a_b : Int) {r : Bool} (t0 : ZfF a_list a_a a_b = some r) : Calls Tryz.prog 207 #[(sl v0a), .int .i64 a_a, .int .i64 a_b] w fun e w' => e = .returned (.bool r) ∧ SH w [] [] w' := by
 refine cwc (args := [_, _, _]) Tryz.func207 R Tryz.ntmps207 R ?_
 unfold ZfF at t0
 refine wcr (asg R R (wnt (wcs (wcr (mv R R (wlq (pln (rga r0) ZH R) R (mv R R (wnt (gdO t0 fun g1 t0 => (sqO t0 fun y1 l1 t0 => (wj (J := Unit) (X := Unit) (fun z => y1 = .inl z) (fun _ _ => [(0, (sl v0a)), (1, iv a_a), (2, iv a_b)]) (fun _ _ => []) ?_ ?_)))))))))))
 refine wcb (wcf (X := Unit) l1 (fun k1 s1 x1l => [(0, (sl v0a)), (1, iv a_a), (2, iv a_b), (9, iv ((a_list.length : Nat) : Int)), (10, iv ((k1 : Nat) : Int))]) (fun k1 s1 x1l => []) () (su5 R R R R R) zn fun k1 s1 x1l hN1 l1 => ?_)
 by_cases hk1 : k1 < a_list.length
 refine fos l1 hk1 fun _ t1 l1 => ?_
 unfold Zfq at t1
 have c1 : (decide (((k1 : Nat) : Int) < ((a_list.length : Nat) : Int))) = true := ddt (by omega)
 refine wcr (wlq (pls R R) R (wnt (wcs (wft R c1 (wck (wqt (wcs (wcb (wcr (mv R R (asg R R (wnt (wcs (bdO t1 fun y2 t2 t1 => (wj (J := Bool) (X := Unit) (fun z => y2 = z) (fun z _ => [(0, (sl v0a)), (1, iv a_a), (2, iv a_b), (9, iv ((a_list.length : Nat) : Int)), (10, iv ((k1 : Nat) : Int)), (26, .bool z)]) (fun _ _ => []) ?_ ?_)))))))))))))))
 refine wcd [] 14 mixed (aq 0 R (pom R) zn R (aq 1 R (ZaD R R) zn R (aq 2 R (pom R) zn R (waO_ (t := 15) t2 R (fun h1 t2 => ?_) fun h1 t2 => ?_))))
 exact an 3 2 R R R R (pom R) zn R (an 4 2 R R R R (pom R) zn R (an 5 2 R R R R (Zv (k := k1) (rga r0) ZH R R hk1) zn R (an (v := iv (gx a_list k1)) 6 2 R R R R (ZD (rga r0) tk_3 R hk1 R) zn R (an 7 2 R R R R (pom R) zn R (an 8 2 R R R R (pom R) zn R (an 9 2 R R R R (Zad R R) zn R (gdO t2 fun g2 t2 => (an 10 2 R R R R (Z8 (rga r0) ZH R R g2.1 g2.2) zn R (an (v := iv (gx a_list (((wr (((k1 : Nat) : Int) - 1))).toNat))) 11 2 R R R R (ZD (rga r0) tk_3 R (ZK g2) R) zn R (an 12 2 R R R R (Zdf R R) zn R (aq 13 R (pit R R) zn R (ae (wjm _ () (mtE t2) (su6 R R R R R R) zn)))))))))))))
 exact af 3 2 R R R R R zn R (af 4 2 R R R R R zn R (af 5 2 R R R R R zn R (af 6 2 R R R R R zn R (af 7 2 R R R R R zn R (af 8 2 R R R R R zn R (af 9 2 R R R R R zn R (af 10 2 R R R R R zn R (af 11 2 R R R R R zn R (af 12 2 R R R R R zn R (aq 13 R (pif R R) zn R (ae (wjm _ () (mtE t2) (su6 R R R R R R) zn))))))))))))
 intro j1 _ hp
 obtain rfl : j1 = y2 := hp.symm
 refine wqt (wcO t1 R (fun h2 t1 => ?_) fun h2 t1 => ?_)
 refine wcr (asg R R (wnt (wct (wbr (wqr (wqr (wbr (wqr (wqr ?_)))))))))
 replace t0 := lpR t0 l1 t1
 obtain rfl := oi t0
 exact wq1 R R fun w hw => ⟨R, hw.weak zn⟩
 refine wck (wqb (wqt (wcg (wlq (Zj R R (by omega)) R ?_))))
 exact mv R R (wln (Zl hk1 (stpN l1 t1) () (su5 R R R R R) zn))
 have c1 : (decide (((k1 : Nat) : Int) < ((a_list.length : Nat) : Int))) = false := ddf (by omega)
 have en1 := foe l1 hk1
 exact wcr (wlq (pls R R) R (wnt (wcs (wff R c1 (wcx (wqe (wqe (wbx (wjm _ () en1 (su3 R R R) zn)))))))))
 intro e1 _ hp
 replace t0 := sqE (j := e1) t0 hp
 refine wqt (wcr (mv R R (mv R R (mv R R (bdO t0 fun v1 hv1 t0 => (wlc (cz0 Ztw R fun w hw => ZhI w a_list v0a (ra r0 hw) a_a a_b hv1) R fun _ => (asg R R (wnt (wct ?_)))))))))
 obtain rfl := oi t0
 exact wq1 R R fun w hw => ⟨R, hw.weak zn⟩

theorem Znt (w : World) (a_l : List Int) (v0a : Hd) (r0 : rdF w (dm w []) (sl v0a) a_l) {r : Bool} (t0 : Zed a_l = some r) : Calls Tryz.prog 205 #[(sl v0a)] w fun e w' => e = .returned (.bool r) ∧ SH w [] [] w' := by
 refine cwc (args := [_]) Tryz.func205 R Tryz.ntmps205 R ?_
 unfold Zed at t0
 refine wcr (asg R R (wnt (wcs (bdO t0 fun y1 t1 t0 => (wj (J := Bool) (X := Unit) (fun z => y1 = z) (fun z _ => [(2, .bool z)]) (fun _ _ => []) ?_ ?_)))))
 refine wcg (mv R R (wlq (pln (rga r0) ZH R) R (wlq (pol R R) R (mv R R (wlo (t := 6) t1 R (fun h1 t1 => ?_) fun h1 t1 => ?_)))))
 exact wgn (j := 3) R R R (mv R R (bdO t1 fun v1 hv1 t1 => (wgn (j := 3) R R R (wlc (cz1 Zxe R fun w hw => Zq5 w a_l v0a (ra r0 hw) hv1) R (fun x2 => (bdO t1 fun v2 hv2 t1 => (wgn (j := 3) R R R (wlc (cz0 Zw4 R fun w hw => ZpA w v1 x2 (Rg.on (rgo pz) hw) 0 5 hv2) R (fun _ => (wlq (pit R R) R (asg R R (wln (wjm _ () (mtE t1) (su1 R) zn)))))))))))))
 exact wgf (j := 3) R R R R R (wgf (j := 3) R R R R R (wgf (j := 3) R R R R R (wlq (pif R R) R (asg R R (wln (wjm _ () (mtE t1) (su1 R) zn))))))
 intro j1 _ hp
 obtain rfl : j1 = y1 := hp.symm
 refine wqt (wct ?_)
 obtain rfl := oi t0
 exact wq1 R R fun w hw => ⟨R, hw.weak zn⟩

theorem Zpi (w : World) (a_l : List Int) (v0a : Hd) (r0 : rdF w (dm w []) (sl v0a) a_l) {r : List Int} (t0 : ZfA a_l = some r) : Calls Tryz.prog 196 #[(sl v0a)] w fun e w' => ∃ x : Hd, e = .returned ((sl x)) ∧ SH w [] [ownF (sl x) r] w' := by
 refine cwc (args := [_]) Tryz.func196 R Tryz.ntmps196 R ?_
 unfold ZfA at t0
 refine wcr (asg R R (wnt (wcs (wcr (mv R R (bdO t0 fun v1 hv1 t0 => (wlc (cz0 Zwv R fun w hw => Znt w a_l v0a (ra r0 hw) hv1) R fun _ => (wlq (Zd R) R (wnt (wcO t0 R (fun h1 t0 => ?_) fun h1 t0 => ?_))))))))))
 refine wcr (asg R R (wnt (wct (wqr ?_))))
 obtain rfl := oi t0
 exact wq1 R R fun w hw => ⟨hn, R, hw.weak (zc ZB zn)⟩
 refine wck (wqt (wcr (wle (Zle (n := 6) (0 : Int) Zq8 R R R (by omega) R) R fun x1 => ?_)))
 refine asg R R (wnt (wcs (wcr (mv R R (wlq (pln (rga r0) ZH R) R (mv R R (wnt (gdO t0 fun g1 t0 => (Zr t0 fun y1 l1 t0 => (wj (J := List Int) (X := Unit) (fun z => y1 = z) (fun _ _ => [(3, (sl x1))]) (fun z _ => [ownF (sl x1) z]) ?_ ?_))))))))))
 refine wcb (wcf (X := Unit) l1 (fun k1 s1 x1l => [(3, (sl x1)), (10, (sl v0a)), (11, iv ((a_l.length : Nat) : Int)), (12, iv ((k1 : Nat) : Int))]) (fun k1 s1 x1l => [ownF (sl x1) s1]) () (su4 R R R R) so1 fun k1 s1 x1l hN1 l1 => ?_)
 by_cases hk1 : k1 < a_l.length
 refine fos l1 hk1 fun _ t1 l1 => ?_
 unfold Zfz at t1
 have c1 : (decide (((k1 : Nat) : Int) < ((a_l.length : Nat) : Int))) = true := ddt (by omega)
 refine wcr (wlq (pls R R) R (wnt (wcs (wft R c1 (wck (wqt (wcs (wcb (wcr (mv R R (wlq (Zv (k := k1) (rga r0) ZH R R hk1) R (wlq (v := iv (gx a_l k1)) (ZD (rga r0) tk_3 R hk1 R) R (asg R R (asg R R (wnt (wcg (mv R R (mv R R (mv R R (gdO t1 fun g2 t1 => (wlq (Z8 (rgo pz) ZH R R g2.1 g2.2) R (wls (ZiY (x' := ((k1 : Nat) : Int)) tk_3 pz R R R R R R (ZK g2) R) (wln (wqb (wqt (wcg (wlq (Zj R R (by omega)) R ?_)))))))))))))))))))))))))))
 exact mv R R (wln (Zl hk1 (stpN l1 t1) () (su4 R R R R) so1))
 have c1 : (decide (((k1 : Nat) : Int) < ((a_l.length : Nat) : Int))) = false := ddf (by omega)
 have en1 := foe l1 hk1
 exact wcr (wlq (pls R R) R (wnt (wcs (wff R c1 (wcx (wqe (wqe (wbx (wjm _ () (Sum.inl.inj en1) (su1 R) so1)))))))))
 intro e1 _ hp
 obtain rfl : e1 = y1 := hp.symm
 refine wqt (wcr (mv R R (asg R R (wnt (wct ?_)))))
 obtain rfl := oi t0
 exact wq1 R R fun w hw => ⟨x1, R, hw.weak so1⟩

end Go.Proofs.YtjfjbgihojiijabGreatDoor
