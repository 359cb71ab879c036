/-
 Each Go function computes its Lean function (part 1).
-/
import Derived.Test.YtjfjbgihojiijacGreatDoorLibs
namespace Go.Proofs.YtjfjbgihojiijacGreatDoor
open Go Go.RowKit Go.Proofs
set_option maxRecDepth 100000

theorem Zi2 (w : World) (a_line : Str) {r : (List Str) × Bool} (t0 : ZbV a_line = some r) : Calls Tryz.prog 9 #[bs a_line] w fun e w' => ∃ x : Hd, e = .returned (.tuple #[(sl x), .bool r.2]) ∧ SH w [] [ownF (sl x) r.1] w' := by
 refine cwc (args := [_]) Tryz.func9 R Tryz.ntmps9 R ?_
 unfold ZbV at t0
 refine wcr (asg R R (asg R R (wnt (wcr (wle (ebs R Zga) R fun b1 => (asg R R (wnt (wcs (wcr (mv R R (wlq (ZbM Z2 R) R (wlq (Zad R R) R (wnt (wcO t0 R (fun h1 t0 => ?_) fun h1 t0 => ?_))))))))))))))
 refine wcr (mv R R (asg R R (asg R R (wnt (wct (wqr ?_))))))
 obtain rfl := oi t0
 exact ZJ R R R fun w hw => ⟨(⟨some ⟨b1, 0, none⟩, 0, 0⟩ : Hd), R, hw.weak (zc (pbo pz (n := 0) (xs := ([] : List Str)) R R (by unfold maxLen; omega)) zn)⟩
 refine wck (wqt (wcr (asg R R (wnt (wcs (wcr (asg R R (wnt (gdO t0 fun g1 t0 => (sqO t0 fun y1 l1 t0 => (wj (J := (List Str) × Int) (X := Hd) (fun z => y1 = .inl z) (fun _ x => [(4, (sl x))]) (fun z x => [ownF (sl x) z.1]) ?_ ?_)))))))))))
 refine wcb (wcf (X := Hd) l1 (fun k1 s1 x1l => [(0, bs a_line), (4, (sl x1l)), (5, iv s1.2), (6, iv ((k1 : Nat) : Int))]) (fun k1 s1 x1l => [ownF (sl x1l) s1.1]) (⟨some ⟨b1, 0, none⟩, 0, 0⟩ : Hd) (su4 R R R R) (zc (pbo pz (n := 0) (xs := ([] : List Str)) R R (by unfold maxLen; omega)) zn) fun k1 s1 x1l hN1 l1 => ?_)
 by_cases hk1 : k1 < (a_line.b.length + 1)
 refine fos l1 hk1 fun _ t1 l1 => ?_
 unfold Zbh at t1
 have c1 : (decide (((k1 : Nat) : Int) ≤ ((a_line.b.length : Nat) : Int))) = true := ddt (by omega)
 refine wcs (wcr (mv R R (mv R R (wlq (ZbM Z2 R) R (wlq (ZbQ R R) R (wnt (wft R c1 (wck (wqt (wcs (wcb (wcs (wcs (bdO t1 fun y2 t2 t1 => (wj (J := Bool) (X := Unit) (fun z => y2 = z) (fun z _ => [(0, bs a_line), (4, (sl x1l)), (5, iv s1.2), (6, iv ((k1 : Nat) : Int)), (33, .bool z)]) (fun _ _ => [ownF (sl x1l) s1.1]) ?_ ?_)))))))))))))))
 refine wcg (mv R R (mv R R (wlq (ZbM Z2 R) R (wlq (pls R R) R (mv R R (wlo (t := 22) t2 R (fun h2 t2 => ?_) fun h2 t2 => ?_))))))
 refine wgn (j := 4) R R R (mv R R (wgn (j := 4) R R R (mv R R (gdO t2 fun g2 t2 => (wgn (j := 4) R R R (wlq (Ze2 (k := k1) Z2 R R g2) R (wgn (j := 4) R R R (wlq (pls R R) R (wgn (j := 4) R R R (mv R R (wlo (t := 27) t2 R (fun h3 t2 => ?_) fun h3 t2 => ?_)))))))))))
 exact wgf (j := 9) R R R R R (wgf (j := 9) R R R R R (wgf (j := 9) R R R R R (wgf (j := 9) R R R R R (wgn (j := 4) R R R (wlq (pit R R) R (wlq (pit R R) R (wln (wjm _ () (mtE t2) (su5 R R R R R) so1))))))))
 exact wgn (j := 9) R R R (mv R R (wgn (j := 9) R R R (mv R R (wgn (j := 9) R R R (wlq (Ze2 (k := k1) Z2 R R g2) R (wgn (j := 9) R R R (wlq (Zad R R) R (wgn (j := 4) R R R (wlq (pif R R) R (wlq (pit R R) R (wln (wjm _ () (mtE t2) (su5 R R R R R) so1))))))))))))
 exact wgf (j := 4) R R R R R (wgf (j := 4) R R R R R (wgf (j := 4) R R R R R (wgf (j := 4) R R R R R (wgf (j := 4) R R R R R (ZW (j := 9) R R R R (ZW (j := 9) R R R R (ZW (j := 9) R R R R (ZW (j := 9) R R R R (wgf (j := 4) R R R R R (wlq (pif R R) R (wln (wjm _ () (mtE t2) (su5 R R R R R) so1))))))))))))
 intro j1 _ hp
 obtain rfl : j1 = y2 := hp.symm
 refine wqt (wcO t1 R (fun h4 t1 => ?_) fun h4 t1 => ?_)
 refine wcr (wle (ebs R Zga) R fun b2 => (asg R R (asg R R (wnt (wct (wqr (wbr (wqr (wqr (wbr (wqr (wqr ?_))))))))))))
 replace t0 := lpR t0 l1 t1
 obtain rfl := oi t0
 exact ZJ R R R fun w hw => ⟨(⟨some ⟨b2, 0, none⟩, 0, 0⟩ : Hd), R, hw.weak (zc (pbo pz (n := 0) (xs := ([] : List Str)) R R (by unfold maxLen; omega)) zn)⟩
 refine wck (wqt (wcs (wcs (bdO t1 fun y2 t2 t1 => (wj (J := Bool) (X := Unit) (fun z => y2 = z) (fun z _ => [(0, bs a_line), (4, (sl x1l)), (5, iv s1.2), (6, iv ((k1 : Nat) : Int)), (44, .bool z)]) (fun _ _ => [ownF (sl x1l) s1.1]) ?_ ?_)))))
 refine wcg (mv R R (mv R R (wlq (ZbM Z2 R) R (wlq (pls R R) R (mv R R (wlo (t := 39) t2 R (fun h5 t2 => ?_) fun h5 t2 => ?_))))))
 exact wgn (j := 4) R R R (mv R R (wgn (j := 4) R R R (mv R R (gdO t2 fun g3 t2 => (wgn (j := 4) R R R (wlq (Ze2 (k := k1) Z2 R R g3) R (wgn (j := 4) R R R (wlq (ZcD R R) R (wlq (pit R R) R (wln (wjm _ () (mtE t2) (su5 R R R R R) so1)))))))))))
 exact wgf (j := 4) R R R R R (wgf (j := 4) R R R R R (wgf (j := 4) R R R R R (wgf (j := 4) R R R R R (wlq (pif R R) R (wln (wjm _ () (mtE t2) (su5 R R R R R) so1))))))
 intro j2 _ hp
 obtain rfl : j2 = y2 := hp.symm
 refine wqt (wcO t1 R (fun h6 t1 => ?_) fun h6 t1 => ?_)
 refine wcx (wqe (wbx (wqt (wcg (mv R R (wlq (Zj R R (by omega)) R ?_))))))
 exact asg R R (wln (Zk hk1 (stpN l1 t1) x1l (su4 R R R R) so1))
 refine wck (wqt (wcs (wcr (mv R R (mv R R (wlq (pls R R) R (wnt (bdO t1 fun y2 t2 t1 => (wj (J := List Str) (X := Hd) (fun z => y2 = z) (fun _ x => [(0, bs a_line), (4, (sl x)), (6, iv ((k1 : Nat) : Int))]) (fun z x => [ownF (sl x) z]) ?_ ?_)))))))))
 refine wcO t2 R (fun h7 t2 => ?_) fun h7 t2 => ?_
 refine wcg (mv R R (mv R R (mv R R (mv R R (gdO t2 fun g4 t2 => (wlq (Zk5 (l := (s1.2).toNat) (h := k1) Z2 R (.inr ⟨_, R, ixn g4.1⟩) (.inr ⟨_, R, R⟩) g4.2.1 g4.2.2) R (wle (ebs R (ZeZ (ssub a_line ((s1.2).toNat) k1))) R fun b3 => (gdO t2 fun g5 t2 => (wle (Zf (xs := s1.1) (ys := ([(ssub a_line ((s1.2).toNat) k1)] : List Str)) Zeq pk1 R R (Zi fun _ g => Rg.on (rgo (pbo pz (n := 1) (xs := ([(ssub a_line ((s1.2).toNat) k1)] : List Str)) R R (by unfold maxLen; omega))) g) g5) R fun x5 => ?_)))))))))
 exact asg R R (wln (wjm _ x5 (mtE t2) (su3 R R R) so1))
 exact wck (wjm _ x1l (mtE t2) (su3 R R R) so1)
 intro j3 x4 hp
 obtain rfl : j3 = y2 := hp.symm
 refine wqt (wcg (mv R R (wlq (Zj R R (by omega)) R ?_)))
 refine asg R R (wln (wqb (wqt (wcg (mv R R (wlq (Zj R R (by omega)) R ?_))))))
 exact asg R R (wln (Zk hk1 (stpN l1 t1) x4 (su4 R R R R) so1))
 have c1 : (decide (((k1 : Nat) : Int) ≤ ((a_line.b.length : Nat) : Int))) = false := ddf (by omega)
 have en1 := foe l1 hk1
 exact wcs (wcr (mv R R (mv R R (wlq (ZbM Z2 R) R (wlq (ZbQ R R) R (wnt (wff R c1 (wcx (wqe (wqe (wbx (wjm _ x1l en1 (su1 R) so1))))))))))))
 intro e1 x1 hp
 replace t0 := sqE (j := e1) t0 hp
 refine wqt (wcs (wcr (mv R R (wlq (pln (rgo pz) ZaZ R) R (wlq (Zad R R) R (wnt (wcO t0 R (fun h8 t0 => ?_) fun h8 t0 => ?_)))))))
 refine wcr (wle (ebs R Zga) R fun b4 => (asg R R (asg R R (wnt (wct (wqr ?_))))))
 obtain rfl := oi t0
 exact ZJ R R R fun w hw => ⟨(⟨some ⟨b4, 0, none⟩, 0, 0⟩ : Hd), R, hw.weak (zc (pbo pz (n := 0) (xs := ([] : List Str)) R R (by unfold maxLen; omega)) zn)⟩
 refine wck (wqt (wcr (mv R R (asg R R (asg R R (wnt (wct ?_)))))))
 obtain rfl := oi t0
 exact ZJ R R R fun w hw => ⟨x1, R, hw.weak so1⟩

theorem ZF (w : World) (a_x : Int) (a_least : Int) (a_most : Int) {r : Bool} (t0 : ZI a_x a_least a_most = some r) : Calls Tryz.prog 23 #[.int .i64 a_x, .int .i64 a_least, .int .i64 a_most] w fun e w' => e = .returned (.bool r) ∧ SH w [] [] w' := by
 refine cwc (args := [_, _, _]) Tryz.func23 R Tryz.ntmps23 R ?_
 unfold ZI at t0
 refine wcr (asg R R (wnt (wcs (wcj (X := Unit) (fun _ => True) (fun _ => [(6, .bool ((decide (a_x ≥ a_least)) && (decide (a_x ≤ a_most))))]) (fun _ => []) ?_ ?_))))
 refine wcg (mv R R (mv R R (wlq (ZeS R R) R (mv R R (Zae (t := 10) R (fun h1 => ?_) fun h1 => ?_)))))
 exact wgn (j := 3) R R R (mv R R (wgn (j := 3) R R R (mv R R (wgn (j := 3) R R R (wlq (ZbQ R R) R (wlq (pit R R) R (asg R R (wln (wqm () trivial (ZS R (by rw [h1]; rfl) yn) zn)))))))))
 exact wgf (j := 3) R R R R R (wgf (j := 3) R R R R R (wgf (j := 3) R R R R R (wlq (pif R R) R (asg R R (wln (wqm () trivial (ZS R (by rw [h1]; rfl) yn) zn))))))
 intro _ _
 refine wqt (wct ?_)
 obtain rfl := oi t0
 exact wq1 R R fun w hw => ⟨R, hw.weak zn⟩

theorem Zoj (w : World) (a_x : Int) {r : UInt8} (t0 : Ze9 a_x = some r) : Calls Tryz.prog 31 #[.int .i64 a_x] w fun e w' => e = .returned (.int .u8 (r.toNat : Int)) ∧ SH w [] [] w' := by
 refine cwc (args := [_]) Tryz.func31 R Tryz.ntmps31 R ?_
 unfold Ze9 at t0
 refine wcr (asg R R (wnt (wcs (wcr (mv R R (wlq (pls R R) R (wnt (wcO t0 R (fun h1 t0 => ?_) fun h1 t0 => ?_))))))))
 refine wcr (mv R R (wlq (Zaf R R) R (wlq (Zox ZmZ Zpi R) R (asg R R (wnt (wct (wqr ?_)))))))
 obtain rfl := oi t0
 exact wq1 R R fun w hw => ⟨R, hw.weak zn⟩
 refine wck (wqt (wcr (mv R R (wlq (Zaf R R) R (wlq (Zaa R R) R (wlq (Zox ZmZ Zpi R) R (asg R R (wnt (wct ?_)))))))))
 obtain rfl := oi t0
 exact wq1 R R fun w hw => ⟨R, hw.weak zn⟩

theorem Z4 (w : World) (a_n : Int) {r : Str} (t0 : ZB a_n = some r) : Calls Tryz.prog 13 #[.int .i64 a_n] w fun e w' => e = .returned (bs r) ∧ SH w [] [] w' := by
 refine cwc (args := [_]) Tryz.func13 R Tryz.ntmps13 R ?_
 unfold ZB at t0
 refine wcr (asg R R (wnt (wcs (wcr (mv R R (wlq (pol R R) R (wnt (wcO t0 R (fun h1 t0 => ?_) fun h1 t0 => ?_))))))))
 refine wcr (asg R R (wnt (wct (wqr ?_))))
 obtain rfl := oi t0
 exact wq1 R R fun w hw => ⟨R, hw.weak zn⟩
 refine wck (wqt (wcr (mv R R (wlq (pls R R) R (asg R R (wnt (wcr (asg R R (wnt (wcs (ZmU t0 fun y1 l1 t0 => (wj (J := Int × Str) (X := Unit) (fun z => y1 = z) (fun z _ => [(3, .bool (decide (a_n < 0))), (4, bs z.2)]) (fun _ _ => []) ?_ ?_))))))))))))
 refine wcb (ZoL (X := Unit) l1 (fun s1 x1l => [(0, iv s1.1), (3, .bool (decide (a_n < 0))), (4, bs s1.2)]) (fun s1 x1l => []) () (su3 R R R) zn fun m1 s1 x1l l1 => (Zlv l1 fun _ t1 l1 => ?_))
 unfold Zal at t1
 refine wcs (wcr (mv R R (wlq (ZcD R R) R (wnt (wcO t1 R (fun h2 t1 => ?_) fun h2 t1 => ?_)))))
 refine wck (wqt (wcb (wcr (mv R R (wlq (ZhA R R (by decide)) R ?_)))))
 refine asg R R (wnt (wcs (wcr (mv R R (wlq (pls R R) R (wnt (wcj (X := Unit) (fun _ => True) (fun _ => [(0, iv s1.1), (3, .bool (decide (a_n < 0))), (4, bs s1.2), (5, iv (bif (decide ((s1.1.tmod 10) < 0)) then (wr (0 - (s1.1.tmod 10))) else (s1.1.tmod 10)))]) (fun _ => []) ?_ ?_)))))))
 refine Zbn R (fun h3 => ?_) fun h3 => ?_
 exact wcg (mv R R (wlq (Ztf R) R (asg R R (wln (wqm () trivial (yc R (yc R (yc R (Zee R (by simp only [h3, cond_true]) yn)))) zn)))))
 exact wck (wqm () trivial (yc R (yc R (yc R (Zee R (by simp only [h3, cond_false]) yn)))) zn)
 intro _ _
 refine wqt (wcr (mv R R (bdO t1 fun v1 hv1 t1 => (wlc (cz0 Zw0 R fun w hw => Zoj w (bif (decide ((s1.1.tmod 10) < 0)) then (wr (0 - (s1.1.tmod 10))) else (s1.1.tmod 10)) hv1) R fun _ => (wle (ebs R (Zsq v1)) R fun b1 => (wlq (Zta (rgo (pbo pz (n := 1) (xs := ([v1] : List UInt8)) R R (by unfold maxLen; omega))) Zpb Z2 R) R ?_))))))
 refine mv R R (gdO t1 fun g1 t1 => (wlq (ZO R R g1) R (asg R R (wnt (wcg (mv R R (wlq (Zi1 R R (by decide)) R ?_)))))))
 exact asg R R (wln (wqb (ZmR (stwN l1 t1) () (su3 R R R) zn)))
 exact wcx (wqe (wqe (wbx (wjm _ () (Sum.inl.inj (stwB l1 t1)) (su2 R R) zn))))
 intro e1 _ hp
 obtain rfl : e1 = y1 := hp.symm
 refine wqt (wcs (wcr (mv R R (wnt (wcO t0 R (fun h4 t0 => ?_) fun h4 t0 => ?_)))))
 refine wcr (mv R R (gdO t0 fun g2 t0 => (wlq (ZO R R g2) R (asg R R (wnt (wct (wqr ?_)))))))
 obtain rfl := oi t0
 exact wq1 R R fun w hw => ⟨R, hw.weak zn⟩
 refine wck (wqt (wcr (mv R R (asg R R (wnt (wct ?_))))))
 obtain rfl := oi t0
 exact wq1 R R fun w hw => ⟨R, hw.weak zn⟩

theorem ZjW (w : World) (a_text : Str) {r : Int × Bool} (t0 : ZbE a_text = some r) : Calls Tryz.prog 48 #[bs a_text] w fun e w' => e = .returned (.tuple #[.int .i64 r.1, .bool r.2]) ∧ SH w [] [] w' := by
 refine cwc (args := [_]) Tryz.func48 R Tryz.ntmps48 R ?_
 unfold ZbE at t0
 refine wcr (asg R R (asg R R (wnt (wcs (wcr (mv R R (wlq (ZbM Z2 R) R (wlq (Zad R R) R (wnt (wcO t0 R (fun h1 t0 => ?_) fun h1 t0 => ?_))))))))))
 refine wcr (asg R R (asg R R (wnt (wct (wqr ?_)))))
 obtain rfl := oi t0
 exact ZJ R R R fun w hw => ⟨R, hw.weak zn⟩
 refine wck (wqt (wcr (asg R R (wnt (wcs (wcr (asg R R (wnt (gdO t0 fun g1 t0 => (sqO t0 fun y1 l1 t0 => (wj (J := Int) (X := Unit) (fun z => y1 = .inl z) (fun z _ => [(0, bs a_text), (4, iv z)]) (fun _ _ => []) ?_ ?_)))))))))))
 refine wcb (wcf (X := Unit) l1 (fun k1 s1 x1l => [(0, bs a_text), (4, iv s1), (5, iv ((k1 : Nat) : Int))]) (fun k1 s1 x1l => []) () (su3 R R R) zn fun k1 s1 x1l hN1 l1 => ?_)
 by_cases hk1 : k1 < a_text.b.length
 refine fos l1 hk1 fun _ t1 l1 => ?_
 unfold Zdm at t1
 have c1 : (decide (((k1 : Nat) : Int) < ((a_text.b.length : Nat) : Int))) = true := ddt (by omega)
 refine wcs (wcr (mv R R (mv R R (wlq (ZbM Z2 R) R (wlq (pls R R) R (wnt (wft R c1 (wck (wqt (wcs (wcb (wcs (wcs (wcj (X := Unit) (fun _ => True) (fun _ => [(0, bs a_text), (4, iv s1), (5, iv ((k1 : Nat) : Int)), (24, .bool ((decide ((((sat_ a_text k1)).toNat : Int) < 48)) || (decide ((((sat_ a_text k1)).toNat : Int) > 57))))]) (fun _ => []) ?_ ?_))))))))))))))
 refine wcg (mv R R (mv R R (wlq (Ze2 (k := k1) Z2 R R hk1) R (wlq (pls R R) R (mv R R (Zae (t := 19) R (fun h2 => ?_) fun h2 => ?_))))))
 exact wgf (j := 4) R R R R R (wgf (j := 4) R R R R R (wgf (j := 4) R R R R R (wgf (j := 4) R R R R R (wlq (pit R R) R (wln (wqm () trivial (yc R (yc R (yc R (ZS R (by rw [h2]; rfl) yn)))) zn))))))
 exact wgn (j := 4) R R R (mv R R (wgn (j := 4) R R R (mv R R (wgn (j := 4) R R R (wlq (Ze2 (k := k1) Z2 R R hk1) R (wgn (j := 4) R R R (wlq (Zad R R) R (wlq (pif R R) R (wln (wqm () trivial (yc R (yc R (yc R (ZS R (by rw [h2]; rfl) yn)))) zn))))))))))
 intro _ _
 refine wqt (wcO t1 R (fun h3 t1 => ?_) fun h3 t1 => ?_)
 refine wcr (asg R R (asg R R (wnt (wct (wqr (wbr (wqr (wqr (wbr (wqr (wqr ?_)))))))))))
 replace t0 := lpR t0 l1 t1
 obtain rfl := oi t0
 exact ZJ R R R fun w hw => ⟨R, hw.weak zn⟩
 refine wck (wqt (wcg (mv R R (wlq (Zex R R) R (mv R R (mv R R (wlq (Ze2 (k := k1) Z2 R R hk1) R (wlq (Zug Zpi ZmZ R) R (wlq (Zaf R R) R (wlq (Zaa R R) R (asg R R (wln (wqb (wqt (wcg (mv R R (wlq (Zj R R (by omega)) R ?_)))))))))))))))))
 exact asg R R (wln (Zk hk1 (stpN l1 t1) () (su3 R R R) zn))
 have c1 : (decide (((k1 : Nat) : Int) < ((a_text.b.length : Nat) : Int))) = false := ddf (by omega)
 have en1 := foe l1 hk1
 exact wcs (wcr (mv R R (mv R R (wlq (ZbM Z2 R) R (wlq (pls R R) R (wnt (wff R c1 (wcx (wqe (wqe (wbx (wjm _ () en1 (su2 R R) zn))))))))))))
 intro e1 _ hp
 replace t0 := sqE (j := e1) t0 hp
 refine wqt (wcs (wcs (bdO t0 fun y1 t1 t0 => (wj (J := Bool) (X := Unit) (fun z => y1 = z) (fun z _ => [(4, iv e1), (40, .bool z)]) (fun _ _ => []) ?_ ?_))))
 refine wcg (mv R R (wlq (Zad R R) R (mv R R (wlo (t := 35) t1 R (fun h4 t1 => ?_) fun h4 t1 => ?_))))
 exact wgf (j := 2) R R R R R (wgf (j := 2) R R R R R (wgf (j := 2) R R R R R (wgf (j := 2) R R R R R (wlq (pit R R) R (wln (wjm _ () (mtE t1) (su2 R R) zn))))))
 exact wgn (j := 2) R R R (mv R R (bdO t1 fun v1 hv1 t1 => (wgn (j := 2) R R R (wlc (cz0 Zfq R fun w hw => Z4 w e1 hv1) R (fun _ => (wgn (j := 2) R R R (mv R R (wgn (j := 2) R R R (wlq (ZkU R R) R (wlq (pif R R) R (wln (wjm _ () (mtE t1) (su2 R R) zn))))))))))))
 intro j2 _ hp
 obtain rfl : j2 = y1 := hp.symm
 refine wqt (wcO t0 R (fun h5 t0 => ?_) fun h5 t0 => ?_)
 refine wcr (asg R R (asg R R (wnt (wct (wqr ?_)))))
 obtain rfl := oi t0
 exact ZJ R R R fun w hw => ⟨R, hw.weak zn⟩
 refine wck (wqt (wcr (mv R R (asg R R (asg R R (wnt (wct ?_)))))))
 obtain rfl := oi t0
 exact ZJ R R R fun w hw => ⟨R, hw.weak zn⟩

theorem ZnV (w : World) (a_s : Str) {r : Int} (t0 : ZbY a_s = some r) : Calls Tryz.prog 24 #[bs a_s] w fun e w' => e = .returned (.int .i64 r) ∧ SH w [] [] w' := by
 refine cwc (args := [_]) Tryz.func24 R Tryz.ntmps24 R ?_
 unfold ZbY at t0
 refine wcr (asg R R (wnt (wcs (wcs (bdO t0 fun y1 t1 t0 => (wj (J := Bool) (X := Unit) (fun z => y1 = z) (fun z _ => [(0, bs a_s), (14, .bool z)]) (fun _ _ => []) ?_ ?_))))))
 refine wcg (mv R R (wlq (ZbM Z2 R) R (wlq (Zad R R) R (mv R R (wlo (t := 10) t1 R (fun h1 t1 => ?_) fun h1 t1 => ?_)))))
 exact wgn (j := 3) R R R (mv R R (gdO t1 fun g1 t1 => (wgn (j := 3) R R R (wlq (Ze2 (k := 0) Z2 R R g1) R (wgn (j := 3) R R R (wlq (pol R R) R (wlq (pit R R) R (wln (wjm _ () (mtE t1) (su2 R R) zn)))))))))
 exact wgf (j := 3) R R R R R (wgf (j := 3) R R R R R (wgf (j := 3) R R R R R (wlq (pif R R) R (wln (wjm _ () (mtE t1) (su2 R R) zn)))))
 intro j1 _ hp
 obtain rfl : j1 = y1 := hp.symm
 refine wqt (wcO t0 R (fun h2 t0 => ?_) fun h2 t0 => ?_)
 refine wcr (mv R R (gdO t0 fun g2 t0 => (wlq (Zk5 (l := 1) (h := a_s.b.length) Z2 R (.inr ⟨_, R, R⟩) (.inl ⟨R, R⟩) g2.1 g2.2) R (bdO t0 fun v1 hv1 t0 => (wlc (cz0 ZuP R fun w hw => ZjW w (ssub a_s 1 a_s.b.length) hv1) R fun _ => (mv R R (wlq (pex R R) R (wlq (pex R R) R (asg R R (asg R R (wnt (wcr (mv R R (wlq (Ztf R) R (asg R R (wnt (wct (wqr ?_))))))))))))))))))
 obtain rfl := oi t0
 exact wq1 R R fun w hw => ⟨R, hw.weak zn⟩
 refine wck (wqt (wcr (mv R R (bdO t0 fun v2 hv2 t0 => (wlc (cz0 ZuP R fun w hw => ZjW w a_s hv2) R fun _ => (mv R R (wlq (pex R R) R (wlq (pex R R) R (asg R R (asg R R (wnt (wcr (mv R R (asg R R (wnt (wct ?_))))))))))))))))
 obtain rfl := oi t0
 exact wq1 R R fun w hw => ⟨R, hw.weak zn⟩

theorem Zme (w : World) (a_a : GAct) {r : Bool} (t0 : Zhk a_a = some r) : Calls Tryz.prog 49 #[.agg #[.int .i64 a_a.Kind, .int .i64 a_a.A, .int .i64 a_a.B]] w fun e w' => e = .returned (.bool r) ∧ SH w [] [] w' := by
 refine cwc (args := [_]) Tryz.func49 R Tryz.ntmps49 R ?_
 unfold Zhk at t0
 refine wcr (wle (Zg R R) R fun b1 => (asg R R (wnt (wcs (wcr (wlq (pof Zf8 R) R (wlq (v := iv a_a.Kind) (plx tk_3 pz R R) R (wnt (wcb (wcr (wlq (pol R R) R (asg R R (wnt (wcO t0 R (fun h1 t0 => ?_) fun h1 t0 => ?_))))))))))))))
 refine wcs (bdO t0 fun y1 t1 t0 => (wj (J := Bool) (X := Unit) (fun z => y1 = z) (fun z _ => [(2, .bool z)]) (fun _ _ => []) ?_ ?_))
 refine wcg (wlq (pof ZaU R) R (wlq (v := iv a_a.A) (plx tk_3 pz R R) R (bdO t1 fun v1 hv1 t1 => (wlc (cz0 Zbb R fun w hw => ZF w a_a.A 1 999 hv1) R fun _ => (mv R R (wlo (t := 10) t1 R (fun h2 t1 => ?_) fun h2 t1 => ?_))))))
 exact wgn (j := 3) R R R (wlq (pof Zc5 R) R (wgn (j := 3) R R R (wlq (v := iv a_a.B) (plx tk_3 pz R R) R (wgn (j := 3) R R R (wlq (pol R R) R (wlq (pit R R) R (asg R R (wln (wjm _ () (mtE t1) (su1 R) zn)))))))))
 exact wgf (j := 3) R R R R R (wgf (j := 3) R R R R R (wgf (j := 3) R R R R R (wlq (pif R R) R (asg R R (wln (wjm _ () (mtE t1) (su1 R) zn))))))
 intro j1 _ hp
 obtain rfl : j1 = y1 := hp.symm
 refine wqt (wct (wbr (wqr ?_)))
 obtain rfl := oi t0
 exact wq1 R R fun w hw => ⟨R, hw.weak zn⟩
 refine wcr (wlq (pol R R) R (asg R R (wnt (wcO t0 R (fun h3 t0 => ?_) fun h3 t0 => ?_))))
 refine wcs (bdO t0 fun y1 t1 t0 => (wj (J := Bool) (X := Unit) (fun z => y1 = z) (fun z _ => [(2, .bool z)]) (fun _ _ => []) ?_ ?_))
 refine wcg (wlq (pof ZaU R) R (wlq (v := iv a_a.A) (plx tk_3 pz R R) R (bdO t1 fun v2 hv2 t1 => (wlc (cz0 Zbb R fun w hw => ZF w a_a.A 1 999 hv2) R fun _ => (mv R R (wlo (t := 20) t1 R (fun h4 t1 => ?_) fun h4 t1 => ?_))))))
 exact wgn (j := 3) R R R (wlq (pof Zc5 R) R (wgn (j := 3) R R R (wlq (v := iv a_a.B) (plx tk_3 pz R R) R (bdO t1 fun v3 hv3 t1 => (wgn (j := 3) R R R (wlc (cz0 Zbb R fun w hw => ZF w a_a.B 0 9 hv3) R (fun _ => (wlq (pit R R) R (asg R R (wln (wjm _ () (mtE t1) (su1 R) zn)))))))))))
 exact wgf (j := 3) R R R R R (wgf (j := 3) R R R R R (wgf (j := 3) R R R R R (wlq (pif R R) R (asg R R (wln (wjm _ () (mtE t1) (su1 R) zn))))))
 intro j2 _ hp
 obtain rfl : j2 = y1 := hp.symm
 refine wqt (wct (wbr (wqr ?_)))
 obtain rfl := oi t0
 exact wq1 R R fun w hw => ⟨R, hw.weak zn⟩
 refine wcs (wcr (wlq (pol R R) R (asg R R (wnt (wcj (X := Unit) (fun _ => True) (fun _ => [(1, ptr b1 0), (4, iv a_a.Kind), (25, .bool ((a_a.Kind == 3) || (a_a.Kind == 6)))]) (fun _ => [box b1 [iv a_a.Kind, iv a_a.A, iv a_a.B]]) ?_ ?_)))))
 refine Zbn R (fun h5 => ?_) fun h5 => ?_
 exact wck (wqm () trivial (yc R (yc R (ZS R (by rw [h5]; rfl) yn))) so1)
 exact wcg (wlq (pol R R) R (asg R R (wln (wqm () trivial (yc R (yc R (ZS R (by rw [h5]; rfl) yn))) so1))))
 intro _ _
 refine wqt (wcO t0 R (fun h6 t0 => ?_) fun h6 t0 => ?_)
 refine wcs (bdO t0 fun y1 t1 t0 => (wj (J := Bool) (X := Unit) (fun z => y1 = z) (fun z _ => [(2, .bool z)]) (fun _ _ => []) ?_ ?_))
 refine wcg (wlq (pof ZaU R) R (wlq (v := iv a_a.A) (plx tk_3 pz R R) R (bdO t1 fun v4 hv4 t1 => (wlc (cz0 Zbb R fun w hw => ZF w a_a.A 0 9 hv4) R fun _ => (mv R R (wlo (t := 31) t1 R (fun h7 t1 => ?_) fun h7 t1 => ?_))))))
 exact wgn (j := 3) R R R (wlq (pof Zc5 R) R (wgn (j := 3) R R R (wlq (v := iv a_a.B) (plx tk_3 pz R R) R (wgn (j := 3) R R R (wlq (pol R R) R (wlq (pit R R) R (asg R R (wln (wjm _ () (mtE t1) (su1 R) zn)))))))))
 exact wgf (j := 3) R R R R R (wgf (j := 3) R R R R R (wgf (j := 3) R R R R R (wlq (pif R R) R (asg R R (wln (wjm _ () (mtE t1) (su1 R) zn))))))
 intro j4 _ hp
 obtain rfl : j4 = y1 := hp.symm
 refine wqt (wct (wbr (wqr ?_)))
 obtain rfl := oi t0
 exact wq1 R R fun w hw => ⟨R, hw.weak zn⟩
 refine wcs (wcr (wlq (pol R R) R (asg R R (wnt (wcj (X := Unit) (fun _ => True) (fun _ => [(1, ptr b1 0), (36, .bool ((a_a.Kind == 4) || (a_a.Kind == 5)))]) (fun _ => [box b1 [iv a_a.Kind, iv a_a.A, iv a_a.B]]) ?_ ?_)))))
 refine Zbn R (fun h8 => ?_) fun h8 => ?_
 exact wck (wqm () trivial (yc R (ZS R (by rw [h8]; rfl) yn)) so1)
 exact wcg (wlq (pol R R) R (asg R R (wln (wqm () trivial (yc R (ZS R (by rw [h8]; rfl) yn)) so1))))
 intro _ _
 refine wqt (wcO t0 R (fun h9 t0 => ?_) fun h9 t0 => ?_)
 refine wcs (wcj (X := Unit) (fun _ => True) (fun _ => [(2, .bool ((a_a.A == 0) && (a_a.B == 0)))]) (fun _ => []) ?_ ?_)
 refine wcg (wlq (pof ZaU R) R (wlq (v := iv a_a.A) (plx tk_3 pz R R) R (wlq (pol R R) R (mv R R (Zae (t := 42) R (fun h10 => ?_) fun h10 => ?_)))))
 exact wgn (j := 3) R R R (wlq (pof Zc5 R) R (wgn (j := 3) R R R (wlq (v := iv a_a.B) (plx tk_3 pz R R) R (wgn (j := 3) R R R (wlq (pol R R) R (wlq (pit R R) R (asg R R (wln (wqm () trivial (ZS R (by rw [h10]; rfl) yn) zn)))))))))
 exact wgf (j := 3) R R R R R (wgf (j := 3) R R R R R (wgf (j := 3) R R R R R (wlq (pif R R) R (asg R R (wln (wqm () trivial (ZS R (by rw [h10]; rfl) yn) zn))))))
 intro _ _
 refine wqt (wct (wbr (wqr ?_)))
 obtain rfl := oi t0
 exact wq1 R R fun w hw => ⟨R, hw.weak zn⟩
 refine wck (wqb (wqt (wcr (asg R R (wnt (wct ?_))))))
 obtain rfl := oi t0
 exact wq1 R R fun w hw => ⟨R, hw.weak zn⟩

theorem Zn3 (w : World) (a_a : GAct) {r : Str × Bool} (t0 : Ze0 a_a = some r) : Calls Tryz.prog 25 #[.agg #[.int .i64 a_a.Kind, .int .i64 a_a.A, .int .i64 a_a.B]] w fun e w' => e = .returned (.tuple #[bs r.1, .bool r.2]) ∧ SH w [] [] w' := by
 refine cwc (args := [_]) Tryz.func25 R Tryz.ntmps25 R ?_
 unfold Ze0 at t0
 refine wcr (wle (Zg R R) R fun b1 => (asg R R (asg R R (wnt (wcs (wcr (wlq (v := .agg #[iv a_a.Kind, iv a_a.A, iv a_a.B]) (plb Za3 pz R R R) R (bdO t0 fun v1 hv1 t0 => (wlc (cz0 ZuN R fun w hw => Zme w a_a hv1) R fun _ => (wlq (Zd R) R (wnt (wcO t0 R (fun h1 t0 => ?_) fun h1 t0 => ?_))))))))))))
 refine wcr (asg R R (asg R R (wnt (wct (wqr ?_)))))
 obtain rfl := oi t0
 exact ZJ R R R fun w hw => ⟨R, hw.weak zn⟩
 refine wck (wqt (wcr (wle (ebs (qs := [(0, bs (⟨[]⟩ : Str)), (1, bs (⟨[97, 100, 109, 105, 116]⟩ : Str)), (2, bs (⟨[115, 117, 98, 109, 105, 116]⟩ : Str)), (3, bs (⟨[115, 101, 119]⟩ : Str)), (4, bs (⟨[114, 111, 117, 110, 100]⟩ : Str)), (5, bs (⟨[121, 101, 97, 114]⟩ : Str)), (6, bs (⟨[108, 97, 99, 107]⟩ : Str))]) R (ZsE (⟨[]⟩ : Str) (⟨[97, 100, 109, 105, 116]⟩ : Str) (⟨[115, 117, 98, 109, 105, 116]⟩ : Str) (⟨[115, 101, 119]⟩ : Str) (⟨[114, 111, 117, 110, 100]⟩ : Str) (⟨[121, 101, 97, 114]⟩ : Str) (⟨[108, 97, 99, 107]⟩ : Str))) R fun b2 => (wlq (pof Zf8 R) R (wlq (v := iv a_a.Kind) (plx tk_3 pk1 R R) R (gdO t0 fun g1 t0 => (wlq (ZX (rgo (pbo pz (n := 7) (xs := ([(⟨[]⟩ : Str), (⟨[97, 100, 109, 105, 116]⟩ : Str), (⟨[115, 117, 98, 109, 105, 116]⟩ : Str), (⟨[115, 101, 119]⟩ : Str), (⟨[114, 111, 117, 110, 100]⟩ : Str), (⟨[121, 101, 97, 114]⟩ : Str), (⟨[108, 97, 99, 107]⟩ : Str)] : List Str)) R R (by unfold maxLen; omega))) ZaZ R R g1.1 g1.2) R ?_)))))))
 refine wlq (v := bs (gx ([(⟨[]⟩ : Str), (⟨[97, 100, 109, 105, 116]⟩ : Str), (⟨[115, 117, 98, 109, 105, 116]⟩ : Str), (⟨[115, 101, 119]⟩ : Str), (⟨[114, 111, 117, 110, 100]⟩ : Str), (⟨[121, 101, 97, 114]⟩ : Str), (⟨[108, 97, 99, 107]⟩ : Str)] : List Str) ((a_a.Kind).toNat))) (Zw (rgo (pbo pz (n := 7) (xs := ([(⟨[]⟩ : Str), (⟨[97, 100, 109, 105, 116]⟩ : Str), (⟨[115, 117, 98, 109, 105, 116]⟩ : Str), (⟨[115, 101, 119]⟩ : Str), (⟨[114, 111, 117, 110, 100]⟩ : Str), (⟨[121, 101, 97, 114]⟩ : Str), (⟨[108, 97, 99, 107]⟩ : Str)] : List Str)) R R (by unfold maxLen; omega))) tk_9 R (ZD g1) R) R ?_
 refine asg R R (wnt (wcr (wle (ebs (qs := [(0, iv 0), (1, iv 1), (2, iv 2), (3, iv 1), (4, iv 0), (5, iv 0), (6, iv 1)]) R (Zvd 0 1 2 1 0 0 1)) R fun b3 => (wlq (pof Zf8 R) R (wlq (v := iv a_a.Kind) (plx tk_3 pk2 R R) R (gdO t0 fun g2 t0 => (wlq (ZX (rgo (pbo pz (n := 7) (xs := ([0, 1, 2, 1, 0, 0, 1] : List Int)) R R (by unfold maxLen; omega))) Zy R R g2.1 g2.2) R ?_)))))))
 refine wlq (v := iv (gx ([0, 1, 2, 1, 0, 0, 1] : List Int) ((a_a.Kind).toNat))) (Zw (rgo (pbo pz (n := 7) (xs := ([0, 1, 2, 1, 0, 0, 1] : List Int)) R R (by unfold maxLen; omega))) tk_3 R (ZD g2) R) R ?_
 refine asg R R (wnt (wcr (wlq (pof ZaU R) R (wlq (v := iv a_a.A) (plx tk_3 pk2 R R) R (wlq (pof Zc5 R) R (wlq (v := iv a_a.B) (plx tk_3 pk2 R R) R (wle (ebs R (ZmT a_a.A a_a.B)) R fun b4 => (asg R R (wnt (wcs (wcr (asg R R (wnt (gdO t0 fun g3 t0 => (Zn t0 fun y1 l1 t0 => (wj (J := Str) (X := Unit) (fun z => y1 = z) (fun z _ => [(4, bs z)]) (fun _ _ => []) ?_ ?_))))))))))))))))
 refine wcb (wcf (X := Unit) l1 (fun k1 s1 x1l => [(4, bs s1), (5, iv (gx ([0, 1, 2, 1, 0, 0, 1] : List Int) ((a_a.Kind).toNat))), (6, (sl (⟨some ⟨b4, 0, none⟩, 2, 2⟩ : Hd))), (7, iv ((k1 : Nat) : Int))]) (fun k1 s1 x1l => [box b4 [iv a_a.A, iv a_a.B]]) () (su4 R R R R) so1 fun k1 s1 x1l hN1 l1 => ?_)
 by_cases hk1 : k1 < ((gx ([0, 1, 2, 1, 0, 0, 1] : List Int) ((a_a.Kind).toNat))).toNat
 refine fos l1 hk1 fun _ t1 l1 => ?_
 unfold ZeL at t1
 have c1 : (decide (((k1 : Nat) : Int) < (gx ([0, 1, 2, 1, 0, 0, 1] : List Int) ((a_a.Kind).toNat)))) = true := ddt (by omega)
 refine wcs (wcr (mv R R (mv R R (wlq (pls R R) R (wnt (wft R c1 (wck (wqt (wcs (wcb (wcg (mv R R (gdO t1 fun g4 t1 => (wlq (ZO R R g4) R (mv R R (mv R R (gdO t1 fun g5 t1 => (wlq (Zm (k := k1) (rgo (pbo pz (n := 2) (xs := ([a_a.A, a_a.B] : List Int)) R R (by unfold maxLen; omega))) Zy R R g5) R ?_))))))))))))))))))
 refine wlq (v := iv (gx ([a_a.A, a_a.B] : List Int) k1)) (Zw (rgo (pbo pz (n := 2) (xs := ([a_a.A, a_a.B] : List Int)) R R (by unfold maxLen; omega))) tk_3 R g5 R) R ?_
 refine bdO t1 fun v2 hv2 t1 => wlc (cz0 Zfq R fun w hw => Z4 w (gx ([a_a.A, a_a.B] : List Int) k1) hv2) R fun _ => gdO t1 fun g6 t1 => wlq (ZO R R g6) R (asg R R (wln (wqb (wqt (wcg (mv R R (wlq (Zj R R (by omega)) R ?_)))))))
 exact asg R R (wln (Zk hk1 (stpN l1 t1) () (su4 R R R R) so1))
 have c1 : (decide (((k1 : Nat) : Int) < (gx ([0, 1, 2, 1, 0, 0, 1] : List Int) ((a_a.Kind).toNat)))) = false := ddf (by omega)
 have en1 := foe l1 hk1
 exact wcs (wcr (mv R R (mv R R (wlq (pls R R) R (wnt (wff R c1 (wcx (wqe (wqe (wbx (wjm _ () (Sum.inl.inj en1) (su1 R) zn)))))))))))
 intro e1 _ hp
 obtain rfl : e1 = y1 := hp.symm
 refine wqt (wcr (mv R R (asg R R (asg R R (wnt (wct ?_))))))
 obtain rfl := oi t0
 exact ZJ R R R fun w hw => ⟨R, hw.weak zn⟩

theorem ZoK (w : World) (a_line : Str) {r : GAct × Bool} (t0 : Zbw a_line = some r) : Calls Tryz.prog 10 #[bs a_line] w fun e w' => e = .returned (.tuple #[.agg #[.int .i64 r.1.Kind, .int .i64 r.1.A, .int .i64 r.1.B], .bool r.2]) ∧ SH w [] [] w' := by
 refine cwc (args := [_]) Tryz.func10 R Tryz.ntmps10 R ?_
 unfold Zbw at t0
 refine wcr (wle (eal (cs := [iv 0, iv 0, iv 0]) Zlo) R fun b1 => (asg R R (wnt (wcr (mv R R (bdO t0 fun v1 hv1 t0 => (wlc (cz1 fa_9 R fun w hw => Zi2 w a_line hv1) R fun x1 => (mv R R (wlq (pex R R) R (wlq (pex R R) R (asg R R (asg R R (wnt (wcs (wcs (bdO t0 fun y1 t1 t0 => (wj (J := Bool) (X := Unit) (fun z => y1 = z) (fun z _ => [(2, ptr b1 0), (4, (sl x1)), (25, .bool z)]) (fun _ _ => [box b1 [iv 0, iv 0, iv 0], ownF (sl x1) v1.1]) ?_ ?_)))))))))))))))))
 refine wcg (mv R R (wlq (Zd R) R (mv R R (wlo (t := 20) t1 R (fun h1 t1 => ?_) fun h1 t1 => ?_))))
 exact wgf (j := 2) R R R R R (wgf (j := 2) R R R R R (wgf (j := 2) R R R R R (wgf (j := 2) R R R R R (wlq (pit R R) R (wln (wjm _ () (mtE t1) (su3 R R R) (zc pk1 so1)))))))
 exact wgn (j := 2) R R R (mv R R (wgn (j := 2) R R R (wlq (pln (rgo pz) ZaZ R) R (bdO t1 fun v2 hv2 t1 => (wgn (j := 2) R R R (wlc (cz0 Zbb R fun w hw => ZF w ((v1.1.length : Nat) : Int) 1 3 hv2) R (fun _ => (wgn (j := 2) R R R (wlq (Zd R) R (wlq (pif R R) R (wln (wjm _ () (mtE t1) (su3 R R R) (zc pk1 so1)))))))))))))
 intro j1 _ hp
 obtain rfl : j1 = y1 := hp.symm
 refine wqt (wcO t0 R (fun h2 t0 => ?_) fun h2 t0 => ?_)
 refine wcr (wlq (Zl R ZmK) R (wls (sbx (cs' := [iv 0, iv 0, iv 0]) Za3 pz R R R R R R R) (asg R R (wnt (wct (wqr ?_))))))
 obtain rfl := oi t0
 exact Zx R Za3 R R pz R fun w hw => ⟨R, hw.weak zn⟩
 refine wck (wqt (wcr (mv R R (gdO t0 fun g1 t0 => (wlq (Zm (k := 0) (rgo pk1) ZaZ R R g1) R (wlq (v := bs (gx v1.1 0)) (Zw (rgo pk1) tk_9 R g1 R) R (asg R R (wnt (wcr (wle (ebs R Zai) R fun b2 => (asg R R (wnt (wcs (wcr (asg R R (wnt (gdO t0 fun g2 t0 => (Zn t0 fun y1 l1 t0 => (wj (J := Str × (List Int)) (X := Hd) (fun z => y1 = z) (fun z x => [(2, ptr b1 0), (6, bs z.1), (7, (sl x))]) (fun z x => [box b1 [iv 0, iv 0, iv 0], ownF (sl x) z.2]) ?_ ?_)))))))))))))))))))
 refine wcb (wcf (X := Hd) l1 (fun k1 s1 x1l => [(2, ptr b1 0), (4, (sl x1)), (6, bs s1.1), (7, (sl x1l)), (8, iv (((k1 + 1) : Nat) : Int))]) (fun k1 s1 x1l => [box b1 [iv 0, iv 0, iv 0], ownF (sl x1) v1.1, ownF (sl x1l) s1.2]) (⟨some ⟨b2, 0, none⟩, 0, 0⟩ : Hd) (su5 R R R R R) (zc pk1 (zc pk1 (zc (pbo pz (n := 0) (xs := ([] : List Int)) R R (by unfold maxLen; omega)) zn))) fun k1 s1 x1l hN1 l1 => ?_)
 by_cases hk1 : k1 < (v1.1.length - 1)
 refine fos l1 hk1 fun _ t1 l1 => ?_
 unfold ZdW at t1
 have c1 : (decide ((((k1 + 1) : Nat) : Int) < ((v1.1.length : Nat) : Int))) = true := ddt (by omega)
 refine wcs (wcr (mv R R (mv R R (wlq (pln (rgo pk1) ZaZ R) R (wlq (pls R R) R (wnt (wft R c1 (wck (wqt (wcs (wcb (wcr (mv R R (gdO t1 fun g3 t1 => (wlq (ZO R R g3) R (mv R R (mv R R (gdO t1 fun g4 t1 => (wlq (Zm (k := (k1 + 1)) (rgo pk1) ZaZ R R g4) R (wlq (v := bs (gx v1.1 (k1 + 1))) (Zw (rgo pk1) tk_9 R g4 R) R (gdO t1 fun g5 t1 => (wlq (ZO R R g5) R (asg R R (wnt (wcg (mv R R (mv R R (mv R R (wlq (Zm (k := (k1 + 1)) (rgo pk1) ZaZ R R g4) R (wlq (v := bs (gx v1.1 (k1 + 1))) (Zw (rgo pk1) tk_9 R g4 R) R (bdO t1 fun v3 hv3 t1 => (wlc (cz0 Zw9 R fun w hw => ZnV w (gx v1.1 (k1 + 1)) hv3) R fun _ => (wle (ebs R (ZaA v3)) R fun b3 => (gdO t1 fun g6 t1 => (wle (Zf (xs := s1.2) (ys := ([v3] : List Int)) Zbp pk3 R R (Zi fun _ g => Rg.on (rgo (pbo pz (n := 1) (xs := ([v3] : List Int)) R R (by unfold maxLen; omega))) g) g6) R fun x4 => ?_)))))))))))))))))))))))))))))))))))
 refine asg R R (wln (wqb (wqt (wcg (mv R R (wlq (Zj R R (by omega)) R ?_))))))
 exact asg R R (wln (Zk hk1 (stpN l1 t1) x4 (su5 R R R R R) (zc pk2 (zc pk2 so1))))
 have c1 : (decide ((((k1 + 1) : Nat) : Int) < ((v1.1.length : Nat) : Int))) = false := ddf (by omega)
 have en1 := foe l1 hk1
 exact wcs (wcr (mv R R (mv R R (wlq (pln (rgo pk1) ZaZ R) R (wlq (pls R R) R (wnt (wff R c1 (wcx (wqe (wqe (wbx (wjm _ x1l (Sum.inl.inj en1) (su3 R R R) (zc pz (zc pk1 zn))))))))))))))
 intro e1 x3 hp
 obtain rfl : e1 = y1 := hp.symm
 refine wqt (wcr (mv R R (wle (ebs R (ZmT 0 0)) R fun b4 => (gdO t0 fun g7 t0 => (wle (Zf (xs := e1.2) (ys := ([0, 0] : List Int)) Zbp pk2 R R (Zi fun _ g => Rg.on (rgo (pbo pz (n := 2) (xs := ([0, 0] : List Int)) R R (by unfold maxLen; omega))) g) g7) R fun x5 => ?_)))))
 refine asg R R (wnt (wcs (wcr (asg R R (wnt (sqO t0 fun y1 l1 t0 => (wj (J := Unit) (X := Unit) (fun z => y1 = .inl z) (fun _ _ => [(2, ptr b1 0)]) (fun _ _ => [box b1 [iv 0, iv 0, iv 0]]) ?_ ?_)))))))
 refine wcb (wcf (X := Unit) l1 (fun k2 s2 x2l => [(2, ptr b1 0), (6, bs e1.1), (7, (sl x5)), (9, iv (((k2 + 1) : Nat) : Int))]) (fun k2 s2 x2l => [ownF (sl x5) (e1.2 ++ [0, 0]), box b1 [iv 0, iv 0, iv 0]]) () (su4 R R R R) (zc pz (zc pk1 zn)) fun k2 s2 x2l hN2 l1 => ?_)
 by_cases hk2 : k2 < 6
 refine fos l1 hk2 fun _ t1 l1 => ?_
 unfold Zfi at t1
 have c2 : (decide ((((k2 + 1) : Nat) : Int) ≤ 6)) = true := ddt (by omega)
 refine wcs (wcr (mv R R (wlq (ZbQ R R) R (wnt (wft R c2 (wck (wqt (wcs (wcb (wcs (wcd [ownF (sl x5) (e1.2 ++ [0, 0]), box b1 [iv 0, iv 0, iv 0]] 9 mixed (aq 0 R (pom R) so2 R (aq 1 R (pom R) so2 R (gdO t1 fun g8 t1 => (aq 2 R (Zm (k := 0) (rgo pz) Zy R R g8) so2 R (aq (v := iv (gx (e1.2 ++ [0, 0]) 0)) 3 R (Zw (rgo pz) tk_3 R g8 R) so2 R (aq 4 R (pom R) so2 R (gdO t1 fun g9 t1 => (aq 5 R (Zm (k := 1) (rgo pz) Zy R R g9) so2 R (aq (v := iv (gx (e1.2 ++ [0, 0]) 1)) 6 R (Zw (rgo pz) tk_3 R g9 R) so2 R (aq 7 R (Zl R (Zr1 (((k2 + 1) : Nat) : Int) (gx (e1.2 ++ [0, 0]) 0) (gx (e1.2 ++ [0, 0]) 1))) so2 R (a1 8 (wse R (eal (cs := [iv 0, iv 0, iv 0]) Zlo) (fun _ => (zt (zc pk1 (zc pk1 zn)))) R fun b5 => (a1 9 (ZR R (sbx (cs' := [iv (((k2 + 1) : Nat) : Int), iv (gx (e1.2 ++ [0, 0]) 0), iv (gx (e1.2 ++ [0, 0]) 1)]) Za3 pz R R R R R R R) (Za2 (by kernel_rfl)) ?_)))))))))))))))))))))))))
 refine ae (wqt (wcr (wlq (v := .agg #[iv (((k2 + 1) : Nat) : Int), iv (gx (e1.2 ++ [0, 0]) 0), iv (gx (e1.2 ++ [0, 0]) 1)]) (plb Za3 pz R R R) R (bdO t1 fun v4 hv4 t1 => (wlc (cz0 Zw8 R fun w hw => Zn3 w (GAct.mk (((k2 + 1) : Nat) : Int) (gx (e1.2 ++ [0, 0]) 0) (gx (e1.2 ++ [0, 0]) 1)) hv4) R fun _ => (mv R R (wlq (pex R R) R (wlq (pex R R) R (asg R R (asg R R (wnt (wcs (wcj (X := Unit) (fun _ => True) (fun _ => [(2, ptr b1 0), (6, bs e1.1), (7, (sl x5)), (9, iv (((k2 + 1) : Nat) : Int)), (10, ptr b5 0), (77, .bool (v4.2 && (seq v4.1 e1.1)))]) (fun _ => [box b5 [iv (((k2 + 1) : Nat) : Int), iv (gx (e1.2 ++ [0, 0]) 0), iv (gx (e1.2 ++ [0, 0]) 1)], box b1 [iv 0, iv 0, iv 0], ownF (sl x5) (e1.2 ++ [0, 0])]) ?_ ?_)))))))))))))
 refine wcg (mv R R (mv R R (Zae (t := 73) R (fun h3 => ?_) fun h3 => ?_)))
 exact wgn (j := 1) R R R (mv R R (wgn (j := 1) R R R (mv R R (wgn (j := 1) R R R (wlq (ZpJ R R) R (wlq (pit R R) R (wln (wqm () trivial (yc R (yc R (yc R (yc R (yc R (ZS R (by rw [h3]; rfl) yn)))))) (zc pz (zc pk1 so1))))))))))
 exact wgf (j := 1) R R R R R (wgf (j := 1) R R R R R (wgf (j := 1) R R R R R (wlq (pif R R) R (wln (wqm () trivial (yc R (yc R (yc R (yc R (yc R (ZS R (by rw [h3]; rfl) yn)))))) (zc pz (zc pk1 so1)))))))
 intro _ _
 refine wqt (wcO t1 R (fun h4 t1 => ?_) fun h4 t1 => ?_)
 refine wcr (wlq (v := .agg #[iv (((k2 + 1) : Nat) : Int), iv (gx (e1.2 ++ [0, 0]) 0), iv (gx (e1.2 ++ [0, 0]) 1)]) (plb Za3 pz R R R) R (wls (sbx (cs' := [iv (((k2 + 1) : Nat) : Int), iv (gx (e1.2 ++ [0, 0]) 0), iv (gx (e1.2 ++ [0, 0]) 1)]) Za3 pk1 R R R R R R R) (asg R R (wnt (wct (wbr (wqr (wqr (wbr (wqr (wqr ?_)))))))))))
 replace t0 := lpR t0 l1 t1
 obtain rfl := oi t0
 exact Zx R Za3 R R pz R fun w hw => ⟨R, hw.weak zn⟩
 refine wck (wqb (wqt (wcg (mv R R (wlq (Zj R R (by omega)) R ?_)))))
 exact asg R R (wln (Zk hk2 (stpN l1 t1) () (su4 R R R R) (zc pk2 (zc pk1 zn))))
 have c2 : (decide ((((k2 + 1) : Nat) : Int) ≤ 6)) = false := ddf (by omega)
 have en2 := foe l1 hk2
 exact wcs (wcr (mv R R (wlq (ZbQ R R) R (wnt (wff R c2 (wcx (wqe (wqe (wbx (wjm _ () en2 (su1 R) (zc pk1 zn)))))))))))
 intro e2 _ hp
 replace t0 := sqE (j := e2) t0 hp
 refine wqt (wcr (wlq (Zl R ZmK) R (wls (sbx (cs' := [iv 0, iv 0, iv 0]) Za3 pz R R R R R R R) (asg R R (wnt (wct ?_))))))
 obtain rfl := oi t0
 exact Zx R Za3 R R pz R fun w hw => ⟨R, hw.weak zn⟩

theorem ZcR (w : World) (a_list : List GMember) (v0a : Hd) (r0 : rdF w (dm w []) (sl v0a) a_list) {r : Bool} (t0 : Zbe a_list = some r) : Calls Tryz.prog 51 #[(sl v0a)] w fun e w' => e = .returned (.bool r) ∧ SH w [] [] w' := by
 refine cwc (args := [_]) Tryz.func51 R Tryz.ntmps51 R ?_
 unfold Zbe at t0
 refine wcr (asg R R (wnt (wcs (wcr (asg R R (wnt (gdO t0 fun g1 t0 => (sqO t0 fun y1 l1 t0 => (wj (J := Unit) (X := Unit) (fun z => y1 = .inl z) (fun _ _ => [(0, (sl v0a))]) (fun _ _ => []) ?_ ?_)))))))))
 refine wcb (wcf (X := Unit) l1 (fun k1 s1 x1l => [(0, (sl v0a)), (3, iv ((k1 : Nat) : Int))]) (fun k1 s1 x1l => []) () (su2 R R) zn fun k1 s1 x1l hN1 l1 => ?_)
 by_cases hk1 : k1 < a_list.length
 refine fos l1 hk1 fun _ t1 l1 => ?_
 unfold ZeG at t1
 have c1 : (decide (((k1 : Nat) : Int) < ((a_list.length : Nat) : Int))) = true := ddt (by omega)
 refine wcs (wcr (mv R R (mv R R (wlq (pln (rga r0) Zat R) R (wlq (pls R R) R (wnt (wft R c1 (wck (wqt (wcs (wcb (wcr (mv R R (mv R R (wlq (Zm (k := k1) (rga r0) Zat R R hk1) R (wlq (v := .agg #[iv ((gx a_list k1).Number), iv ((gx a_list k1).Since), iv ((gx a_list k1).Paid)]) (Zaw (rga r0) ZiO R hk1 R R R) R (wle (eal (cs := [iv 0, iv 0, iv 0]) Zpv) R fun b1 => (wls (sbx (cs' := [iv ((gx a_list k1).Number), iv ((gx a_list k1).Since), iv ((gx a_list k1).Paid)]) ZiO pz R R R R R R R) (wnt (wcs (bdO t1 fun y2 t2 t1 => (wj (J := Bool) (X := Unit) (fun z => y2 = z) (fun z _ => [(0, (sl v0a)), (3, iv ((k1 : Nat) : Int)), (48, .bool z)]) (fun _ _ => []) ?_ ?_))))))))))))))))))))))
 refine wcd [box b1 [iv ((gx a_list k1).Number), iv ((gx a_list k1).Since), iv ((gx a_list k1).Paid)]] 34 mixed (aq 0 R (pof Zcq R) so1 R (aq (v := iv ((gx a_list k1).Number)) 1 R (plx tk_3 pz R R) so1 R (a1 2 (bdO t2 fun v1 hv1 t2 => (wsc R (cz0 Zbb R fun w hw => ZF w ((gx a_list k1).Number) 1 999 hv1) (fun _ => (zt so1)) R fun _ => (aq 3 R (Zd R) so1 R (aq 4 R (pom R) so1 R (waO_ (t := 19) t2 R (fun h1 t2 => ?_) fun h1 t2 => ?_))))))))
 exact af 5 4 R R R R R so1 R (af 6 4 R R R R R so1 R (af 7 4 R R R R R so1 R (af 8 4 R R R R R so1 R (aq 9 R (pit R R) so1 R (aq 10 R (pom R) so1 R (af 11 10 R R R R R so1 R (af 12 10 R R R R R so1 R (af 13 10 R R R R R so1 R (af 14 10 R R R R R so1 R (af 15 10 R R R R R so1 R (af 16 10 R R R R R so1 R (af 17 10 R R R R R so1 R (aq 18 R (pit R R) so1 R (aq 19 R (pom R) so1 R (af 20 19 R R R R R so1 R (af 21 19 R R R R R so1 R (af 22 19 R R R R R so1 R (au 23 22 R R R R so1 R (au 24 22 R R R R so1 R (au 25 22 R R R R so1 R (au 26 22 R R R R so1 R (au 27 22 R R R R so1 R (au 28 22 R R R R so1 R (au 29 22 R R R R so1 R (au 30 22 R R R R so1 R (au 31 22 R R R R so1 R (af 32 19 R R R R R so1 R (aq 33 R (pit R R) so1 R (ae (wjm _ () (mtE t2) (su3 R R R) zn))))))))))))))))))))))))))))))
 refine an 5 4 R R R R (pof Zjx R) so1 R (an (v := iv ((gx a_list k1).Since)) 6 4 R R R R (plx tk_3 pz R R) so1 R (a1 7 (bdO t2 fun v2 hv2 t2 => (ZL (j := 4) R R R R (cz0 Zbb R fun w hw => ZF w ((gx a_list k1).Since) 1900 2999 hv2) (fun _ => (zt so1)) R fun _ => (an 8 4 R R R R (Zd R) so1 R (aq 9 R (pif R R) so1 R (aq 10 R (pom R) so1 R (waO_ (t := 25) t2 R (fun h2 t2 => ?_) fun h2 t2 => ?_))))))))
 exact af 11 10 R R R R R so1 R (af 12 10 R R R R R so1 R (af 13 10 R R R R R so1 R (af 14 10 R R R R R so1 R (af 15 10 R R R R R so1 R (af 16 10 R R R R R so1 R (af 17 10 R R R R R so1 R (aq 18 R (pit R R) so1 R (aq 19 R (pom R) so1 R (af 20 19 R R R R R so1 R (af 21 19 R R R R R so1 R (af 22 19 R R R R R so1 R (au 23 22 R R R R so1 R (au 24 22 R R R R so1 R (au 25 22 R R R R so1 R (au 26 22 R R R R so1 R (au 27 22 R R R R so1 R (au 28 22 R R R R so1 R (au 29 22 R R R R so1 R (au 30 22 R R R R so1 R (au 31 22 R R R R so1 R (af 32 19 R R R R R so1 R (aq 33 R (pit R R) so1 R (ae (wjm _ () (mtE t2) (su3 R R R) zn))))))))))))))))))))))))
 refine an 11 10 R R R R (pof Zg5 R) so1 R (an (v := iv ((gx a_list k1).Paid)) 12 10 R R R R (plx tk_3 pz R R) so1 R (an 13 10 R R R R (pof Zjx R) so1 R (an (v := iv ((gx a_list k1).Since)) 14 10 R R R R (plx tk_3 pz R R) so1 R (an 15 10 R R R R (Zaa R R) so1 R (a1 16 (bdO t2 fun v3 hv3 t2 => (ZL (j := 10) R R R R (cz0 Zbb R fun w hw => ZF w ((gx a_list k1).Paid) (wr ((gx a_list k1).Since - 1)) 2999 hv3) (fun _ => (zt so1)) R fun _ => (an 17 10 R R R R (Zd R) so1 R (aq 18 R (pif R R) so1 R (aq 19 R (pom R) so1 R (waO_ (t := 34) t2 R (fun h3 t2 => ?_) fun h3 t2 => ?_)))))))))))
 exact af 20 19 R R R R R so1 R (af 21 19 R R R R R so1 R (af 22 19 R R R R R so1 R (au 23 22 R R R R so1 R (au 24 22 R R R R so1 R (au 25 22 R R R R so1 R (au 26 22 R R R R so1 R (au 27 22 R R R R so1 R (au 28 22 R R R R so1 R (au 29 22 R R R R so1 R (au 30 22 R R R R so1 R (au 31 22 R R R R so1 R (af 32 19 R R R R R so1 R (aq 33 R (pit R R) so1 R (ae (wjm _ () (mtE t2) (su3 R R R) zn)))))))))))))))
 refine an 20 19 R R R R (pom R) so1 R (an 21 19 R R R R (Zad R R) so1 R (an 22 19 R R R R (pom R) so1 R (waO_ (t := 37) t2 R (fun h4 t2 => ?_) fun h4 t2 => ?_)))
 exact an 23 22 R R R R (pof Zcq R) so1 R (an (v := iv ((gx a_list k1).Number)) 24 22 R R R R (plx tk_3 pz R R) so1 R (an 25 22 R R R R (pom R) so1 R (an 26 22 R R R R (pom R) so1 R (an 27 22 R R R R (Zaa R R) so1 R (gdO t2 fun g2 t2 => (an 28 22 R R R R (ZX (rga r0) Zat R R g2.1 g2.2) so1 R (an 29 22 R R R R (Z5 (rga r0) (ZD g2) Zcq R) so1 R (an (v := iv ((gx a_list (((wr (((k1 : Nat) : Int) - 1))).toNat)).Number)) 30 22 R R R R (Zw (rga r0) tk_3 R (ZD g2) R) so1 R (an 31 22 R R R R (ZbQ R R) so1 R (an 32 19 R R R R (pit R R) so1 R (aq 33 R (pif R R) so1 R (ae (wjm _ () (mtE t2) (su3 R R R) zn)))))))))))))
 exact af 23 22 R R R R R so1 R (af 24 22 R R R R R so1 R (af 25 22 R R R R R so1 R (af 26 22 R R R R R so1 R (af 27 22 R R R R R so1 R (af 28 22 R R R R R so1 R (af 29 22 R R R R R so1 R (af 30 22 R R R R R so1 R (af 31 22 R R R R R so1 R (an 32 19 R R R R (pif R R) so1 R (aq 33 R (pif R R) so1 R (ae (wjm _ () (mtE t2) (su3 R R R) zn))))))))))))
 intro j1 _ hp
 obtain rfl : j1 = y2 := hp.symm
 refine wqt (wcO t1 R (fun h5 t1 => ?_) fun h5 t1 => ?_)
 refine wcr (asg R R (wnt (wct (wbr (wqr (wqr (wbr (wqr (wqr ?_)))))))))
 replace t0 := lpR t0 l1 t1
 obtain rfl := oi t0
 exact wq1 R R fun w hw => ⟨R, hw.weak zn⟩
 refine wck (wqb (wqt (wcg (mv R R (wlq (Zj R R (by omega)) R ?_)))))
 exact asg R R (wln (Zk hk1 (stpN l1 t1) () (su2 R R) zn))
 have c1 : (decide (((k1 : Nat) : Int) < ((a_list.length : Nat) : Int))) = false := ddf (by omega)
 have en1 := foe l1 hk1
 exact wcs (wcr (mv R R (mv R R (wlq (pln (rga r0) Zat R) R (wlq (pls R R) R (wnt (wff R c1 (wcx (wqe (wqe (wbx (wjm _ () en1 (su1 R) zn))))))))))))
 intro e1 _ hp
 replace t0 := sqE (j := e1) t0 hp
 refine wqt (wcr (mv R R (wlq (pln (rga r0) Zat R) R (wlq (ZbQ R R) R (asg R R (wnt (wct ?_)))))))
 obtain rfl := oi t0
 exact wq1 R R fun w hw => ⟨R, hw.weak zn⟩

theorem Ze1 (w : World) (a_stock : List Int) (v0a : Hd) (r0 : rdF w (dm w []) (sl v0a) a_stock) {r : Bool} (t0 : Zck a_stock = some r) : Calls Tryz.prog 52 #[(sl v0a)] w fun e w' => e = .returned (.bool r) ∧ SH w [] [] w' := by
 refine cwc (args := [_]) Tryz.func52 R Tryz.ntmps52 R ?_
 unfold Zck at t0
 refine wcr (asg R R (wnt (wcs (wcr (asg R R (wnt (gdO t0 fun g1 t0 => (sqO t0 fun y1 l1 t0 => (wj (J := Unit) (X := Unit) (fun z => y1 = .inl z) (fun _ _ => [(0, (sl v0a))]) (fun _ _ => []) ?_ ?_)))))))))
 refine wcb (wcf (X := Unit) l1 (fun k1 s1 x1l => [(0, (sl v0a)), (3, iv ((k1 : Nat) : Int))]) (fun k1 s1 x1l => []) () (su2 R R) zn fun k1 s1 x1l hN1 l1 => ?_)
 by_cases hk1 : k1 < a_stock.length
 refine fos l1 hk1 fun _ t1 l1 => ?_
 unfold Zgp at t1
 have c1 : (decide (((k1 : Nat) : Int) < ((a_stock.length : Nat) : Int))) = true := ddt (by omega)
 refine wcs (wcr (mv R R (mv R R (wlq (pln (rga r0) Zy R) R (wlq (pls R R) R (wnt (wft R c1 (wck (wqt (wcs (wcb (wcr (mv R R (mv R R (wlq (Zm (k := k1) (rga r0) Zy R R hk1) R (wlq (v := iv (gx a_stock k1)) (Zw (rga r0) tk_3 R hk1 R) R (bdO t1 fun v1 hv1 t1 => (wlc (cz0 Zbb R fun w hw => ZF w (gx a_stock k1) 0 1000000 hv1) R fun _ => (wlq (Zd R) R (wnt (wcO t1 R (fun h1 t1 => ?_) fun h1 t1 => ?_)))))))))))))))))))))
 refine wcr (asg R R (wnt (wct (wbr (wqr (wqr (wbr (wqr (wqr ?_)))))))))
 replace t0 := lpR t0 l1 t1
 obtain rfl := oi t0
 exact wq1 R R fun w hw => ⟨R, hw.weak zn⟩
 refine wck (wqb (wqt (wcg (mv R R (wlq (Zj R R (by omega)) R ?_)))))
 exact asg R R (wln (Zk hk1 (stpN l1 t1) () (su2 R R) zn))
 have c1 : (decide (((k1 : Nat) : Int) < ((a_stock.length : Nat) : Int))) = false := ddf (by omega)
 have en1 := foe l1 hk1
 exact wcs (wcr (mv R R (mv R R (wlq (pln (rga r0) Zy R) R (wlq (pls R R) R (wnt (wff R c1 (wcx (wqe (wqe (wbx (wjm _ () en1 (su1 R) zn))))))))))))
 intro e1 _ hp
 replace t0 := sqE (j := e1) t0 hp
 refine wqt (wcr (mv R R (wlq (pln (rga r0) Zy R) R (wlq (pol R R) R (asg R R (wnt (wct ?_)))))))
 obtain rfl := oi t0
 exact wq1 R R fun w hw => ⟨R, hw.weak zn⟩

theorem Zh9 (w : World) (a_list : List GBooking) (v0a : Hd) (r0 : rdF w (dm w []) (sl v0a) a_list) {r : Bool} (t0 : Zda a_list = some r) : Calls Tryz.prog 53 #[(sl v0a)] w fun e w' => e = .returned (.bool r) ∧ SH w [] [] w' := by
 refine cwc (args := [_]) Tryz.func53 R Tryz.ntmps53 R ?_
 unfold Zda at t0
 refine wcr (asg R R (wnt (wcs (wcr (asg R R (wnt (gdO t0 fun g1 t0 => (sqO t0 fun y1 l1 t0 => (wj (J := Unit) (X := Unit) (fun z => y1 = .inl z) (fun _ _ => [(0, (sl v0a))]) (fun _ _ => []) ?_ ?_)))))))))
 refine wcb (wcf (X := Unit) l1 (fun k1 s1 x1l => [(0, (sl v0a)), (3, iv ((k1 : Nat) : Int))]) (fun k1 s1 x1l => []) () (su2 R R) zn fun k1 s1 x1l hN1 l1 => ?_)
 by_cases hk1 : k1 < a_list.length
 refine fos l1 hk1 fun _ t1 l1 => ?_
 unfold Zfl at t1
 have c1 : (decide (((k1 : Nat) : Int) < ((a_list.length : Nat) : Int))) = true := ddt (by omega)
 refine wcs (wcr (mv R R (mv R R (wlq (pln (rga r0) Zgx R) R (wlq (pls R R) R (wnt (wft R c1 (wck (wqt (wcs (wcb (wcr (mv R R (mv R R (wlq (Zm (k := k1) (rga r0) Zgx R R hk1) R (wlq (v := .agg #[iv ((gx a_list k1).Day), iv ((gx a_list k1).From), iv ((gx a_list k1).To), iv ((gx a_list k1).Sum)]) (Zaw (rga r0) ZmJ R hk1 R R R) R (wle (eal (cs := [iv 0, iv 0, iv 0, iv 0]) ZuJ) R fun b1 => (wls (sbx (cs' := [iv ((gx a_list k1).Day), iv ((gx a_list k1).From), iv ((gx a_list k1).To), iv ((gx a_list k1).Sum)]) ZmJ pz R R R R R R R) (wnt (wcs (bdO t1 fun y2 t2 t1 => (wj (J := Bool) (X := Unit) (fun z => y2 = z) (fun z _ => [(0, (sl v0a)), (3, iv ((k1 : Nat) : Int)), (58, .bool z)]) (fun _ _ => []) ?_ ?_))))))))))))))))))))))
 refine wcd [box b1 [iv ((gx a_list k1).Day), iv ((gx a_list k1).From), iv ((gx a_list k1).To), iv ((gx a_list k1).Sum)]] 44 mixed (aq 0 R (pof Zh0 R) so1 R (aq (v := iv ((gx a_list k1).Day)) 1 R (plx tk_3 pz R R) so1 R (a1 2 (bdO t2 fun v1 hv1 t2 => (wsc R (cz0 Zbb R fun w hw => ZF w ((gx a_list k1).Day) 0 9999 hv1) (fun _ => (zt so1)) R fun _ => (aq 3 R (Zd R) so1 R (aq 4 R (pom R) so1 R (waO_ (t := 19) t2 R (fun h1 t2 => ?_) fun h1 t2 => ?_))))))))
 refine af 5 4 R R R R R so1 R (af 6 4 R R R R R so1 R (af 7 4 R R R R R so1 R (af 8 4 R R R R R so1 R (aq 9 R (pit R R) so1 R (aq 10 R (pom R) so1 R (af 11 10 R R R R R so1 R (af 12 10 R R R R R so1 R (af 13 10 R R R R R so1 R (af 14 10 R R R R R so1 R (aq 15 R (pit R R) so1 R (aq 16 R (pom R) so1 R (af 17 16 R R R R R so1 R (af 18 16 R R R R R so1 R (af 19 16 R R R R R so1 R (af 20 16 R R R R R so1 R (af 21 16 R R R R R so1 R (aq 22 R (pit R R) so1 R (aq 23 R (pom R) so1 R (af 24 23 R R R R R so1 R (af 25 23 R R R R R so1 R (af 26 23 R R R R R so1 R (af 27 23 R R R R R so1 R (aq 28 R (pit R R) so1 R (aq 29 R (pom R) so1 R (af 30 29 R R R R R so1 R (af 31 29 R R R R R so1 R (af 32 29 R R R R R so1 R (au 33 32 R R R R so1 R (au 34 32 R R R R so1 R (au 35 32 R R R R so1 R (au 36 32 R R R R so1 R (au 37 32 R R R R so1 R (au 38 32 R R R R so1 R (au 39 32 R R R R so1 R (au 40 32 R R R R so1 R (au 41 32 R R R R so1 R (af 42 29 R R R R R so1 R (aq 43 R (pit R R) so1 R (ae ?_)))))))))))))))))))))))))))))))))))))))
 exact wjm _ () (mtE t2) (su3 R R R) zn
 refine an 5 4 R R R R (pof Zjz R) so1 R (an (v := iv ((gx a_list k1).From)) 6 4 R R R R (plx tk_3 pz R R) so1 R (a1 7 (bdO t2 fun v2 hv2 t2 => (ZL (j := 4) R R R R (cz0 Zbb R fun w hw => ZF w ((gx a_list k1).From) 0 4 hv2) (fun _ => (zt so1)) R fun _ => (an 8 4 R R R R (Zd R) so1 R (aq 9 R (pif R R) so1 R (aq 10 R (pom R) so1 R (waO_ (t := 25) t2 R (fun h2 t2 => ?_) fun h2 t2 => ?_))))))))
 exact af 11 10 R R R R R so1 R (af 12 10 R R R R R so1 R (af 13 10 R R R R R so1 R (af 14 10 R R R R R so1 R (aq 15 R (pit R R) so1 R (aq 16 R (pom R) so1 R (af 17 16 R R R R R so1 R (af 18 16 R R R R R so1 R (af 19 16 R R R R R so1 R (af 20 16 R R R R R so1 R (af 21 16 R R R R R so1 R (aq 22 R (pit R R) so1 R (aq 23 R (pom R) so1 R (af 24 23 R R R R R so1 R (af 25 23 R R R R R so1 R (af 26 23 R R R R R so1 R (af 27 23 R R R R R so1 R (aq 28 R (pit R R) so1 R (aq 29 R (pom R) so1 R (af 30 29 R R R R R so1 R (af 31 29 R R R R R so1 R (af 32 29 R R R R R so1 R (au 33 32 R R R R so1 R (au 34 32 R R R R so1 R (au 35 32 R R R R so1 R (au 36 32 R R R R so1 R (au 37 32 R R R R so1 R (au 38 32 R R R R so1 R (au 39 32 R R R R so1 R (au 40 32 R R R R so1 R (au 41 32 R R R R so1 R (af 42 29 R R R R R so1 R (aq 43 R (pit R R) so1 R (ae (wjm _ () (mtE t2) (su3 R R R) zn))))))))))))))))))))))))))))))))))
 refine an 11 10 R R R R (pof Zjy R) so1 R (an (v := iv ((gx a_list k1).To)) 12 10 R R R R (plx tk_3 pz R R) so1 R (a1 13 (bdO t2 fun v3 hv3 t2 => (ZL (j := 10) R R R R (cz0 Zbb R fun w hw => ZF w ((gx a_list k1).To) 0 4 hv3) (fun _ => (zt so1)) R fun _ => (an 14 10 R R R R (Zd R) so1 R (aq 15 R (pif R R) so1 R (aq 16 R (pom R) so1 R (waO_ (t := 31) t2 R (fun h3 t2 => ?_) fun h3 t2 => ?_))))))))
 exact af 17 16 R R R R R so1 R (af 18 16 R R R R R so1 R (af 19 16 R R R R R so1 R (af 20 16 R R R R R so1 R (af 21 16 R R R R R so1 R (aq 22 R (pit R R) so1 R (aq 23 R (pom R) so1 R (af 24 23 R R R R R so1 R (af 25 23 R R R R R so1 R (af 26 23 R R R R R so1 R (af 27 23 R R R R R so1 R (aq 28 R (pit R R) so1 R (aq 29 R (pom R) so1 R (af 30 29 R R R R R so1 R (af 31 29 R R R R R so1 R (af 32 29 R R R R R so1 R (au 33 32 R R R R so1 R (au 34 32 R R R R so1 R (au 35 32 R R R R so1 R (au 36 32 R R R R so1 R (au 37 32 R R R R so1 R (au 38 32 R R R R so1 R (au 39 32 R R R R so1 R (au 40 32 R R R R so1 R (au 41 32 R R R R so1 R (af 42 29 R R R R R so1 R (aq 43 R (pit R R) so1 R (ae (wjm _ () (mtE t2) (su3 R R R) zn))))))))))))))))))))))))))))
 refine an 17 16 R R R R (pof Zjz R) so1 R (an (v := iv ((gx a_list k1).From)) 18 16 R R R R (plx tk_3 pz R R) so1 R (an 19 16 R R R R (pof Zjy R) so1 R (an (v := iv ((gx a_list k1).To)) 20 16 R R R R (plx tk_3 pz R R) so1 R (an 21 16 R R R R (pol R R) so1 R (aq 22 R (pif R R) so1 R (aq 23 R (pom R) so1 R (waO_ (t := 38) t2 R (fun h4 t2 => ?_) fun h4 t2 => ?_)))))))
 exact af 24 23 R R R R R so1 R (af 25 23 R R R R R so1 R (af 26 23 R R R R R so1 R (af 27 23 R R R R R so1 R (aq 28 R (pit R R) so1 R (aq 29 R (pom R) so1 R (af 30 29 R R R R R so1 R (af 31 29 R R R R R so1 R (af 32 29 R R R R R so1 R (au 33 32 R R R R so1 R (au 34 32 R R R R so1 R (au 35 32 R R R R so1 R (au 36 32 R R R R so1 R (au 37 32 R R R R so1 R (au 38 32 R R R R so1 R (au 39 32 R R R R so1 R (au 40 32 R R R R so1 R (au 41 32 R R R R so1 R (af 42 29 R R R R R so1 R (aq 43 R (pit R R) so1 R (ae (wjm _ () (mtE t2) (su3 R R R) zn)))))))))))))))))))))
 refine an 24 23 R R R R (pof ZpE R) so1 R (an (v := iv ((gx a_list k1).Sum)) 25 23 R R R R (plx tk_3 pz R R) so1 R (a1 26 (bdO t2 fun v4 hv4 t2 => (ZL (j := 23) R R R R (cz0 Zbb R fun w hw => ZF w ((gx a_list k1).Sum) 1 100000 hv4) (fun _ => (zt so1)) R fun _ => (an 27 23 R R R R (Zd R) so1 R (aq 28 R (pif R R) so1 R (aq 29 R (pom R) so1 R (waO_ (t := 44) t2 R (fun h5 t2 => ?_) fun h5 t2 => ?_))))))))
 exact af 30 29 R R R R R so1 R (af 31 29 R R R R R so1 R (af 32 29 R R R R R so1 R (au 33 32 R R R R so1 R (au 34 32 R R R R so1 R (au 35 32 R R R R so1 R (au 36 32 R R R R so1 R (au 37 32 R R R R so1 R (au 38 32 R R R R so1 R (au 39 32 R R R R so1 R (au 40 32 R R R R so1 R (au 41 32 R R R R so1 R (af 42 29 R R R R R so1 R (aq 43 R (pit R R) so1 R (ae (wjm _ () (mtE t2) (su3 R R R) zn)))))))))))))))
 refine an 30 29 R R R R (pom R) so1 R (an 31 29 R R R R (Zad R R) so1 R (an 32 29 R R R R (pom R) so1 R (waO_ (t := 47) t2 R (fun h6 t2 => ?_) fun h6 t2 => ?_)))
 exact an 33 32 R R R R (pof Zh0 R) so1 R (an (v := iv ((gx a_list k1).Day)) 34 32 R R R R (plx tk_3 pz R R) so1 R (an 35 32 R R R R (pom R) so1 R (an 36 32 R R R R (pom R) so1 R (an 37 32 R R R R (Zaa R R) so1 R (gdO t2 fun g2 t2 => (an 38 32 R R R R (ZX (rga r0) Zgx R R g2.1 g2.2) so1 R (an 39 32 R R R R (Z5 (rga r0) (ZD g2) Zh0 R) so1 R (an (v := iv ((gx a_list (((wr (((k1 : Nat) : Int) - 1))).toNat)).Day)) 40 32 R R R R (Zw (rga r0) tk_3 R (ZD g2) R) so1 R (an 41 32 R R R R (pls R R) so1 R (an 42 29 R R R R (pit R R) so1 R (aq 43 R (pif R R) so1 R (ae (wjm _ () (mtE t2) (su3 R R R) zn)))))))))))))
 exact af 33 32 R R R R R so1 R (af 34 32 R R R R R so1 R (af 35 32 R R R R R so1 R (af 36 32 R R R R R so1 R (af 37 32 R R R R R so1 R (af 38 32 R R R R R so1 R (af 39 32 R R R R R so1 R (af 40 32 R R R R R so1 R (af 41 32 R R R R R so1 R (an 42 29 R R R R (pif R R) so1 R (aq 43 R (pif R R) so1 R (ae (wjm _ () (mtE t2) (su3 R R R) zn))))))))))))
 intro j1 _ hp
 obtain rfl : j1 = y2 := hp.symm
 refine wqt (wcO t1 R (fun h7 t1 => ?_) fun h7 t1 => ?_)
 refine wcr (asg R R (wnt (wct (wbr (wqr (wqr (wbr (wqr (wqr ?_)))))))))
 replace t0 := lpR t0 l1 t1
 obtain rfl := oi t0
 exact wq1 R R fun w hw => ⟨R, hw.weak zn⟩
 refine wck (wqb (wqt (wcg (mv R R (wlq (Zj R R (by omega)) R ?_)))))
 exact asg R R (wln (Zk hk1 (stpN l1 t1) () (su2 R R) zn))
 have c1 : (decide (((k1 : Nat) : Int) < ((a_list.length : Nat) : Int))) = false := ddf (by omega)
 have en1 := foe l1 hk1
 exact wcs (wcr (mv R R (mv R R (wlq (pln (rga r0) Zgx R) R (wlq (pls R R) R (wnt (wff R c1 (wcx (wqe (wqe (wbx (wjm _ () en1 (su1 R) zn))))))))))))
 intro e1 _ hp
 replace t0 := sqE (j := e1) t0 hp
 refine wqt (wcr (mv R R (wlq (pln (rga r0) Zgx R) R (wlq (ZbQ R R) R (asg R R (wnt (wct ?_)))))))
 obtain rfl := oi t0
 exact wq1 R R fun w hw => ⟨R, hw.weak zn⟩

theorem Zcy (w : World) (a_c : GCell) {r : Bool} (t0 : Zby a_c = some r) : Calls Tryz.prog 107 #[.agg #[.int .i64 a_c.Split, .int .i64 a_c.A, .int .i64 a_c.B]] w fun e w' => e = .returned (.bool r) ∧ SH w [] [] w' := by
 refine cwc (args := [_]) Tryz.func107 R Tryz.ntmps107 R ?_
 unfold Zby at t0
 refine wcr (wle (Zg R R) R fun b1 => (asg R R (wnt (wcs (wcs (bdO t0 fun y1 t1 t0 => (wj (J := Bool) (X := Unit) (fun z => y1 = z) (fun z _ => [(1, ptr b1 0), (18, .bool z)]) (fun _ _ => [box b1 [iv a_c.Split, iv a_c.A, iv a_c.B]]) ?_ ?_)))))))
 refine wcg (wlq (pof Zbc R) R (wlq (v := iv a_c.Split) (plx tk_3 pz R R) R (bdO t1 fun v1 hv1 t1 => (wlc (cz0 Zbb R fun w hw => ZF w a_c.Split 0 2 hv1) R fun _ => (wlq (Zd R) R (mv R R (wlo (t := 7) t1 R (fun h1 t1 => ?_) fun h1 t1 => ?_)))))))
 exact wgf (j := 4) R R R R R (wgf (j := 4) R R R R R (wgf (j := 4) R R R R R (wgf (j := 4) R R R R R (wlq (pit R R) R (mv R R (wgf (j := 10) R R R R R (wgf (j := 10) R R R R R (wgf (j := 10) R R R R R (wgf (j := 10) R R R R R (wlq (pit R R) R (wln (wjm _ () (mtE t1) (su2 R R) so1))))))))))))
 refine wgn (j := 4) R R R (wlq (pof ZaT R) R (wgn (j := 4) R R R (wlq (v := iv a_c.A) (plx tk_3 pz R R) R (bdO t1 fun v2 hv2 t1 => (wgn (j := 4) R R R (wlc (cz0 Zbb R fun w hw => ZF w a_c.A 0 5 hv2) R (fun _ => (wgn (j := 4) R R R (wlq (Zd R) R (wlq (pif R R) R (mv R R (wlo (t := 13) t1 R (fun h2 t1 => ?_) fun h2 t1 => ?_))))))))))))
 exact wgf (j := 10) R R R R R (wgf (j := 10) R R R R R (wgf (j := 10) R R R R R (wgf (j := 10) R R R R R (wlq (pit R R) R (wln (wjm _ () (mtE t1) (su2 R R) so1))))))
 exact wgn (j := 10) R R R (wlq (pof Za6 R) R (wgn (j := 10) R R R (wlq (v := iv a_c.B) (plx tk_3 pz R R) R (bdO t1 fun v3 hv3 t1 => (wgn (j := 10) R R R (wlc (cz0 Zbb R fun w hw => ZF w a_c.B 0 5 hv3) R (fun _ => (wgn (j := 10) R R R (wlq (Zd R) R (wlq (pif R R) R (wln (wjm _ () (mtE t1) (su2 R R) so1))))))))))))
 intro j1 _ hp
 obtain rfl : j1 = y1 := hp.symm
 refine wqt (wcO t0 R (fun h3 t0 => ?_) fun h3 t0 => ?_)
 refine wcr (asg R R (wnt (wct (wqr ?_))))
 obtain rfl := oi t0
 exact wq1 R R fun w hw => ⟨R, hw.weak zn⟩
 refine wck (wqt (wcr (wlq (pof Zbc R) R (wlq (v := iv a_c.Split) (plx tk_3 pz R R) R (wlq (pol R R) R (wlq (pof ZaT R) R (wlq (v := iv a_c.A) (plx tk_3 pz R R) R (wlq (pof Za6 R) R (wlq (v := iv a_c.B) (plx tk_3 pz R R) R (wlq (pol R R) R (wlq (Zny ub_4 R R) R (asg R R (wnt (wct ?_))))))))))))))
 obtain rfl := oi t0
 exact wq1 R R fun w hw => ⟨R, hw.weak zn⟩

theorem Zag (w : World) (a_b : GBlock) (v0a : Hd) (r0 : rdF w (dm w []) (sl v0a) a_b.Cells) {r : Bool} (t0 : Z9 a_b = some r) : Calls Tryz.prog 67 #[.agg #[.int .i64 a_b.Size, (sl v0a)]] w fun e w' => e = .returned (.bool r) ∧ SH w [] [] w' := by
 refine cwc (args := [_]) Tryz.func67 R Tryz.ntmps67 R ?_
 unfold Z9 at t0
 refine wcr (wle (Zg R R) R fun b1 => (asg R R (wnt (wcs (wcs (bdO t0 fun y1 t1 t0 => (wj (J := Bool) (X := Unit) (fun z => y1 = z) (fun z _ => [(1, ptr b1 0), (18, .bool z)]) (fun _ _ => [box b1 [iv a_b.Size, (sl v0a)]]) ?_ ?_)))))))
 refine wcg (wlq (pof ZM R) R (wlq (v := iv a_b.Size) (plx tk_3 pz R R) R (bdO t1 fun v1 hv1 t1 => (wlc (cz0 Zbb R fun w hw => ZF w a_b.Size 1 4 hv1) R fun _ => (wlq (Zd R) R (mv R R (wlo (t := 8) t1 R (fun h1 t1 => ?_) fun h1 t1 => ?_)))))))
 exact wgf (j := 4) R R R R R (wgf (j := 4) R R R R R (wgf (j := 4) R R R R R (wgf (j := 4) R R R R R (wgf (j := 4) R R R R R (wgf (j := 4) R R R R R (wgf (j := 4) R R R R R (wgf (j := 4) R R R R R (wgf (j := 4) R R R R R (wlq (pit R R) R (wln (wjm _ () (mtE t1) (su2 R R) so1)))))))))))
 exact wgn (j := 4) R R R (wlq (pof Zv R) R (wgn (j := 4) R R R (wlq (v := (sl v0a)) (plx ZN pz R R) R (wgn (j := 4) R R R (wlq (pln (rga r0) ZU R) R (wgn (j := 4) R R R (wlq (pof ZM R) R (wgn (j := 4) R R R (wlq (v := iv a_b.Size) (plx tk_3 pz R R) R (wgn (j := 4) R R R (wlq (pof ZM R) R (wgn (j := 4) R R R (wlq (v := iv a_b.Size) (plx tk_3 pz R R) R (wgn (j := 4) R R R (wlq (Zex R R) R (wgn (j := 4) R R R (wlq (ZcD R R) R (wlq (pif R R) R (wln (wjm _ () (mtE t1) (su2 R R) so1))))))))))))))))))))
 intro j1 _ hp
 obtain rfl : j1 = y1 := hp.symm
 refine wqt (wcO t0 R (fun h2 t0 => ?_) fun h2 t0 => ?_)
 refine wcr (asg R R (wnt (wct (wqr ?_))))
 obtain rfl := oi t0
 exact wq1 R R fun w hw => ⟨R, hw.weak zn⟩
 refine wck (wqt (wcs (wcr (asg R R (wnt (gdO t0 fun g1 t0 => (sqO t0 fun y1 l1 t0 => (wj (J := Unit) (X := Unit) (fun z => y1 = .inl z) (fun _ _ => []) (fun _ _ => []) ?_ ?_))))))))
 refine wcb (wcf (X := Unit) l1 (fun k1 s1 x1l => [(1, ptr b1 0), (3, iv ((k1 : Nat) : Int))]) (fun k1 s1 x1l => [box b1 [iv a_b.Size, (sl v0a)]]) () (su2 R R) so1 fun k1 s1 x1l hN1 l1 => ?_)
 by_cases hk1 : k1 < a_b.Cells.length
 refine fos l1 hk1 fun _ t1 l1 => ?_
 unfold Zgv at t1
 have c1 : (decide (((k1 : Nat) : Int) < ((a_b.Cells.length : Nat) : Int))) = true := ddt (by omega)
 refine wcs (wcr (mv R R (wlq (pof Zv R) R (wlq (v := (sl v0a)) (plx ZN pz R R) R (wlq (pln (rga r0) ZU R) R (wlq (pls R R) R (wnt (wft R c1 (wck (wqt (wcs (wcb (wcr (wlq (pof Zv R) R (wlq (v := (sl v0a)) (plx ZN pz R R) R (mv R R (wlq (Zm (k := k1) (rga r0) ZU R R hk1) R (wlq (v := .agg #[iv ((gx a_b.Cells k1).Split), iv ((gx a_b.Cells k1).A), iv ((gx a_b.Cells k1).B)]) (Zaw (rga r0) Zh R hk1 R R R) R (bdO t1 fun v2 hv2 t1 => (wlc (cz0 ZiV R fun w hw => Zcy w (gx a_b.Cells k1) hv2) R fun _ => (wlq (Zd R) R (wnt (wcO t1 R (fun h3 t1 => ?_) fun h3 t1 => ?_)))))))))))))))))))))))
 refine wcr (asg R R (wnt (wct (wbr (wqr (wqr (wbr (wqr (wqr ?_)))))))))
 replace t0 := lpR t0 l1 t1
 obtain rfl := oi t0
 exact wq1 R R fun w hw => ⟨R, hw.weak zn⟩
 refine wck (wqb (wqt (wcg (mv R R (wlq (Zj R R (by omega)) R ?_)))))
 exact asg R R (wln (Zk hk1 (stpN l1 t1) () (su2 R R) so1))
 have c1 : (decide (((k1 : Nat) : Int) < ((a_b.Cells.length : Nat) : Int))) = false := ddf (by omega)
 have en1 := foe l1 hk1
 exact wcs (wcr (mv R R (wlq (pof Zv R) R (wlq (v := (sl v0a)) (plx ZN pz R R) R (wlq (pln (rga r0) ZU R) R (wlq (pls R R) R (wnt (wff R c1 (wcx (wqe (wqe (wbx (wjm _ () en1 yn zn)))))))))))))
 intro e1 _ hp
 replace t0 := sqE (j := e1) t0 hp
 refine wqt (wcr (asg R R (wnt (wct ?_))))
 obtain rfl := oi t0
 exact wq1 R R fun w hw => ⟨R, hw.weak zn⟩

theorem ZiA (w : World) (a_e : GEntry) (v0a : Hd) (r0 : rdF w (dm w []) (sl v0a) a_e.Block.Cells) {r : Bool} (t0 : Zcg a_e = some r) : Calls Tryz.prog 54 #[.agg #[.int .i64 a_e.Owner, .int .i64 a_e.Day, .int .i64 a_e.Block.Size, (sl v0a)]] w fun e w' => e = .returned (.bool r) ∧ SH w [] [] w' := by
 refine cwc (args := [_]) Tryz.func54 R Tryz.ntmps54 R ?_
 unfold Zcg at t0
 refine wcr (wle (Zg R R) R fun b1 => (asg R R (wnt (wcs (bdO t0 fun y1 t1 t0 => (wj (J := Bool) (X := Unit) (fun z => y1 = z) (fun z _ => [(2, .bool z)]) (fun _ _ => []) ?_ ?_))))))
 refine wcg (wlq (pof ZdI R) R (wlq (v := iv a_e.Owner) (plx tk_3 pz R R) R (bdO t1 fun v1 hv1 t1 => (wlc (cz0 Zbb R fun w hw => ZF w a_e.Owner 0 99 hv1) R fun _ => (mv R R (wlo (t := 6) t1 R (fun h1 t1 => ?_) fun h1 t1 => ?_))))))
 refine wgn (j := 3) R R R (wlq (pof Zb5 R) R (wgn (j := 3) R R R (wlq (v := iv a_e.Day) (plx tk_3 pz R R) R (bdO t1 fun v2 hv2 t1 => (wgn (j := 3) R R R (wlc (cz0 Zbb R fun w hw => ZF w a_e.Day 0 9999 hv2) R (fun _ => (wlq (pit R R) R (mv R R (wlo (t := 11) t1 R (fun h2 t1 => ?_) fun h2 t1 => ?_))))))))))
 exact wgn (j := 8) R R R (wlq (pof ZaJ R) R (wgn (j := 8) R R R (wlq (v := .agg #[iv a_e.Block.Size, (sl v0a)]) (plb Zc pz R R R) R (bdO t1 fun v3 hv3 t1 => (wgn (j := 8) R R R (wlc (cz0 ZeH R fun w hw => Zag w a_e.Block v0a (ra r0 hw) hv3) R (fun _ => (wlq (pit R R) R (asg R R (wln (wjm _ () (mtE t1) (su1 R) zn)))))))))))
 exact wgf (j := 8) R R R R R (wgf (j := 8) R R R R R (wgf (j := 8) R R R R R (wlq (pif R R) R (asg R R (wln (wjm _ () (mtE t1) (su1 R) zn))))))
 exact wgf (j := 3) R R R R R (wgf (j := 3) R R R R R (wgf (j := 3) R R R R R (wlq (pif R R) R (mv R R (wgf (j := 8) R R R R R (wgf (j := 8) R R R R R (wgf (j := 8) R R R R R (wlq (pif R R) R (asg R R (wln (wjm _ () (mtE t1) (su1 R) zn)))))))))))
 intro j1 _ hp
 obtain rfl : j1 = y1 := hp.symm
 refine wqt (wct ?_)
 obtain rfl := oi t0
 exact wq1 R R fun w hw => ⟨R, hw.weak zn⟩

theorem ZnT (w : World) (a_list : List GMember) (v0a : Hd) (r0 : rdF w (dm w []) (sl v0a) a_list) (a_number : Int) {r : Bool} (t0 : Ze8 a_list a_number = some r) : Calls Tryz.prog 55 #[(sl v0a), .int .i64 a_number] w fun e w' => e = .returned (.bool r) ∧ SH w [] [] w' := by
 refine cwc (args := [_, _]) Tryz.func55 R Tryz.ntmps55 R ?_
 unfold Ze8 at t0
 refine wcr (asg R R (wnt (wcs (wcr (asg R R (wnt (gdO t0 fun g1 t0 => (sqO t0 fun y1 l1 t0 => (wj (J := Unit) (X := Unit) (fun z => y1 = .inl z) (fun _ _ => []) (fun _ _ => []) ?_ ?_)))))))))
 refine wcb (wcf (X := Unit) l1 (fun k1 s1 x1l => [(0, (sl v0a)), (1, iv a_number), (5, iv ((k1 : Nat) : Int))]) (fun k1 s1 x1l => []) () (su3 R R R) zn fun k1 s1 x1l hN1 l1 => ?_)
 by_cases hk1 : k1 < a_list.length
 refine fos l1 hk1 fun _ t1 l1 => ?_
 unfold ZeP at t1
 have c1 : (decide (((k1 : Nat) : Int) < ((a_list.length : Nat) : Int))) = true := ddt (by omega)
 refine wcs (wcr (mv R R (mv R R (wlq (pln (rga r0) Zat R) R (wlq (pls R R) R (wnt (wft R c1 (wck (wqt (wcs (wcb (wcr (mv R R (mv R R (wlq (Zm (k := k1) (rga r0) Zat R R hk1) R (wlq (Z5 (rga r0) hk1 Zcq R) R (wlq (v := iv ((gx a_list k1).Number)) (Zw (rga r0) tk_3 R hk1 R) R (mv R R (wlq (pol R R) R (wnt (wcO t1 R (fun h1 t1 => ?_) fun h1 t1 => ?_)))))))))))))))))))))
 refine wcr (asg R R (wnt (wct (wbr (wqr (wqr (wbr (wqr (wqr ?_)))))))))
 replace t0 := lpR t0 l1 t1
 obtain rfl := oi t0
 exact wq1 R R fun w hw => ⟨R, hw.weak zn⟩
 refine wck (wqb (wqt (wcg (mv R R (wlq (Zj R R (by omega)) R ?_)))))
 exact asg R R (wln (Zk hk1 (stpN l1 t1) () (su3 R R R) zn))
 have c1 : (decide (((k1 : Nat) : Int) < ((a_list.length : Nat) : Int))) = false := ddf (by omega)
 have en1 := foe l1 hk1
 exact wcs (wcr (mv R R (mv R R (wlq (pln (rga r0) Zat R) R (wlq (pls R R) R (wnt (wff R c1 (wcx (wqe (wqe (wbx (wjm _ () en1 yn zn))))))))))))
 intro e1 _ hp
 replace t0 := sqE (j := e1) t0 hp
 refine wqt (wcr (asg R R (wnt (wct ?_))))
 obtain rfl := oi t0
 exact wq1 R R fun w hw => ⟨R, hw.weak zn⟩

theorem Zl0 (w : World) (a_list : List GMember) (v0a : Hd) (r0 : rdF w (dm w []) (sl v0a) a_list) (a_year : Int) {r : List Int} (t0 : Zde a_list a_year = some r) : Calls Tryz.prog 69 #[(sl v0a), .int .i64 a_year] w fun e w' => ∃ x : Hd, e = .returned ((sl x)) ∧ SH w [] [ownF (sl x) r] w' := by
 refine cwc (args := [_, _]) Tryz.func69 R Tryz.ntmps69 R ?_
 unfold Zde at t0
 refine wcr (asg R R (wnt (wcr (wle (ebs R Zai) R fun b1 => (asg R R (wnt (wcs (wcr (asg R R (wnt (gdO t0 fun g1 t0 => (Zn t0 fun y1 l1 t0 => (wj (J := List Int) (X := Hd) (fun z => y1 = z) (fun _ x => [(5, (sl x))]) (fun z x => [ownF (sl x) z]) ?_ ?_)))))))))))))
 refine wcb (wcf (X := Hd) l1 (fun k1 s1 x1l => [(0, (sl v0a)), (1, iv a_year), (5, (sl x1l)), (6, iv ((k1 : Nat) : Int))]) (fun k1 s1 x1l => [ownF (sl x1l) s1]) (⟨some ⟨b1, 0, none⟩, 0, 0⟩ : Hd) (su4 R R R R) (zc (pbo pz (n := 0) (xs := ([] : List Int)) R R (by unfold maxLen; omega)) zn) fun k1 s1 x1l hN1 l1 => ?_)
 by_cases hk1 : k1 < a_list.length
 refine fos l1 hk1 fun _ t1 l1 => ?_
 unfold ZbC at t1
 have c1 : (decide (((k1 : Nat) : Int) < ((a_list.length : Nat) : Int))) = true := ddt (by omega)
 refine wcs (wcr (mv R R (mv R R (wlq (pln (rga r0) Zat R) R (wlq (pls R R) R (mv R R (Zef (t := 12) R c1 (wgn (j := 4) R R R (mv R R (bdO t1 fun v1 hv1 t1 => (wgn (j := 4) R R R (wlc (cz0 ZmN R fun w hw => ZcR w a_list v0a (ra r0 hw) hv1) R (fun _ => (wlq (pit R R) R (wnt (wcO t1 R (fun h1 t1 => ?_) fun h1 t1 => ?_))))))))))))))))
 refine wck (wqt (wcs (wcb (wcr (mv R R (mv R R (wlq (Zm (k := k1) (rga r0) Zat R R hk1) R (wlq (Z5 (rga r0) hk1 Zg5 R) R (wlq (v := iv ((gx a_list k1).Paid)) (Zw (rga r0) tk_3 R hk1 R) R (mv R R (wlq (ZeS R R) R (wnt (bdO t1 fun y2 t2 t1 => (wj (J := List Int) (X := Hd) (fun z => y2 = z) (fun _ x => [(0, (sl v0a)), (1, iv a_year), (5, (sl x)), (6, iv ((k1 : Nat) : Int)), (13, (sl v0a)), (14, .bool v1)]) (fun z x => [ownF (sl x) z]) ?_ ?_))))))))))))))
 refine wcO t2 R (fun h2 t2 => ?_) fun h2 t2 => ?_
 refine wcg (mv R R (mv R R (mv R R (wlq (Zm (k := k1) (rga r0) Zat R R hk1) R (wlq (Z5 (rga r0) hk1 Zcq R) R (wlq (v := iv ((gx a_list k1).Number)) (Zw (rga r0) tk_3 R hk1 R) R (wle (ebs R (ZaA ((gx a_list k1).Number))) R fun b2 => (gdO t2 fun g2 t2 => (wle (Zf (xs := s1) (ys := ([(gx a_list k1).Number] : List Int)) Zbp pk1 R R (Zi fun _ g => Rg.on (rgo (pbo pz (n := 1) (xs := ([(gx a_list k1).Number] : List Int)) R R (by unfold maxLen; omega))) g) g2) R fun x3 => ?_)))))))))
 exact asg R R (wln (wjm _ x3 (mtE t2) (su6 R R R R R R) so1))
 exact wck (wjm _ x1l (mtE t2) (su6 R R R R R R) so1)
 intro j1 x2 hp
 obtain rfl : j1 = y2 := hp.symm
 refine wqb (wqt (wcg (mv R R (wlq (Zj R R (by omega)) R ?_))))
 exact asg R R (wln (Zk hk1 (stpN l1 t1) x2 (su4 R R R R) so1))
 exact wcx (wqe (wqe (wbx (wjm _ x1l (Sum.inl.inj (stpB l1 t1)) (su1 R) so1))))
 have c1 : (decide (((k1 : Nat) : Int) < ((a_list.length : Nat) : Int))) = false := ddf (by omega)
 have en1 := foe l1 hk1
 exact wcs (wcr (mv R R (mv R R (wlq (pln (rga r0) Zat R) R (wlq (pls R R) R (mv R R (Zef (t := 12) R c1 (wgf (j := 4) R R R R R (wgf (j := 4) R R R R R (wlq (pif R R) R (wnt (wff R R (wcx (wqe (wqe (wbx (wjm _ x1l (Sum.inl.inj en1) (su1 R) so1)))))))))))))))))
 intro e1 x1 hp
 obtain rfl : e1 = y1 := hp.symm
 refine wqt (wcr (mv R R (asg R R (wnt (wct ?_)))))
 obtain rfl := oi t0
 exact wq1 R R fun w hw => ⟨x1, R, hw.weak so1⟩

theorem Zho (w : World) (a_g : GGuild) (v0a : Hd) (r0 : rdF w (dm w []) (sl v0a) a_g.Members) (v1a : Hd) (_r1 : rdF w (dm w []) (sl v1a) a_g.Stock) (v2a : Hd) (u2a : List Value) (_r2 : RdL w (dm w []) (sl v2a) u2a a_g.Entries) (v3a : Hd) (_r3 : rdF w (dm w []) (sl v3a) a_g.Books) {r : Int} (t0 : Zcc a_g = some r) : Calls Tryz.prog 33 #[.agg #[(sl v0a), (sl v1a), (sl v2a), (sl v3a), .int .i64 a_g.Round, .int .i64 a_g.Year]] w fun e w' => e = .returned (.int .i64 r) ∧ SH w [] [] w' := by
 refine cwc (args := [_]) Tryz.func33 R Tryz.ntmps33 R ?_
 unfold Zcc at t0
 refine wcr (wle (Zg R R) R fun b1 => (asg R R (wnt (wcr (wlq (pof Zct R) R (wlq (v := (sl v0a)) (plx ZeK pz R R) R (wlq (pof Zc3 R) R (wlq (v := iv a_g.Year) (plx tk_3 pz R R) R (bdO t0 fun v1 hv1 t0 => (wlc (cz1 Zxf R fun w hw => Zl0 w a_g.Members v0a (ra r0 hw) a_g.Year hv1) R fun x1 => (wlq (pln (rgo pz) Zy R) R (asg R R (wnt (wcs (wcr (mv R R (bdO t0 fun v2 hv2 t0 => (wlc (cz0 Zbb R fun w hw => ZF w ((v1.length : Nat) : Int) 2 10 hv2) R fun _ => (wlq (Zd R) R (wnt (wcO t0 R (fun h1 t0 => ?_) fun h1 t0 => ?_)))))))))))))))))))))
 refine wcr (asg R R (wnt (wct (wqr ?_))))
 obtain rfl := oi t0
 exact wq1 R R fun w hw => ⟨R, hw.weak zn⟩
 refine wck (wqt (wcr (mv R R (wlq (Zaa R R) R (asg R R (wnt (wct ?_)))))))
 obtain rfl := oi t0
 exact wq1 R R fun w hw => ⟨R, hw.weak zn⟩

theorem ZaB (w : World) (a_g : GGuild) (v0a : Hd) (r0 : rdF w (dm w []) (sl v0a) a_g.Members) (v1a : Hd) (r1 : rdF w (dm w []) (sl v1a) a_g.Stock) (v2a : Hd) (u2a : List Value) (r2 : RdL w (dm w []) (sl v2a) u2a a_g.Entries) (v3a : Hd) (r3 : rdF w (dm w []) (sl v3a) a_g.Books) {r : Bool} (t0 : Zar a_g = some r) : Calls Tryz.prog 27 #[.agg #[(sl v0a), (sl v1a), (sl v2a), (sl v3a), .int .i64 a_g.Round, .int .i64 a_g.Year]] w fun e w' => e = .returned (.bool r) ∧ SH w [] [] w' := by
 refine cwc (args := [_]) Tryz.func27 R Tryz.ntmps27 R ?_
 unfold Zar at t0
 refine wcr (wle (Zg R R) R fun b1 => (asg R R (wnt (wcs (wcs (bdO t0 fun y1 t1 t0 => (wj (J := Bool) (X := Unit) (fun z => y1 = z) (fun z _ => [(1, ptr b1 0), (32, .bool z)]) (fun _ _ => [box b1 [(sl v0a), (sl v1a), (sl v2a), (sl v3a), iv a_g.Round, iv a_g.Year]]) ?_ ?_)))))))
 refine wcg (wlq (pof Zct R) R (wlq (v := (sl v0a)) (plx ZeK pz R R) R (bdO t1 fun v1 hv1 t1 => (wlc (cz0 ZmN R fun w hw => ZcR w a_g.Members v0a (ra r0 hw) hv1) R fun _ => (wlq (Zd R) R (mv R R (wlo (t := 9) t1 R (fun h1 t1 => ?_) fun h1 t1 => ?_)))))))
 exact wgf (j := 4) R R R R R (wgf (j := 4) R R R R R (wgf (j := 4) R R R R R (wgf (j := 4) R R R R R (wlq (pit R R) R (mv R R (wgf (j := 10) R R R R R (wgf (j := 10) R R R R R (wgf (j := 10) R R R R R (wgf (j := 10) R R R R R (wlq (pit R R) R (mv R R (wgf (j := 16) R R R R R (wgf (j := 16) R R R R R (wgf (j := 16) R R R R R (wgf (j := 16) R R R R R (wlq (pit R R) R (mv R R (wgf (j := 22) R R R R R (wgf (j := 22) R R R R R (wgf (j := 22) R R R R R (wgf (j := 22) R R R R R (wlq (pit R R) R (wln (wjm _ () (mtE t1) (su2 R R) so1))))))))))))))))))))))))
 refine wgn (j := 4) R R R (wlq (pof Zb1 R) R (wgn (j := 4) R R R (wlq (v := (sl v1a)) (plx ZcA pz R R) R (bdO t1 fun v2 hv2 t1 => (wgn (j := 4) R R R (wlc (cz0 Zo2 R fun w hw => Ze1 w a_g.Stock v1a (ra r1 hw) hv2) R (fun _ => (wgn (j := 4) R R R (wlq (Zd R) R (wlq (pif R R) R (mv R R (wlo (t := 15) t1 R (fun h2 t1 => ?_) fun h2 t1 => ?_))))))))))))
 exact wgf (j := 10) R R R R R (wgf (j := 10) R R R R R (wgf (j := 10) R R R R R (wgf (j := 10) R R R R R (wlq (pit R R) R (mv R R (wgf (j := 16) R R R R R (wgf (j := 16) R R R R R (wgf (j := 16) R R R R R (wgf (j := 16) R R R R R (wlq (pit R R) R (mv R R (wgf (j := 22) R R R R R (wgf (j := 22) R R R R R (wgf (j := 22) R R R R R (wgf (j := 22) R R R R R (wlq (pit R R) R (wln (wjm _ () (mtE t1) (su2 R R) so1))))))))))))))))))
 refine wgn (j := 10) R R R (wlq (pof ZdJ R) R (wgn (j := 10) R R R (wlq (v := (sl v3a)) (plx Zhn pz R R) R (bdO t1 fun v3 hv3 t1 => (wgn (j := 10) R R R (wlc (cz0 Zs6 R fun w hw => Zh9 w a_g.Books v3a (ra r3 hw) hv3) R (fun _ => (wgn (j := 10) R R R (wlq (Zd R) R (wlq (pif R R) R (mv R R (wlo (t := 21) t1 R (fun h3 t1 => ?_) fun h3 t1 => ?_))))))))))))
 exact wgf (j := 16) R R R R R (wgf (j := 16) R R R R R (wgf (j := 16) R R R R R (wgf (j := 16) R R R R R (wlq (pit R R) R (mv R R (wgf (j := 22) R R R R R (wgf (j := 22) R R R R R (wgf (j := 22) R R R R R (wgf (j := 22) R R R R R (wlq (pit R R) R (wln (wjm _ () (mtE t1) (su2 R R) so1))))))))))))
 refine wgn (j := 16) R R R (wlq (pof ZQ R) R (wgn (j := 16) R R R (wlq (v := (sl v2a)) (plx Zas pz R R) R (wgn (j := 16) R R R (wlq (pln (rga r2) ZaC R) R (wgn (j := 16) R R R (wlq (Zad R R) R (wlq (pif R R) R (mv R R (wlo (t := 27) t1 R (fun h4 t1 => ?_) fun h4 t1 => ?_))))))))))
 exact wgf (j := 22) R R R R R (wgf (j := 22) R R R R R (wgf (j := 22) R R R R R (wgf (j := 22) R R R R R (wlq (pit R R) R (wln (wjm _ () (mtE t1) (su2 R R) so1))))))
 exact wgn (j := 22) R R R (wlq (pof Zc3 R) R (wgn (j := 22) R R R (wlq (v := iv a_g.Year) (plx tk_3 pz R R) R (bdO t1 fun v4 hv4 t1 => (wgn (j := 22) R R R (wlc (cz0 Zbb R fun w hw => ZF w a_g.Year 1900 2999 hv4) R (fun _ => (wgn (j := 22) R R R (wlq (Zd R) R (wlq (pif R R) R (wln (wjm _ () (mtE t1) (su2 R R) so1))))))))))))
 intro j1 _ hp
 obtain rfl : j1 = y1 := hp.symm
 refine wqt (wcO t0 R (fun h5 t0 => ?_) fun h5 t0 => ?_)
 refine wcr (asg R R (wnt (wct (wqr ?_))))
 obtain rfl := oi t0
 exact wq1 R R fun w hw => ⟨R, hw.weak zn⟩
 refine wck (wqt (wcs (wcr (asg R R (wnt (gdO t0 fun g1 t0 => (sqO t0 fun y1 l1 t0 => (wj (J := Unit) (X := Unit) (fun z => y1 = .inl z) (fun _ _ => [(1, ptr b1 0)]) (fun _ _ => [box b1 [(sl v0a), (sl v1a), (sl v2a), (sl v3a), iv a_g.Round, iv a_g.Year]]) ?_ ?_))))))))
 refine wcb (wcf (X := Unit) l1 (fun k1 s1 x1l => [(1, ptr b1 0), (3, iv ((k1 : Nat) : Int))]) (fun k1 s1 x1l => [box b1 [(sl v0a), (sl v1a), (sl v2a), (sl v3a), iv a_g.Round, iv a_g.Year]]) () (su2 R R) so1 fun k1 s1 x1l hN1 l1 => ?_)
 by_cases hk1 : k1 < a_g.Entries.length
 refine fos l1 hk1 fun _ t1 l1 => ?_
 unfold Zgt at t1
 have c1 : (decide (((k1 : Nat) : Int) < ((a_g.Entries.length : Nat) : Int))) = true := ddt (by omega)
 refine wcs (wcr (mv R R (wlq (pof ZQ R) R (wlq (v := (sl v2a)) (plx Zas pz R R) R (wlq (pln (rga r2) ZaC R) R (wlq (pls R R) R (wnt (wft R c1 (wck (wqt (wcs (wcb (wcr (wlq (pof ZQ R) R (wlq (v := (sl v2a)) (plx Zas pz R R) R (mv R R (wlq (Zm (k := k1) (rga r2) ZaC R R hk1) R (ZdM (rga r2) hk1 ?_))))))))))))))))))
 rintro ⟨_, _, he1⟩
 obtain ⟨w1, hc1, _⟩ := ZaX.1 he1
 refine wlq (v := .agg #[iv ((gx a_g.Entries k1).Owner), iv ((gx a_g.Entries k1).Day), iv (((gx a_g.Entries k1).Block).Size), (sl w1)]) (Zb7 (rga r2) Za0 R hc1 R R R) R (wle (eal (cs := [iv 0, iv 0, iv 0, (sl hn)]) Zgl) R fun b2 => (wls (sbx (cs' := [iv ((gx a_g.Entries k1).Owner), iv ((gx a_g.Entries k1).Day), iv (((gx a_g.Entries k1).Block).Size), (sl w1)]) Za0 pz R R R R R R R) (wnt (wcs (bdO t1 fun y2 t2 t1 => (wj (J := Bool) (X := Unit) (fun z => y2 = z) (fun z _ => [(1, ptr b1 0), (3, iv ((k1 : Nat) : Int)), (71, .bool z)]) (fun _ _ => [box b1 [(sl v0a), (sl v1a), (sl v2a), (sl v3a), iv a_g.Round, iv a_g.Year]]) ?_ ?_))))))
 refine wcd [box b2 [iv ((gx a_g.Entries k1).Owner), iv ((gx a_g.Entries k1).Day), iv (((gx a_g.Entries k1).Block).Size), (sl w1)], box b1 [(sl v0a), (sl v1a), (sl v2a), (sl v3a), iv a_g.Round, iv a_g.Year]] 27 mixed (aq (v := .agg #[iv ((gx a_g.Entries k1).Owner), iv ((gx a_g.Entries k1).Day), iv (((gx a_g.Entries k1).Block).Size), (sl w1)]) 0 R (plb Za0 pz R R R) so2 R (a1 1 (bdO t2 fun v5 hv5 t2 => (wsc R (cz0 Zs7 R fun w hw => ZiA w (GEntry.mk ((gx a_g.Entries k1).Owner) ((gx a_g.Entries k1).Day) ((gx a_g.Entries k1).Block)) w1 (Rg.on (Zbg hc1 (rga r2) hk1) hw) hv5) (fun _ => (zt so2)) R fun _ => (aq 2 R (Zd R) so2 R (aq 3 R (pom R) so2 R (waO_ (t := 48) t2 R (fun h6 t2 => ?_) fun h6 t2 => ?_)))))))
 exact af 4 3 R R R R R so2 R (af 5 3 R R R R R so2 R (af 6 3 R R R R R so2 R (af 7 3 R R R R R so2 R (af 8 3 R R R R R so2 R (af 9 3 R R R R R so2 R (aq 10 R (pit R R) so2 R (aq 11 R (pom R) so2 R (af 12 11 R R R R R so2 R (af 13 11 R R R R R so2 R (af 14 11 R R R R R so2 R (au 15 14 R R R R so2 R (au 16 14 R R R R so2 R (au 17 14 R R R R so2 R (au 18 14 R R R R so2 R (au 19 14 R R R R so2 R (au 20 14 R R R R so2 R (au 21 14 R R R R so2 R (au 22 14 R R R R so2 R (au 23 14 R R R R so2 R (au 24 14 R R R R so2 R (af 25 11 R R R R R so2 R (aq 26 R (pit R R) so2 R (ae (wjm _ () (mtE t2) (su3 R R R) (zc pk1 zn)))))))))))))))))))))))))
 refine an 4 3 R R R R (pof Zct R) so2 R (an (v := (sl v0a)) 5 3 R R R R (plx ZeK pk1 R R) so2 R (an 6 3 R R R R (pof ZdI R) so2 R (an (v := iv ((gx a_g.Entries k1).Owner)) 7 3 R R R R (plx tk_3 pz R R) so2 R (a1 8 (bdO t2 fun v6 hv6 t2 => (ZL (j := 3) R R R R (cz0 Zxx R fun w hw => ZnT w a_g.Members v0a (ra r0 hw) ((gx a_g.Entries k1).Owner) hv6) (fun _ => (zt so2)) R fun _ => (an 9 3 R R R R (Zd R) so2 R (aq 10 R (pif R R) so2 R (aq 11 R (pom R) so2 R (waO_ (t := 56) t2 R (fun h7 t2 => ?_) fun h7 t2 => ?_))))))))))
 exact af 12 11 R R R R R so2 R (af 13 11 R R R R R so2 R (af 14 11 R R R R R so2 R (au 15 14 R R R R so2 R (au 16 14 R R R R so2 R (au 17 14 R R R R so2 R (au 18 14 R R R R so2 R (au 19 14 R R R R so2 R (au 20 14 R R R R so2 R (au 21 14 R R R R so2 R (au 22 14 R R R R so2 R (au 23 14 R R R R so2 R (au 24 14 R R R R so2 R (af 25 11 R R R R R so2 R (aq 26 R (pit R R) so2 R (ae (wjm _ () (mtE t2) (su3 R R R) (zc pk1 zn)))))))))))))))))
 refine an 12 11 R R R R (pom R) so2 R (an 13 11 R R R R (Zad R R) so2 R (an 14 11 R R R R (pom R) so2 R (waO_ (t := 59) t2 R (fun h8 t2 => ?_) fun h8 t2 => ?_)))
 refine an 15 14 R R R R (pof Zb5 R) so2 R (an (v := iv ((gx a_g.Entries k1).Day)) 16 14 R R R R (plx tk_3 pz R R) so2 R (an 17 14 R R R R (pof ZQ R) so2 R (an (v := (sl v2a)) 18 14 R R R R (plx Zas pk1 R R) so2 R (an 19 14 R R R R (pom R) so2 R (an 20 14 R R R R (Zaa R R) so2 R (gdO t2 fun g2 t2 => (an 21 14 R R R R (ZX (rga r2) ZaC R R g2.1 g2.2) so2 R (an 22 14 R R R R (Z5 (rga r2) (ZD g2) Zb5 R) so2 R (ZhZ (rga r2) (ZD g2) ?_)))))))))
 rintro ⟨_, _, he2⟩
 obtain ⟨w2, hc2, _⟩ := ZaX.1 he2
 exact an (v := iv ((gx a_g.Entries (((wr (((k1 : Nat) : Int) - 1))).toNat)).Day)) 23 14 R R R R (ZjC (rga r2) tk_3 R hc2 R) so2 R (an 24 14 R R R R (pls R R) so2 R (an 25 11 R R R R (pit R R) so2 R (aq 26 R (pif R R) so2 R (ae (wjm _ () (mtE t2) (su3 R R R) (zc pk1 zn))))))
 exact af 15 14 R R R R R so2 R (af 16 14 R R R R R so2 R (af 17 14 R R R R R so2 R (af 18 14 R R R R R so2 R (af 19 14 R R R R R so2 R (af 20 14 R R R R R so2 R (af 21 14 R R R R R so2 R (af 22 14 R R R R R so2 R (af 23 14 R R R R R so2 R (af 24 14 R R R R R so2 R (an 25 11 R R R R (pif R R) so2 R (aq 26 R (pif R R) so2 R (ae (wjm _ () (mtE t2) (su3 R R R) (zc pk1 zn))))))))))))))
 intro j2 _ hp
 obtain rfl : j2 = y2 := hp.symm
 refine wqt (wcO t1 R (fun h9 t1 => ?_) fun h9 t1 => ?_)
 refine wcr (asg R R (wnt (wct (wbr (wqr (wqr (wbr (wqr (wqr ?_)))))))))
 replace t0 := lpR t0 l1 t1
 obtain rfl := oi t0
 exact wq1 R R fun w hw => ⟨R, hw.weak zn⟩
 refine wck (wqb (wqt (wcg (mv R R (wlq (Zj R R (by omega)) R ?_)))))
 exact asg R R (wln (Zk hk1 (stpN l1 t1) () (su2 R R) so1))
 have c1 : (decide (((k1 : Nat) : Int) < ((a_g.Entries.length : Nat) : Int))) = false := ddf (by omega)
 have en1 := foe l1 hk1
 exact wcs (wcr (mv R R (wlq (pof ZQ R) R (wlq (v := (sl v2a)) (plx Zas pz R R) R (wlq (pln (rga r2) ZaC R) R (wlq (pls R R) R (wnt (wff R c1 (wcx (wqe (wqe (wbx (wjm _ () en1 (su1 R) so1)))))))))))))
 intro e1 _ hp
 replace t0 := sqE (j := e1) t0 hp
 refine wqt (wcs (wcd [box b1 [(sl v0a), (sl v1a), (sl v2a), (sl v3a), iv a_g.Round, iv a_g.Year]] 6 mixed (aq 0 R (pof Zcs R) so1 R (aq (v := iv a_g.Round) 1 R (plx tk_3 pz R R) so1 R (aq (v := .agg #[(sl v0a), (sl v1a), (sl v2a), (sl v3a), iv a_g.Round, iv a_g.Year]) 2 R (plb Zb pz R R R) so1 R (a1 3 (bdO t0 fun v7 hv7 t0 => (wsc R (cz0 Zs3 R fun w hw => Zho w a_g v0a (ra r0 hw) v1a (ra r1 hw) v2a u2a (ra r2 hw) v3a (ra r3 hw) hv7) (fun _ => (zt so1)) R fun _ => (a1 4 (bdO t0 fun v8 hv8 t0 => (wsc R (cz0 Zbb R fun w hw => ZF w a_g.Round 0 v7 hv8) (fun _ => (zt so1)) R fun _ => (aq 5 R (Zp R) so1 R (ae (wqt (wct ?_)))))))))))))))
 obtain rfl := oi t0
 exact wq1 R R fun w hw => ⟨R, hw.weak zn⟩

theorem Zo8 (w : World) (a_year : Int) {r : GGuild × Bool} (t0 : ZfT a_year = some r) : Calls Tryz.prog 29 #[.int .i64 a_year] w fun e w' => ∃ x : Hd × Hd × Hd × (List Value) × Hd, e = .returned (.tuple #[.agg #[(sl x.1), (sl x.2.1), (sl x.2.2.1), (sl x.2.2.2.2), .int .i64 r.1.Round, .int .i64 r.1.Year], .bool r.2]) ∧ SH w [] [ownF (sl x.1) r.1.Members, ownF (sl x.2.1) r.1.Stock, own (sl x.2.2.1) x.2.2.2.1 r.1.Entries, ownF (sl x.2.2.2.2) r.1.Books] w' := by
 refine cwc (args := [_]) Tryz.func29 R Tryz.ntmps29 R ?_
 unfold ZfT at t0
 refine wcr (wle (eal (cs := [(sl hn), (sl hn), (sl hn), (sl hn), iv 0, iv 0]) ZE) R fun b1 => (asg R R (wnt (wcr (mv R R (wlq (Zl R (Zvc a_year)) R (wle (eal (cs := [(sl hn), (sl hn), (sl hn), (sl hn), iv 0, iv 0]) ZE) R fun b2 => (wls (sbx (cs' := [(sl hn), (sl hn), (sl hn), (sl hn), iv 0, iv a_year]) Zb pz R R R R R R R) (wnt (wcs (wcr (asg R R (wnt (Zn t0 fun y1 l1 t0 => (wj (J := List Int) (X := Hd) (fun z => y1 = z) (fun _ _ => [(2, ptr b1 0), (4, ptr b2 0)]) (fun z x => [box b2 [(sl hn), (sl x), (sl hn), (sl hn), iv 0, iv a_year], box b1 [(sl hn), (sl hn), (sl hn), (sl hn), iv 0, iv 0], ownF (sl x) z]) ?_ ?_)))))))))))))))
 refine wcb (wcf (X := Hd) l1 (fun k1 s1 x1l => [(2, ptr b1 0), (4, ptr b2 0), (5, iv ((k1 : Nat) : Int))]) (fun k1 s1 x1l => [box b2 [(sl hn), (sl x1l), (sl hn), (sl hn), iv 0, iv a_year], box b1 [(sl hn), (sl hn), (sl hn), (sl hn), iv 0, iv 0], ownF (sl x1l) s1]) hn (su3 R R R) (zc pz (zc pz (zc ZC zn))) fun k1 s1 x1l hN1 l1 => ?_)
 by_cases hk1 : k1 < 6
 refine fos l1 hk1 fun _ t1 l1 => ?_
 unfold ZhM at t1
 have c1 : (decide (((k1 : Nat) : Int) < 6)) = true := ddt (by omega)
 refine wcs (wcr (mv R R (wlq (pls R R) R (wnt (wft R c1 (wck (wqt (wcs (wcb (wcg (wlq (pof Zb1 R) R (wlq (v := (sl x1l)) (plx ZcA pz R R) R (wle (ebs R (ZaA 1000)) R fun b3 => (gdO t1 fun g1 t1 => (wle (Zf (xs := s1) (ys := ([1000] : List Int)) Zbp pk3 R R (Zi fun _ g => Rg.on (rgo (pbo pz (n := 1) (xs := ([1000] : List Int)) R R (by unfold maxLen; omega))) g) g1) R fun x2 => ?_)))))))))))))))
 refine wlq (pof Zb1 R) R (wls (sbx (cs' := [(sl hn), (sl x2), (sl hn), (sl hn), iv 0, iv a_year]) ZcA pk2 R R R R R R R) (wln (wqb (wqt (wcg (mv R R (wlq (Zj R R (by omega)) R ?_)))))))
 exact asg R R (wln (Zk hk1 (stpN l1 t1) x2 (su3 R R R) (zc pz (zc pk2 so1))))
 have c1 : (decide (((k1 : Nat) : Int) < 6)) = false := ddf (by omega)
 have en1 := foe l1 hk1
 exact wcs (wcr (mv R R (wlq (pls R R) R (wnt (wff R c1 (wcx (wqe (wqe (wbx (wjm _ x1l (Sum.inl.inj en1) (su2 R R) so3))))))))))
 intro e1 x1 hp
 obtain rfl : e1 = y1 := hp.symm
 refine wqt (wcs (wcr (wlq (v := .agg #[(sl hn), (sl x1), (sl hn), (sl hn), iv 0, iv a_year]) (plb Zb pz R R R) R (bdO t0 fun v1 hv1 t0 => (wlc (cz0 Zhb R fun w hw => ZaB w (GGuild.mk ([] : List GMember) e1 ([] : List GEntry) ([] : List GBooking) 0 a_year) hn (Rg.on ZjA hw) x1 (Rg.on (rgo pk2) hw) hn [] (Rg.on ZjA hw) hn (Rg.on ZjA hw) hv1) R fun _ => (wlq (Zd R) R (wnt (wcO t0 R (fun h1 t0 => ?_) fun h1 t0 => ?_))))))))
 refine wcr (wlq (Zl R ZuY) R (wls (sbx (cs' := [(sl hn), (sl hn), (sl hn), (sl hn), iv 0, iv 0]) Zb pk1 R R R R R R R) (asg R R (wnt (wct (wqr ?_))))))
 obtain rfl := oi t0
 exact Zx R Zb R R pz R fun w hw => ⟨(hn, hn, hn, [], hn), R, hw.weak (zc ZC (zc ZC (zc ZC (zc ZC zn))))⟩
 refine wck (wqt (wcr (wlq (v := .agg #[(sl hn), (sl x1), (sl hn), (sl hn), iv 0, iv a_year]) (plb Zb pz R R R) R (wls (sbx (cs' := [(sl hn), (sl x1), (sl hn), (sl hn), iv 0, iv a_year]) Zb pk1 R R R R R R R) (asg R R (wnt (wct ?_)))))))
 obtain rfl := oi t0
 exact Zx R Zb R R pz R fun w hw => ⟨(hn, x1, hn, [], hn), R, hw.weak (zc ZC (zc pk2 (zc ZC (zc ZC zn))))⟩

theorem Zg6 (w : World) (a_b : GBlock) (v0a : Hd) (r0 : rdF w (dm w []) (sl v0a) a_b.Cells) {r : GBlock} (t0 : Zba a_b = some r) : Calls Tryz.prog 50 #[.agg #[.int .i64 a_b.Size, (sl v0a)]] w fun e w' => ∃ x : Hd, e = .returned (.agg #[.int .i64 r.Size, (sl x)]) ∧ SH w [] [ownF (sl x) r.Cells] w' := by
 refine cwc (args := [_]) Tryz.func50 R Tryz.ntmps50 R ?_
 unfold Zba at t0
 refine wcr (wle (Zg R R) R fun b1 => (wle (eal (cs := [iv 0, (sl hn)]) Zau) R fun b2 => (wnt (wcs (wcd [box b2 [iv 0, (sl hn)], box b1 [iv a_b.Size, (sl v0a)]] 7 mixed (aq 0 R (pof ZM R) so2 R (aq (v := iv a_b.Size) 1 R (plx tk_3 pk1 R R) so2 R (aq 3 R (pof Zv R) so2 R (aq (v := (sl v0a)) 4 R (plx ZN pk1 R R) so2 R (a1 2 (wse R (ebs R ZsB) (fun _ => (zt (zc pk1 (zc pk1 zn)))) R fun b3 => (a1 5 (gdO t0 fun g1 t0 => (wse R (Zf (xs := ([] : List GCell)) (ys := a_b.Cells) Zk8 (pbo pz (n := 0) (xs := ([] : List GCell)) R R (by unfold maxLen; omega)) R R (Zi fun _ g => Rg.on (rga r0) g) g1) (fun _ => (zt (zc pk1 (zc pk1 zn)))) R fun x1 => ?_))))))))))))))
 refine aq 6 R (Zl R (Zkh a_b.Size x1)) (zc pk1 (zc pk1 zn)) R (a1 7 (ZR R (sbx (cs' := [iv a_b.Size, (sl x1)]) Zc pk1 R R R R R R R) (Za2 (by kernel_rfl)) ?_))
 refine ae (wqt (wct ?_))
 obtain rfl := oi t0
 exact wqc R Zc R pz R fun w hw => ⟨x1, R, hw.weak (zc pk1 zn)⟩

end Go.Proofs.YtjfjbgihojiijacGreatDoor
