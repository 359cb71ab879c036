/-
 Each Go function computes its Lean function (part 6).
-/
import Derived.Test.YtlfhlajpdmcnaacGreatDoorWalks5
namespace Go.Proofs.YtlfhlajpdmcnaacGreatDoor
open Go Go.RowKit Go.Proofs
set_option maxRecDepth 100000

theorem c_impl_Submit (w : World) (a_g : GGuild) (v0a : Hd) (r0 : rdF w (dm w []) (sl v0a) a_g.Members) (v1a : Hd) (r1 : rdF w (dm w []) (sl v1a) a_g.Stock) (v2a : Hd) (u2a : List Value) (r2 : RdL w (dm w []) (sl v2a) u2a a_g.Entries) (v3a : Hd) (r3 : rdF w (dm w []) (sl v3a) a_g.Books) (a_number : Int) (a_day : Int) (a_b : GBlock) (v4a : Hd) (r4 : rdF w (dm w []) (sl v4a) a_b.Cells) {r : GGuild × Bool} (t0 : impl_Submit a_g a_number a_day a_b = some r) : Calls Tryz.prog 12 #[.agg #[(sl v0a), (sl v1a), (sl v2a), (sl v3a), .int .i64 a_g.Round, .int .i64 a_g.Year], .int .i64 a_number, .int .i64 a_day, .agg #[.int .i64 a_b.Size, (sl v4a)]] w fun e w' => ∃ x : Hd × Hd × Hd × (List Value) × Hd, e = .returned (.tuple #[.agg #[(sl x.1), (sl x.2.1), (sl x.2.2.1), (sl x.2.2.2.2), .int .i64 r.1.Round, .int .i64 r.1.Year], .bool r.2]) ∧ SH w [] [ownF (sl x.1) r.1.Members, ownF (sl x.2.1) r.1.Stock, own (sl x.2.2.1) x.2.2.2.1 r.1.Entries, ownF (sl x.2.2.2.2) r.1.Books] w' := by
 refine cwc (args := [_, _, _, _]) Tryz.func12 R Tryz.ntmps12 R ?_
 unfold impl_Submit at t0
 refine wcr (wle (eo_box R R) R fun b1 => (wle (eo_box R R) R fun b2 => (wle (eal (cs := [(sl hn), (sl hn), (sl hn), (sl hn), iv 0, iv 0]) za_37) R fun b3 => (asg R R (wnt (wcs (bdO t0 fun v1 hv1 t0 => (bdO t0 fun v2 hv2 t0 => (wcj (X := Nat × Nat × Hd × (Hd × Hd × Hd × (List Value) × Hd)) (fun _ => True) (fun z => [(4, ptr b1 0), (8, ptr b3 0), (10, ptr z.1 0), (11, ptr z.2.1 0)]) (fun z => [box z.2.1 [iv a_number, iv a_day, iv v2.Size, (sl z.2.2.1)], box z.1 [(sl z.2.2.2.1), (sl z.2.2.2.2.1), (sl z.2.2.2.2.2.1), (sl z.2.2.2.2.2.2.2), iv v1.Round, iv v1.Year], ownF (sl z.2.2.1) v2.Cells, ownF (sl z.2.2.2.1) v1.Members, ownF (sl z.2.2.2.2.1) v1.Stock, own (sl z.2.2.2.2.2.1) z.2.2.2.2.2.2.1 v1.Entries, ownF (sl z.2.2.2.2.2.2.2) v1.Books, box b3 [(sl hn), (sl hn), (sl hn), (sl hn), iv 0, iv 0], box b1 [(sl v0a), (sl v1a), (sl v2a), (sl v3a), iv a_g.Round, iv a_g.Year]]) ?_ ?_)))))))))
 refine wcd [box b3 [(sl hn), (sl hn), (sl hn), (sl hn), iv 0, iv 0], box b2 [iv a_b.Size, (sl v4a)], box b1 [(sl v0a), (sl v1a), (sl v2a), (sl v3a), iv a_g.Round, iv a_g.Year]] 11 mixed (wa_dag [⟨7, #[true, false, true, true, true, false, false, false, false, false, false], Unit, fun _ => [(4, ptr b1 0), (8, ptr b3 0), (14, .agg #[(sl v0a), (sl v1a), (sl v2a), (sl v3a), iv a_g.Round, iv a_g.Year]), (16, iv a_number), (17, iv a_day), (18, .agg #[iv a_b.Size, (sl v4a)])], fun _ => [box b3 [(sl hn), (sl hn), (sl hn), (sl hn), iv 0, iv 0], box b2 [iv a_b.Size, (sl v4a)], box b1 [(sl v0a), (sl v1a), (sl v2a), (sl v3a), iv a_g.Round, iv a_g.Year]]⟩, ⟨6, #[true, true, true, true, true, false, false, false, false, false, false], Hd × Hd × Hd × (List Value) × Hd, fun z => [(4, ptr b1 0), (8, ptr b3 0), (15, .agg #[(sl z.1), (sl z.2.1), (sl z.2.2.1), (sl z.2.2.2.2), iv v1.Round, iv v1.Year]), (16, iv a_number), (17, iv a_day), (18, .agg #[iv a_b.Size, (sl v4a)])], fun z => [ownF (sl z.1) v1.Members, ownF (sl z.2.1) v1.Stock, own (sl z.2.2.1) z.2.2.2.1 v1.Entries, ownF (sl z.2.2.2.2) v1.Books, box b3 [(sl hn), (sl hn), (sl hn), (sl hn), iv 0, iv 0], box b2 [iv a_b.Size, (sl v4a)], box b1 [(sl v0a), (sl v1a), (sl v2a), (sl v3a), iv a_g.Round, iv a_g.Year]]⟩, ⟨6, #[true, false, true, true, true, false, false, true, false, false, false], Nat, fun z => [(4, ptr b1 0), (8, ptr b3 0), (10, ptr z 0), (14, .agg #[(sl v0a), (sl v1a), (sl v2a), (sl v3a), iv a_g.Round, iv a_g.Year]), (16, iv a_number), (17, iv a_day), (18, .agg #[iv a_b.Size, (sl v4a)])], fun z => [box z [(sl hn), (sl hn), (sl hn), (sl hn), iv 0, iv 0], box b3 [(sl hn), (sl hn), (sl hn), (sl hn), iv 0, iv 0], box b2 [iv a_b.Size, (sl v4a)], box b1 [(sl v0a), (sl v1a), (sl v2a), (sl v3a), iv a_g.Round, iv a_g.Year]]⟩, ⟨6, #[true, false, true, true, true, false, false, false, true, false, false], Nat, fun z => [(4, ptr b1 0), (8, ptr b3 0), (11, ptr z 0), (14, .agg #[(sl v0a), (sl v1a), (sl v2a), (sl v3a), iv a_g.Round, iv a_g.Year]), (16, iv a_number), (17, iv a_day), (18, .agg #[iv a_b.Size, (sl v4a)])], fun z => [box z [iv 0, iv 0, iv 0, (sl hn)], box b3 [(sl hn), (sl hn), (sl hn), (sl hn), iv 0, iv 0], box b2 [iv a_b.Size, (sl v4a)], box b1 [(sl v0a), (sl v1a), (sl v2a), (sl v3a), iv a_g.Round, iv a_g.Year]]⟩, ⟨4, #[true, true, true, true, true, true, true, false, false, false, false], (Hd × Hd × Hd × (List Value) × Hd) × Hd, fun z => [(4, ptr b1 0), (8, ptr b3 0), (15, .agg #[(sl z.1.1), (sl z.1.2.1), (sl z.1.2.2.1), (sl z.1.2.2.2.2), iv v1.Round, iv v1.Year]), (20, .agg #[iv a_number, iv a_day, iv v2.Size, (sl z.2)])], fun z => [ownF (sl z.2) v2.Cells, ownF (sl z.1.1) v1.Members, ownF (sl z.1.2.1) v1.Stock, own (sl z.1.2.2.1) z.1.2.2.2.1 v1.Entries, ownF (sl z.1.2.2.2.2) v1.Books, box b3 [(sl hn), (sl hn), (sl hn), (sl hn), iv 0, iv 0], box b2 [iv a_b.Size, (sl v4a)], box b1 [(sl v0a), (sl v1a), (sl v2a), (sl v3a), iv a_g.Round, iv a_g.Year]]⟩, ⟨5, #[true, true, true, true, true, false, false, true, false, false, false], Nat × (Hd × Hd × Hd × (List Value) × Hd), fun z => [(4, ptr b1 0), (8, ptr b3 0), (10, ptr z.1 0), (15, .agg #[(sl z.2.1), (sl z.2.2.1), (sl z.2.2.2.1), (sl z.2.2.2.2.2), iv v1.Round, iv v1.Year]), (16, iv a_number), (17, iv a_day), (18, .agg #[iv a_b.Size, (sl v4a)])], fun z => [box z.1 [(sl hn), (sl hn), (sl hn), (sl hn), iv 0, iv 0], ownF (sl z.2.1) v1.Members, ownF (sl z.2.2.1) v1.Stock, own (sl z.2.2.2.1) z.2.2.2.2.1 v1.Entries, ownF (sl z.2.2.2.2.2) v1.Books, box b3 [(sl hn), (sl hn), (sl hn), (sl hn), iv 0, iv 0], box b2 [iv a_b.Size, (sl v4a)], box b1 [(sl v0a), (sl v1a), (sl v2a), (sl v3a), iv a_g.Round, iv a_g.Year]]⟩, ⟨5, #[true, true, true, true, true, false, false, false, true, false, false], Nat × (Hd × Hd × Hd × (List Value) × Hd), fun z => [(4, ptr b1 0), (8, ptr b3 0), (11, ptr z.1 0), (15, .agg #[(sl z.2.1), (sl z.2.2.1), (sl z.2.2.2.1), (sl z.2.2.2.2.2), iv v1.Round, iv v1.Year]), (16, iv a_number), (17, iv a_day), (18, .agg #[iv a_b.Size, (sl v4a)])], fun z => [box z.1 [iv 0, iv 0, iv 0, (sl hn)], ownF (sl z.2.1) v1.Members, ownF (sl z.2.2.1) v1.Stock, own (sl z.2.2.2.1) z.2.2.2.2.1 v1.Entries, ownF (sl z.2.2.2.2.2) v1.Books, box b3 [(sl hn), (sl hn), (sl hn), (sl hn), iv 0, iv 0], box b2 [iv a_b.Size, (sl v4a)], box b1 [(sl v0a), (sl v1a), (sl v2a), (sl v3a), iv a_g.Round, iv a_g.Year]]⟩, ⟨5, #[true, false, true, true, true, false, false, true, true, false, false], Nat × Nat, fun z => [(4, ptr b1 0), (8, ptr b3 0), (10, ptr z.1 0), (11, ptr z.2 0), (14, .agg #[(sl v0a), (sl v1a), (sl v2a), (sl v3a), iv a_g.Round, iv a_g.Year]), (16, iv a_number), (17, iv a_day), (18, .agg #[iv a_b.Size, (sl v4a)])], fun z => [box z.2 [iv 0, iv 0, iv 0, (sl hn)], box z.1 [(sl hn), (sl hn), (sl hn), (sl hn), iv 0, iv 0], box b3 [(sl hn), (sl hn), (sl hn), (sl hn), iv 0, iv 0], box b2 [iv a_b.Size, (sl v4a)], box b1 [(sl v0a), (sl v1a), (sl v2a), (sl v3a), iv a_g.Round, iv a_g.Year]]⟩, ⟨3, #[true, true, true, true, true, true, true, true, false, false, false], Nat × (Hd × Hd × Hd × (List Value) × Hd) × Hd, fun z => [(4, ptr b1 0), (8, ptr b3 0), (10, ptr z.1 0), (15, .agg #[(sl z.2.1.1), (sl z.2.1.2.1), (sl z.2.1.2.2.1), (sl z.2.1.2.2.2.2), iv v1.Round, iv v1.Year]), (20, .agg #[iv a_number, iv a_day, iv v2.Size, (sl z.2.2)])], fun z => [box z.1 [(sl hn), (sl hn), (sl hn), (sl hn), iv 0, iv 0], ownF (sl z.2.2) v2.Cells, ownF (sl z.2.1.1) v1.Members, ownF (sl z.2.1.2.1) v1.Stock, own (sl z.2.1.2.2.1) z.2.1.2.2.2.1 v1.Entries, ownF (sl z.2.1.2.2.2.2) v1.Books, box b3 [(sl hn), (sl hn), (sl hn), (sl hn), iv 0, iv 0], box b2 [iv a_b.Size, (sl v4a)], box b1 [(sl v0a), (sl v1a), (sl v2a), (sl v3a), iv a_g.Round, iv a_g.Year]]⟩, ⟨3, #[true, true, true, true, true, true, true, false, true, false, false], Nat × (Hd × Hd × Hd × (List Value) × Hd) × Hd, fun z => [(4, ptr b1 0), (8, ptr b3 0), (11, ptr z.1 0), (15, .agg #[(sl z.2.1.1), (sl z.2.1.2.1), (sl z.2.1.2.2.1), (sl z.2.1.2.2.2.2), iv v1.Round, iv v1.Year]), (20, .agg #[iv a_number, iv a_day, iv v2.Size, (sl z.2.2)])], fun z => [box z.1 [iv 0, iv 0, iv 0, (sl hn)], ownF (sl z.2.2) v2.Cells, ownF (sl z.2.1.1) v1.Members, ownF (sl z.2.1.2.1) v1.Stock, own (sl z.2.1.2.2.1) z.2.1.2.2.2.1 v1.Entries, ownF (sl z.2.1.2.2.2.2) v1.Books, box b3 [(sl hn), (sl hn), (sl hn), (sl hn), iv 0, iv 0], box b2 [iv a_b.Size, (sl v4a)], box b1 [(sl v0a), (sl v1a), (sl v2a), (sl v3a), iv a_g.Round, iv a_g.Year]]⟩, ⟨4, #[true, true, true, true, true, false, false, true, true, false, false], Nat × Nat × (Hd × Hd × Hd × (List Value) × Hd), fun z => [(4, ptr b1 0), (8, ptr b3 0), (10, ptr z.1 0), (11, ptr z.2.1 0), (15, .agg #[(sl z.2.2.1), (sl z.2.2.2.1), (sl z.2.2.2.2.1), (sl z.2.2.2.2.2.2), iv v1.Round, iv v1.Year]), (16, iv a_number), (17, iv a_day), (18, .agg #[iv a_b.Size, (sl v4a)])], fun z => [box z.2.1 [iv 0, iv 0, iv 0, (sl hn)], box z.1 [(sl hn), (sl hn), (sl hn), (sl hn), iv 0, iv 0], ownF (sl z.2.2.1) v1.Members, ownF (sl z.2.2.2.1) v1.Stock, own (sl z.2.2.2.2.1) z.2.2.2.2.2.1 v1.Entries, ownF (sl z.2.2.2.2.2.2) v1.Books, box b3 [(sl hn), (sl hn), (sl hn), (sl hn), iv 0, iv 0], box b2 [iv a_b.Size, (sl v4a)], box b1 [(sl v0a), (sl v1a), (sl v2a), (sl v3a), iv a_g.Round, iv a_g.Year]]⟩, ⟨2, #[true, true, true, true, true, true, true, true, true, false, false], Nat × Nat × (Hd × Hd × Hd × (List Value) × Hd) × Hd, fun z => [(4, ptr b1 0), (8, ptr b3 0), (10, ptr z.1 0), (11, ptr z.2.1 0), (15, .agg #[(sl z.2.2.1.1), (sl z.2.2.1.2.1), (sl z.2.2.1.2.2.1), (sl z.2.2.1.2.2.2.2), iv v1.Round, iv v1.Year]), (20, .agg #[iv a_number, iv a_day, iv v2.Size, (sl z.2.2.2)])], fun z => [box z.2.1 [iv 0, iv 0, iv 0, (sl hn)], box z.1 [(sl hn), (sl hn), (sl hn), (sl hn), iv 0, iv 0], ownF (sl z.2.2.2) v2.Cells, ownF (sl z.2.2.1.1) v1.Members, ownF (sl z.2.2.1.2.1) v1.Stock, own (sl z.2.2.1.2.2.1) z.2.2.1.2.2.2.1 v1.Entries, ownF (sl z.2.2.1.2.2.2.2) v1.Books, box b3 [(sl hn), (sl hn), (sl hn), (sl hn), iv 0, iv 0], box b2 [iv a_b.Size, (sl v4a)], box b1 [(sl v0a), (sl v1a), (sl v2a), (sl v3a), iv a_g.Round, iv a_g.Year]]⟩, ⟨1, #[true, true, true, true, true, true, true, true, true, true, false], Nat × Nat × Hd × (Hd × Hd × Hd × (List Value) × Hd), fun z => [(4, ptr b1 0), (8, ptr b3 0), (10, ptr z.1 0), (11, ptr z.2.1 0), (20, .agg #[iv a_number, iv a_day, iv v2.Size, (sl z.2.2.1)])], fun z => [box z.1 [(sl z.2.2.2.1), (sl z.2.2.2.2.1), (sl z.2.2.2.2.2.1), (sl z.2.2.2.2.2.2.2), iv v1.Round, iv v1.Year], box z.2.1 [iv 0, iv 0, iv 0, (sl hn)], ownF (sl z.2.2.1) v2.Cells, ownF (sl z.2.2.2.1) v1.Members, ownF (sl z.2.2.2.2.1) v1.Stock, own (sl z.2.2.2.2.2.1) z.2.2.2.2.2.2.1 v1.Entries, ownF (sl z.2.2.2.2.2.2.2) v1.Books, box b3 [(sl hn), (sl hn), (sl hn), (sl hn), iv 0, iv 0], box b2 [iv a_b.Size, (sl v4a)], box b1 [(sl v0a), (sl v1a), (sl v2a), (sl v3a), iv a_g.Round, iv a_g.Year]]⟩] ?_ fun H => ?_)
 refine List.forall_mem_cons.2 ⟨fun H => ?_, ?_⟩
 intro _
 dsimp only
 refine wa_3 (i := 1) (j := 7) (k := 8) (by kernel_rfl) ?_ ?_ ?_
 exact wsc R (co_c4 fa_46 R fun w hw => c_impl_Guild_copied w a_g v0a (ra r0 hw) v1a (ra r1 hw) v2a u2a (ra r2 hw) v3a (ra r3 hw) hv1) (fun _ => (zt (zc pk4 (zc pk4 (zc pk4 zn))))) R fun x1o => waj H 1 R (nl R) x1o R R (su6 R R R R R R) so7
 exact wse R (eal (cs := [(sl hn), (sl hn), (sl hn), (sl hn), iv 0, iv 0]) za_37) (fun _ => (zt (zc pk1 (zc pk1 (zc pk1 zn))))) R fun b7o => waj H 2 R (nl R) b7o R R (su7 R R R R R R R) so4
 exact wse R (eal (cs := [iv 0, iv 0, iv 0, (sl hn)]) za_78) (fun _ => (zt (zc pk1 (zc pk1 (zc pk1 zn))))) R fun b8o => waj H 3 R (nl R) b8o R R (su7 R R R R R R R) so4
 refine List.forall_mem_cons.2 ⟨fun H => ?_, ?_⟩
 intro z
 dsimp only
 refine wa_3 (i := 5) (j := 7) (k := 8) (by kernel_rfl) ?_ ?_ ?_
 exact wsc R (cz1 fa_47 R fun w hw => c_impl_Block_copied w a_b v4a (ra r4 hw) hv2) (fun _ => (zt (zc pk5 (zc pk5 (zc pk5 zn))))) R fun x5o => aq 6 R (po_build R (bd_78_0_1_2 a_number a_day v2.Size x5o)) (zc pk5 (zc pk5 (zc pk5 zn))) R (waj H 4 R (nl R) (z, x5o) R R (su4 R R R R) so8)
 exact wse R (eal (cs := [(sl hn), (sl hn), (sl hn), (sl hn), iv 0, iv 0]) za_37) (fun _ => (zt (zc pk5 (zc pk5 (zc pk5 zn))))) R fun b7o => waj H 5 R (nl R) (b7o, z) R R (su7 R R R R R R R) so8
 exact wse R (eal (cs := [iv 0, iv 0, iv 0, (sl hn)]) za_78) (fun _ => (zt (zc pk5 (zc pk5 (zc pk5 zn))))) R fun b8o => waj H 6 R (nl R) (b8o, z) R R (su7 R R R R R R R) so8
 refine List.forall_mem_cons.2 ⟨fun H => ?_, ?_⟩
 intro z
 dsimp only
 refine wa_2 (i := 1) (j := 8) (by kernel_rfl) ?_ ?_
 exact wsc R (co_c4 fa_46 R fun w hw => c_impl_Guild_copied w a_g v0a (ra r0 hw) v1a (ra r1 hw) v2a u2a (ra r2 hw) v3a (ra r3 hw) hv1) (fun _ => (zt (zc pk5 (zc pk5 (zc pk5 zn))))) R fun x1o => waj H 5 R (nl R) (z, x1o) R R (su7 R R R R R R R) (zc pk4 so7)
 exact wse R (eal (cs := [iv 0, iv 0, iv 0, (sl hn)]) za_78) (fun _ => (zt (zc pk2 (zc pk2 (zc pk2 zn))))) R fun b8o => waj H 7 R (nl R) (z, b8o) R R (su8 R R R R R R R R) so5
 refine List.forall_mem_cons.2 ⟨fun H => ?_, ?_⟩
 intro z
 dsimp only
 refine wa_2 (i := 1) (j := 7) (by kernel_rfl) ?_ ?_
 exact wsc R (co_c4 fa_46 R fun w hw => c_impl_Guild_copied w a_g v0a (ra r0 hw) v1a (ra r1 hw) v2a u2a (ra r2 hw) v3a (ra r3 hw) hv1) (fun _ => (zt (zc pk5 (zc pk5 (zc pk5 zn))))) R fun x1o => waj H 6 R (nl R) (z, x1o) R R (su7 R R R R R R R) (zc pk4 so7)
 exact wse R (eal (cs := [(sl hn), (sl hn), (sl hn), (sl hn), iv 0, iv 0]) za_37) (fun _ => (zt (zc pk2 (zc pk2 (zc pk2 zn))))) R fun b7o => waj H 7 R (nl R) (b7o, z) R R (su8 R R R R R R R R) (zc pk1 so4)
 refine List.forall_mem_cons.2 ⟨fun H => ?_, ?_⟩
 intro z
 dsimp only
 refine wa_2 (i := 7) (j := 8) (by kernel_rfl) ?_ ?_
 exact wse R (eal (cs := [(sl hn), (sl hn), (sl hn), (sl hn), iv 0, iv 0]) za_37) (fun _ => (zt (zc pk6 (zc pk6 (zc pk6 zn))))) R fun b7o => waj H 8 R (nl R) (b7o, z.1, z.2) R R (su5 R R R R R) so9
 exact wse R (eal (cs := [iv 0, iv 0, iv 0, (sl hn)]) za_78) (fun _ => (zt (zc pk6 (zc pk6 (zc pk6 zn))))) R fun b8o => waj H 9 R (nl R) (b8o, z.1, z.2) R R (su5 R R R R R) so9
 refine List.forall_mem_cons.2 ⟨fun H => ?_, ?_⟩
 intro z
 dsimp only
 refine wa_2 (i := 5) (j := 8) (by kernel_rfl) ?_ ?_
 exact wsc R (cz1 fa_47 R fun w hw => c_impl_Block_copied w a_b v4a (ra r4 hw) hv2) (fun _ => (zt (zc pk6 (zc pk6 (zc pk6 zn))))) R fun x5o => aq 6 R (po_build R (bd_78_0_1_2 a_number a_day v2.Size x5o)) (zc pk6 (zc pk6 (zc pk6 zn))) R (waj H 8 R (nl R) (z.1, z.2, x5o) R R (su5 R R R R R) (zc pk1 so8))
 exact wse R (eal (cs := [iv 0, iv 0, iv 0, (sl hn)]) za_78) (fun _ => (zt (zc pk6 (zc pk6 (zc pk6 zn))))) R fun b8o => waj H 10 R (nl R) (z.1, b8o, z.2) R R (su8 R R R R R R R R) so9
 refine List.forall_mem_cons.2 ⟨fun H => ?_, ?_⟩
 intro z
 dsimp only
 refine wa_2 (i := 5) (j := 7) (by kernel_rfl) ?_ ?_
 exact wsc R (cz1 fa_47 R fun w hw => c_impl_Block_copied w a_b v4a (ra r4 hw) hv2) (fun _ => (zt (zc pk6 (zc pk6 (zc pk6 zn))))) R fun x5o => aq 6 R (po_build R (bd_78_0_1_2 a_number a_day v2.Size x5o)) (zc pk6 (zc pk6 (zc pk6 zn))) R (waj H 9 R (nl R) (z.1, z.2, x5o) R R (su5 R R R R R) (zc pk1 so8))
 exact wse R (eal (cs := [(sl hn), (sl hn), (sl hn), (sl hn), iv 0, iv 0]) za_37) (fun _ => (zt (zc pk6 (zc pk6 (zc pk6 zn))))) R fun b7o => waj H 10 R (nl R) (b7o, z.1, z.2) R R (su8 R R R R R R R R) (zc pk1 so8)
 refine List.forall_mem_cons.2 ⟨fun H => ?_, ?_⟩
 intro z
 dsimp only
 exact a1 1 (wsc R (co_c4 fa_46 R fun w hw => c_impl_Guild_copied w a_g v0a (ra r0 hw) v1a (ra r1 hw) v2a u2a (ra r2 hw) v3a (ra r3 hw) hv1) (fun _ => (zt (zc pk6 (zc pk6 (zc pk6 zn))))) R fun x1o => (waj H 10 R (nl R) (z.1, z.2, x1o) R R (su8 R R R R R R R R) (zc pk4 (zc pk4 so7))))
 refine List.forall_mem_cons.2 ⟨fun H => ?_, ?_⟩
 intro z
 dsimp only
 exact a1 8 (wse R (eal (cs := [iv 0, iv 0, iv 0, (sl hn)]) za_78) (fun _ => (zt (zc pk7 (zc pk7 (zc pk7 zn))))) R fun b8o => (waj H 11 R (nl R) (z.1, b8o, z.2.1, z.2.2) R R (su6 R R R R R R) so10))
 refine List.forall_mem_cons.2 ⟨fun H => ?_, ?_⟩
 intro z
 dsimp only
 exact a1 7 (wse R (eal (cs := [(sl hn), (sl hn), (sl hn), (sl hn), iv 0, iv 0]) za_37) (fun _ => (zt (zc pk7 (zc pk7 (zc pk7 zn))))) R fun b7o => (waj H 11 R (nl R) (b7o, z.1, z.2.1, z.2.2) R R (su6 R R R R R R) (zc pk1 so9)))
 refine List.forall_mem_cons.2 ⟨fun H => ?_, ?_⟩
 intro z
 dsimp only
 exact a1 5 (wsc R (cz1 fa_47 R fun w hw => c_impl_Block_copied w a_b v4a (ra r4 hw) hv2) (fun _ => (zt (zc pk7 (zc pk7 (zc pk7 zn))))) R fun x5o => (aq 6 R (po_build R (bd_78_0_1_2 a_number a_day v2.Size x5o)) (zc pk7 (zc pk7 (zc pk7 zn))) R (waj H 11 R (nl R) (z.1, z.2.1, z.2.2, x5o) R R (su6 R R R R R R) (zc pk1 (zc pk1 so8)))))
 refine List.forall_mem_cons.2 ⟨fun H => ?_, ?_⟩
 intro z
 dsimp only
 exact a1 9 (ws_skipop R (sbx (cs' := [(sl z.2.2.1.1), (sl z.2.2.1.2.1), (sl z.2.2.1.2.2.1), (sl z.2.2.1.2.2.2.2), iv v1.Round, iv v1.Year]) tk_37 pk1 R R R R R R R) (zt (zc pk7 (zc pk7 (zc pk7 zn)))) (waj H 12 R (nl R) (z.1, z.2.1, z.2.2.2, z.2.2.1) R R (su5 R R R R R) so10))
 refine List.forall_mem_cons.2 ⟨fun H => ?_, ?_⟩
 intro z
 dsimp only
 exact a1 10 (ws_skipop R (sbx (cs' := [iv a_number, iv a_day, iv v2.Size, (sl z.2.2.1)]) tk_78 pk1 R R R R R R R) (zt (zc pk7 (zc pk7 (zc pk7 zn)))) (ae (wqm (z.1, z.2.1, z.2.2.1, z.2.2.2) trivial (su4 R R R R) (zc pz (zc pz (zc pz (zc pz (zc pz (zc pz (zc pz (zc pz (zc pk1 zn))))))))))))
 exact fun _ h => nomatch h
 exact aq (v := .agg #[(sl v0a), (sl v1a), (sl v2a), (sl v3a), iv a_g.Round, iv a_g.Year]) 0 R (plb tk_37 pk2 R R R) so3 R (aq 2 R (pom R) so3 R (aq 3 R (pom R) so3 R (aq (v := .agg #[iv a_b.Size, (sl v4a)]) 4 R (plb tk_43 pk1 R R R) so3 R (waj H 0 R (nl R) () R R (su6 R R R R R R) so3))))
 intro x1 _
 refine wqt (wcs (wcr (wlq (v := .agg #[(sl v0a), (sl v1a), (sl v2a), (sl v3a), iv a_g.Round, iv a_g.Year]) (plb tk_37 pk8 R R R) R (bdO t0 fun v3 hv3 t0 => (wlc (cz0 fa_48 R fun w hw => c_impl_GuildOk w a_g v0a (ra r0 hw) v1a (ra r1 hw) v2a u2a (ra r2 hw) v3a (ra r3 hw) hv3) R fun _ => (wlq (po_not R) R (wnt (wcO t0 R (fun h1 t0 => ?_) fun h1 t0 => ?_))))))))
 refine wcr (wlq (v := .agg #[(sl x1.2.2.2.1), (sl x1.2.2.2.2.1), (sl x1.2.2.2.2.2.1), (sl x1.2.2.2.2.2.2.2), iv v1.Round, iv v1.Year]) (plb tk_37 pk1 R R R) R (wls (sbx (cs' := [(sl x1.2.2.2.1), (sl x1.2.2.2.2.1), (sl x1.2.2.2.2.2.1), (sl x1.2.2.2.2.2.2.2), iv v1.Round, iv v1.Year]) tk_37 pk7 R R R R R R R) (asg R R (wnt (wct (wqr ?_))))))
 obtain rfl := oi t0
 exact wq_retc1 R tk_37 R R pz R fun w hw => ⟨(x1.2.2.2.1, x1.2.2.2.2.1, x1.2.2.2.2.2.1, x1.2.2.2.2.2.2.1, x1.2.2.2.2.2.2.2), R, hw.weak (zc pk4 (zc pk4 (zc pk4 (zc pk4 zn))))⟩
 refine wck (wqt (wcs (wcr (wlq (pof fo_37_2 R) R (wlq (v := (sl v2a)) (plx tk_34 pk8 R R) R (wlq (pln (rga r2) el_34 R) R (mv R R (wnt (gdO t0 fun g1 t0 => (sqO t0 fun y1 l1 t0 => (wj (J := Unit) (X := Unit) (fun z => y1 = .inl z) (fun _ _ => [(4, ptr b1 0), (8, ptr b3 0), (10, ptr x1.1 0), (11, ptr x1.2.1 0)]) (fun _ _ => [box x1.2.1 [iv a_number, iv a_day, iv v2.Size, (sl x1.2.2.1)], box x1.1 [(sl x1.2.2.2.1), (sl x1.2.2.2.2.1), (sl x1.2.2.2.2.2.1), (sl x1.2.2.2.2.2.2.2), iv v1.Round, iv v1.Year], ownF (sl x1.2.2.1) v2.Cells, ownF (sl x1.2.2.2.1) v1.Members, ownF (sl x1.2.2.2.2.1) v1.Stock, own (sl x1.2.2.2.2.2.1) x1.2.2.2.2.2.2.1 v1.Entries, ownF (sl x1.2.2.2.2.2.2.2) v1.Books, box b3 [(sl hn), (sl hn), (sl hn), (sl hn), iv 0, iv 0], box b1 [(sl v0a), (sl v1a), (sl v2a), (sl v3a), iv a_g.Round, iv a_g.Year]]) ?_ ?_)))))))))))
 refine wcb (wcf (X := Unit) l1 (fun k1 s1 x1l => [(4, ptr b1 0), (8, ptr b3 0), (10, ptr x1.1 0), (11, ptr x1.2.1 0), (26, (sl v2a)), (27, iv ((a_g.Entries.length : Nat) : Int)), (28, iv ((k1 : Nat) : Int))]) (fun k1 s1 x1l => [box x1.2.1 [iv a_number, iv a_day, iv v2.Size, (sl x1.2.2.1)], box x1.1 [(sl x1.2.2.2.1), (sl x1.2.2.2.2.1), (sl x1.2.2.2.2.2.1), (sl x1.2.2.2.2.2.2.2), iv v1.Round, iv v1.Year], ownF (sl x1.2.2.1) v2.Cells, ownF (sl x1.2.2.2.1) v1.Members, ownF (sl x1.2.2.2.2.1) v1.Stock, own (sl x1.2.2.2.2.2.1) x1.2.2.2.2.2.2.1 v1.Entries, ownF (sl x1.2.2.2.2.2.2.2) v1.Books, box b3 [(sl hn), (sl hn), (sl hn), (sl hn), iv 0, iv 0], box b1 [(sl v0a), (sl v1a), (sl v2a), (sl v3a), iv a_g.Round, iv a_g.Year]]) () (su7 R R R R R R R) so9 fun k1 s1 x1l hN1 l1 => ?_)
 by_cases hk1 : k1 < a_g.Entries.length
 refine fos l1 hk1 fun _ t1 l1 => ?_
 unfold impl_Submit_L1 at t1
 have c1 : (decide (((k1 : Nat) : Int) < ((a_g.Entries.length : Nat) : Int))) = true := ddt (by omega)
 refine wcr (wlq (pls R R) R (wnt (wcs (wft R c1 (wck (wqt (wcs (wcb (wcr (wlq (po_ixn (k := k1) (rga r2) el_34 R R hk1) R (wl_elem (rga r2) hk1 ?_)))))))))))
 rintro ⟨_, _, he1⟩
 obtain ⟨w1, hc1, _⟩ := rd_GEntry.1 he1
 refine wlq (v := .agg #[iv ((gx a_g.Entries k1).Owner), iv ((gx a_g.Entries k1).Day), iv (((gx a_g.Entries k1).Block).Size), (sl w1)]) (po_ldns (rga r2) tk_78 R hc1 R R R) R (wle (eal (cs := [iv 0, iv 0, iv 0, (sl hn)]) za_78) R fun b4 => (wls (sbx (cs' := [iv ((gx a_g.Entries k1).Owner), iv ((gx a_g.Entries k1).Day), iv (((gx a_g.Entries k1).Block).Size), (sl w1)]) tk_78 pz R R R R R R R) (wnt (wcr (wlq (v := .agg #[iv a_number, iv a_day, iv v2.Size, (sl x1.2.2.1)]) (plb tk_78 pk1 R R R) R (wlq (v := .agg #[iv ((gx a_g.Entries k1).Owner), iv ((gx a_g.Entries k1).Day), iv (((gx a_g.Entries k1).Block).Size), (sl w1)]) (plb tk_78 pz R R R) R (bdO t1 fun v4 hv4 t1 => (wlc (cz0 fa_49 R fun w hw => c_impl_IsCopy w (GEntry.mk a_number a_day v2) x1.2.2.1 (Rg.on (rgo pk3) hw) (GEntry.mk ((gx a_g.Entries k1).Owner) ((gx a_g.Entries k1).Day) ((gx a_g.Entries k1).Block)) w1 (Rg.on (er_GEntry_0 hc1 (rga r2) hk1) hw) hv4) R fun _ => (wnt (wcO t1 R (fun h2 t1 => ?_) fun h2 t1 => ?_))))))))))
 refine wcr (wlq (v := .agg #[(sl x1.2.2.2.1), (sl x1.2.2.2.2.1), (sl x1.2.2.2.2.2.1), (sl x1.2.2.2.2.2.2.2), iv v1.Round, iv v1.Year]) (plb tk_37 pk2 R R R) R (wls (sbx (cs' := [(sl x1.2.2.2.1), (sl x1.2.2.2.2.1), (sl x1.2.2.2.2.2.1), (sl x1.2.2.2.2.2.2.2), iv v1.Round, iv v1.Year]) tk_37 pk8 R R R R R R R) (asg R R (wnt (wct (wbr (wqr (wqr (wbr (wqr (wqr ?_)))))))))))
 replace t0 := lpR t0 l1 t1
 obtain rfl := oi t0
 exact wq_retc1 R tk_37 R R pz R fun w hw => ⟨(x1.2.2.2.1, x1.2.2.2.2.1, x1.2.2.2.2.2.1, x1.2.2.2.2.2.2.1, x1.2.2.2.2.2.2.2), R, hw.weak (zc pk5 (zc pk5 (zc pk5 (zc pk5 zn))))⟩
 refine wck (wqb (wqt (wcg (wlq (po_inc R R (by omega)) R ?_))))
 exact mv R R (wln (wq_rnd hk1 (stpN l1 t1) () (su7 R R R R R R R) (zc pk1 (zc pk1 (zc pk1 (zc pk1 (zc pk1 (zc pk1 (zc pk1 (zc pk1 (zc pk1 zn)))))))))))
 have c1 : (decide (((k1 : Nat) : Int) < ((a_g.Entries.length : Nat) : Int))) = false := ddf (by omega)
 have en1 := foe l1 hk1
 exact wcr (wlq (pls R R) R (wnt (wcs (wff R c1 (wcx (wqe (wqe (wbx (wjm _ () en1 (su4 R R R R) so9)))))))))
 intro e1 _ hp
 replace t0 := sqE (j := e1) t0 hp
 refine wqt (wcr (wlq (pof fo_37_2 R) R (wlq (v := (sl x1.2.2.2.2.2.1)) (plx tk_34 pk1 R R) R (wlq (v := .agg #[iv a_number, iv a_day, iv v2.Size, (sl x1.2.2.1)]) (plb tk_78 pz R R R) R (wle (ebs R (sb_34_1 a_number a_day v2.Size x1.2.2.1)) R fun b5 => (gdO t0 fun g2 t0 => (wle (eo_append_one (us := x1.2.2.2.2.2.2.1) (xs := v1.Entries) ak_34 pk6 (pow_GEntry (x := (GEntry.mk a_number a_day v2)) pk3) pz R R R g2) R fun x3 => (wlq (pof fo_37_2 R) R (wls (sbx (cs' := [(sl x1.2.2.2.1), (sl x1.2.2.2.2.1), (sl x3), (sl x1.2.2.2.2.2.2.2), iv v1.Round, iv v1.Year]) tk_34 pk3 R R R R R R R) (wnt (wcr (wlq (v := .agg #[(sl v0a), (sl v1a), (sl v2a), (sl v3a), iv a_g.Round, iv a_g.Year]) (plb tk_37 pk8 R R R) R (wlq (v := .agg #[(sl x1.2.2.2.1), (sl x1.2.2.2.2.1), (sl x3), (sl x1.2.2.2.2.2.2.2), iv v1.Round, iv v1.Year]) (plb tk_37 pz R R R) R (bdO t0 fun v5 hv5 t0 => (wlc (co_o4 [ownF (sl x1.2.2.2.1) v1.Members, ownF (sl x1.2.2.2.2.1) v1.Stock, own (sl x3) (x1.2.2.2.2.2.2.1 ++ [iv a_number, iv a_day, iv v2.Size, (sl x1.2.2.1)]) (v1.Entries ++ [(GEntry.mk a_number a_day v2)]), ownF (sl x1.2.2.2.2.2.2.2) v1.Books] fa_50 (zc pk4 (zc pk4 (zc pk1 (zc pk3 some_refl)))) R fun w fp hw => c_impl_Guild_becomes w fp a_g v0a ((rdo_arg r0) w fp hw) v1a ((rdo_arg r1) w fp hw) v2a u2a ((rdo_arg r2) w fp hw) v3a ((rdo_arg r3) w fp hw) (GGuild.mk v1.Members v1.Stock (v1.Entries ++ [(GEntry.mk a_number a_day v2)]) v1.Books v1.Round v1.Year) x1.2.2.2.1 x1.2.2.2.2.1 x3 (x1.2.2.2.2.2.2.1 ++ [iv a_number, iv a_day, iv v2.Size, (sl x1.2.2.1)]) x1.2.2.2.2.2.2.2 true hw.ow hv5) R fun x4 => (wlq (pex R R) R (wlq (pex R R) R (wls (sbx (cs' := [(sl x4.1), (sl x4.2.1), (sl x4.2.2.1), (sl x4.2.2.2.2), iv v5.1.Round, iv v5.1.Year]) tk_37 pk7 R R R R R R R) (asg R R (wnt (wct ?_)))))))))))))))))))))
 obtain rfl := oi t0
 exact wq_retc1 R tk_37 R R pz R fun w hw => ⟨(x4.1, x4.2.1, x4.2.2.1, x4.2.2.2.1, x4.2.2.2.2), R, hw.weak (zc pk1 (zc pk1 (zc pk1 (zc pk1 zn))))⟩

theorem c_impl_AreaTable (w : World) (a_b : GBlock) (v0a : Hd) (r0 : rdF w (dm w []) (sl v0a) a_b.Cells) {r : List Int} (t0 : impl_AreaTable a_b = some r) : Calls Tryz.prog 126 #[.agg #[.int .i64 a_b.Size, (sl v0a)]] w fun e w' => ∃ x : Hd, e = .returned ((sl x)) ∧ SH w [] [ownF (sl x) r] w' := by
 refine cwc (args := [_]) Tryz.func126 R Tryz.ntmps126 R ?_
 unfold impl_AreaTable at t0
 refine wcr (wle (eo_box R R) R fun b1 => (asg R R (wnt (wcs (wcr (wlq (v := .agg #[iv a_b.Size, (sl v0a)]) (plb tk_43 pz R R R) R (bdO t0 fun v1 hv1 t0 => (wlc (cz0 fa_133 R fun w hw => c_impl_BlockOk w a_b v0a (ra r0 hw) hv1) R fun _ => (wlq (po_not R) R (wnt (wcO t0 R (fun h1 t0 => ?_) fun h1 t0 => ?_)))))))))))
 refine wcr (asg R R (wnt (wct (wqr ?_))))
 obtain rfl := oi t0
 exact wq1 R R fun w hw => ⟨hn, R, hw.weak (zc pick_nil zn)⟩
 refine wck (wqt (wcr (wle (ebs R sb_23_0) R fun b2 => (asg R R (wnt (wcs (wcr (mv R R (wnt (lpO_inv t0 fun y1 l1 t0 => (wj (J := List Int) (X := Hd) (fun z => y1 = z) (fun _ x => [(3, (sl x))]) (fun z x => [ownF (sl x) z]) ?_ ?_)))))))))))
 refine wcb (wcf (X := Hd) l1 (fun k1 s1 x1l => [(1, ptr b1 0), (3, (sl x1l)), (9, iv ((k1 : Nat) : Int))]) (fun k1 s1 x1l => [box b1 [iv a_b.Size, (sl v0a)], ownF (sl x1l) s1]) (⟨some ⟨b2, 0, none⟩, 0, 0⟩ : Hd) (su3 R R R) (zc pk1 (zc (pbo pz (n := 0) (xs := ([] : List Int)) R R (by unfold maxLen; omega)) zn)) fun k1 s1 x1l hN1 l1 => ?_)
 by_cases hk1 : k1 < 6
 refine fos l1 hk1 fun _ t1 l1 => ?_
 unfold impl_AreaTable_L1 at t1
 have c1 : (decide (((k1 : Nat) : Int) < 6)) = true := ddt (by omega)
 refine wcr (wlq (pls R R) R (wnt (wcs (wft R c1 (wck (wqt (wcs (wcb (wcr (mv R R (asg R R (wnt (wcg (mv R R (wlq (v := .agg #[iv a_b.Size, (sl v0a)]) (plb tk_43 pz R R R) R (mv R R (bdO t1 fun v2 hv2 t1 => (wlc (cz0 fa_141 R fun w hw => c_impl_AreaOf w a_b v0a (ra r0 hw) ((k1 : Nat) : Int) hv2) R fun _ => (wle (ebs R (sb_23_1 v2)) R fun b3 => (gdO t1 fun g1 t1 => (wle (eo_append (xs := s1) (ys := ([v2] : List Int)) ak_23 pk2 R R (slin_rd fun _ g => Rg.on (rgo (pbo pz (n := 1) (xs := ([v2] : List Int)) R R (by unfold maxLen; omega))) g) g1) R fun x2 => ?_)))))))))))))))))))))
 refine asg R R (wln (wqb (wqt (wcg (wlq (po_inc R R (by omega)) R ?_)))))
 exact mv R R (wln (wq_rnd hk1 (stpN l1 t1) x2 (su3 R R R) (zc pk2 so1)))
 have c1 : (decide (((k1 : Nat) : Int) < 6)) = false := ddf (by omega)
 have en1 := foe l1 hk1
 exact wcr (wlq (pls R R) R (wnt (wcs (wff R c1 (wcx (wqe (wqe (wbx (wjm _ x1l (Sum.inl.inj en1) (su1 R) (zc pk1 zn))))))))))
 intro e1 x1 hp
 obtain rfl : e1 = y1 := hp.symm
 refine wqt (wcr (mv R R (asg R R (wnt (wct ?_)))))
 obtain rfl := oi t0
 exact wq1 R R fun w hw => ⟨x1, R, hw.weak so1⟩

theorem c_impl_TakeCloth (w : World) (a_stock : List Int) (v0a : Hd) (r0 : rdF w (dm w []) (sl v0a) a_stock) (a_a : Int) (a_length : Int) {r : (List Int) × Bool} (t0 : impl_TakeCloth a_stock a_a a_length = some r) : Calls Tryz.prog 127 #[(sl v0a), .int .i64 a_a, .int .i64 a_length] w fun e w' => ∃ x : Hd, e = .returned (.tuple #[(sl x), .bool r.2]) ∧ SH w [] [ownF (sl x) r.1] w' := by
 refine cwc (args := [_, _, _]) Tryz.func127 R Tryz.ntmps127 R ?_
 unfold impl_TakeCloth at t0
 refine wcr (asg R R (asg R R (wnt (wcr (mv R R (bdO t0 fun v1 hv1 t0 => (wlc (cz1 fa_95 R fun w hw => c_impl_copyOf w a_stock v0a (ra r0 hw) hv1) R fun x1 => (asg R R (wnt (wcs (wcs (bdO t0 fun y1 t1 t0 => (wj (J := Bool) (X := Unit) (fun z => y1 = z) (fun z _ => [(1, iv a_a), (2, iv a_length), (8, (sl x1)), (27, .bool z)]) (fun _ _ => [ownF (sl x1) v1]) ?_ ?_)))))))))))))
 refine wcg (mv R R (bdO t1 fun v2 hv2 t1 => (wlc (cz0 fa_97 R fun w hw => c_impl_StockOk w a_stock v0a (ra r0 hw) hv2) R fun _ => (wlq (po_not R) R (mv R R (wlo (t := 14) t1 R (fun h1 t1 => ?_) fun h1 t1 => ?_))))))
 exact wgf (j := 3) R R R R R (wgf (j := 3) R R R R R (wgf (j := 3) R R R R R (wlq (pit R R) R (mv R R (wgf (j := 8) R R R R R (wgf (j := 8) R R R R R (wgf (j := 8) R R R R R (wgf (j := 8) R R R R R (wgf (j := 8) R R R R R (wgf (j := 8) R R R R R (wgf (j := 8) R R R R R (wlq (pit R R) R (wln (wjm _ () (mtE t1) (su4 R R R R) so1))))))))))))))
 refine wgn (j := 3) R R R (mv R R (bdO t1 fun v3 hv3 t1 => (wgn (j := 3) R R R (wlc (cz0 fa_140 R fun w hw => c_impl_isColor w a_a hv3) R (fun _ => (wgn (j := 3) R R R (wlq (po_not R) R (wlq (pif R R) R (mv R R (wlo (t := 19) t1 R (fun h2 t1 => ?_) fun h2 t1 => ?_))))))))))
 exact wgf (j := 8) R R R R R (wgf (j := 8) R R R R R (wgf (j := 8) R R R R R (wgf (j := 8) R R R R R (wgf (j := 8) R R R R R (wgf (j := 8) R R R R R (wgf (j := 8) R R R R R (wlq (pit R R) R (wln (wjm _ () (mtE t1) (su4 R R R R) so1)))))))))
 exact wgn (j := 8) R R R (mv R R (wgn (j := 8) R R R (mv R R (wgn (j := 8) R R R (mv R R (gdO t1 fun g1 t1 => (wgn (j := 8) R R R (wlq (po_ixr (rga r0) el_23 R R g1.1 g1.2) R (wgn (j := 8) R R R (wlq (v := iv (gx a_stock ((a_a).toNat))) (po_ldf (rga r0) tk_3 R (ix_lt g1) R) R (bdO t1 fun v4 hv4 t1 => (wgn (j := 8) R R R (wlc (cz0 fa_101 R fun w hw => c_impl_within w a_length 0 (gx a_stock ((a_a).toNat)) hv4) R (fun _ => (wgn (j := 8) R R R (wlq (po_not R) R (wlq (pif R R) R (wln (wjm _ () (mtE t1) (su4 R R R R) so1)))))))))))))))))))
 intro j1 _ hp
 obtain rfl : j1 = y1 := hp.symm
 refine wqt (wcO t0 R (fun h3 t0 => ?_) fun h3 t0 => ?_)
 refine wcr (mv R R (asg R R (asg R R (wnt (wct (wqr ?_))))))
 obtain rfl := oi t0
 exact wq_ret2 R R R fun w hw => ⟨x1, R, hw.weak so1⟩
 refine wck (wqt (wcr (mv R R (mv R R (gdO t0 fun g2 t0 => (wlq (po_ixr (rgo pz) el_23 R R g2.1 g2.2) R (wlq (v := iv (gx v1 ((a_a).toNat))) (po_ldf (rgo pz) tk_3 R (ix_lt g2) R) R (mv R R (wlq (po_sub R R) R (wlq (po_ixr (rgo pz) el_23 R R g2.1 g2.2) R (wls (so_own (x' := (wr ((gx v1 ((a_a).toNat)) - a_length))) tk_3 pz R R R R R R (ix_lt g2) R) (wnt (wcr (mv R R (asg R R (asg R R (wnt (wct ?_))))))))))))))))))
 obtain rfl := oi t0
 exact wq_ret2 R R R fun w hw => ⟨x1, R, hw.weak so1⟩

theorem c_impl_SewBlock (w : World) (a_g : GGuild) (v0a : Hd) (r0 : rdF w (dm w []) (sl v0a) a_g.Members) (v1a : Hd) (r1 : rdF w (dm w []) (sl v1a) a_g.Stock) (v2a : Hd) (u2a : List Value) (r2 : RdL w (dm w []) (sl v2a) u2a a_g.Entries) (v3a : Hd) (r3 : rdF w (dm w []) (sl v3a) a_g.Books) (a_k : Int) {r : GGuild × Bool} (t0 : impl_SewBlock a_g a_k = some r) : Calls Tryz.prog 74 #[.agg #[(sl v0a), (sl v1a), (sl v2a), (sl v3a), .int .i64 a_g.Round, .int .i64 a_g.Year], .int .i64 a_k] w fun e w' => ∃ x : Hd × Hd × Hd × (List Value) × Hd, e = .returned (.tuple #[.agg #[(sl x.1), (sl x.2.1), (sl x.2.2.1), (sl x.2.2.2.2), .int .i64 r.1.Round, .int .i64 r.1.Year], .bool r.2]) ∧ SH w [] [ownF (sl x.1) r.1.Members, ownF (sl x.2.1) r.1.Stock, own (sl x.2.2.1) x.2.2.2.1 r.1.Entries, ownF (sl x.2.2.2.2) r.1.Books] w' := by
 refine cwc (args := [_, _]) Tryz.func74 R Tryz.ntmps74 R ?_
 unfold impl_SewBlock at t0
 refine wcr (wle (eo_box R R) R fun b1 => (wle (eal (cs := [(sl hn), (sl hn), (sl hn), (sl hn), iv 0, iv 0]) za_37) R fun b2 => (asg R R (wnt (wcr (wlq (v := .agg #[(sl v0a), (sl v1a), (sl v2a), (sl v3a), iv a_g.Round, iv a_g.Year]) (plb tk_37 pk1 R R R) R (bdO t0 fun v1 hv1 t0 => (wlc (co_c4 fa_46 R fun w hw => c_impl_Guild_copied w a_g v0a (ra r0 hw) v1a (ra r1 hw) v2a u2a (ra r2 hw) v3a (ra r3 hw) hv1) R fun x1 => (wle (eal (cs := [(sl hn), (sl hn), (sl hn), (sl hn), iv 0, iv 0]) za_37) R fun b3 => (wls (sbx (cs' := [(sl x1.1), (sl x1.2.1), (sl x1.2.2.1), (sl x1.2.2.2.2), iv v1.Round, iv v1.Year]) tk_37 pz R R R R R R R) (wnt (wcs (wcs (bdO t0 fun y1 t1 t0 => (wj (J := Bool) (X := Unit) (fun z => y1 = z) (fun z _ => [(1, iv a_k), (2, ptr b1 0), (4, ptr b2 0), (6, ptr b3 0), (24, .bool z)]) (fun _ _ => [box b3 [(sl x1.1), (sl x1.2.1), (sl x1.2.2.1), (sl x1.2.2.2.2), iv v1.Round, iv v1.Year], box b2 [(sl hn), (sl hn), (sl hn), (sl hn), iv 0, iv 0], box b1 [(sl v0a), (sl v1a), (sl v2a), (sl v3a), iv a_g.Round, iv a_g.Year], ownF (sl x1.1) v1.Members, ownF (sl x1.2.1) v1.Stock, own (sl x1.2.2.1) x1.2.2.2.1 v1.Entries, ownF (sl x1.2.2.2.2) v1.Books]) ?_ ?_)))))))))))))))
 refine wcg (wlq (v := .agg #[(sl v0a), (sl v1a), (sl v2a), (sl v3a), iv a_g.Round, iv a_g.Year]) (plb tk_37 pk6 R R R) R (bdO t1 fun v2 hv2 t1 => (wlc (cz0 fa_48 R fun w hw => c_impl_GuildOk w a_g v0a (ra r0 hw) v1a (ra r1 hw) v2a u2a (ra r2 hw) v3a (ra r3 hw) hv2) R fun _ => (wlq (po_not R) R (mv R R (wlo (t := 16) t1 R (fun h1 t1 => ?_) fun h1 t1 => ?_))))))
 exact wgf (j := 3) R R R R R (wgf (j := 3) R R R R R (wgf (j := 3) R R R R R (wgf (j := 3) R R R R R (wgf (j := 3) R R R R R (wgf (j := 3) R R R R R (wgf (j := 3) R R R R R (wlq (pit R R) R (wln (wjm _ () (mtE t1) (su5 R R R R R) (zc pz (zc pk4 (zc pk4 so4))))))))))))
 exact wgn (j := 3) R R R (mv R R (wgn (j := 3) R R R (wlq (pof fo_37_2 R) R (wgn (j := 3) R R R (wlq (v := (sl v2a)) (plx tk_34 pk6 R R) R (wgn (j := 3) R R R (wlq (pln (rga r2) el_34 R) R (wgn (j := 3) R R R (wlq (po_sub R R) R (bdO t1 fun v3 hv3 t1 => (wgn (j := 3) R R R (wlc (cz0 fa_101 R fun w hw => c_impl_within w a_k 0 (wr (((a_g.Entries.length : Nat) : Int) - 1)) hv3) R (fun _ => (wgn (j := 3) R R R (wlq (po_not R) R (wlq (pif R R) R (wln (wjm _ () (mtE t1) (su5 R R R R R) (zc pz (zc pk4 (zc pk4 so4)))))))))))))))))))))
 intro j1 _ hp
 obtain rfl : j1 = y1 := hp.symm
 refine wqt (wcO t0 R (fun h2 t0 => ?_) fun h2 t0 => ?_)
 refine wcr (wlq (v := .agg #[(sl x1.1), (sl x1.2.1), (sl x1.2.2.1), (sl x1.2.2.2.2), iv v1.Round, iv v1.Year]) (plb tk_37 pz R R R) R (wls (sbx (cs' := [(sl x1.1), (sl x1.2.1), (sl x1.2.2.1), (sl x1.2.2.2.2), iv v1.Round, iv v1.Year]) tk_37 pk1 R R R R R R R) (asg R R (wnt (wct (wqr ?_))))))
 obtain rfl := oi t0
 exact wq_retc1 R tk_37 R R pz R fun w hw => ⟨(x1.1, x1.2.1, x1.2.2.1, x1.2.2.2.1, x1.2.2.2.2), R, hw.weak (zc pk3 (zc pk3 (zc pk3 (zc pk3 zn))))⟩
 refine wck (wqt (wcs (wcr (wlq (pof fo_37_2 R) R (wlq (v := (sl v2a)) (plx tk_34 pk2 R R) R (mv R R (gdO t0 fun g1 t0 => (wlq (po_ixr (rga r2) el_34 R R g1.1 g1.2) R (wlq (po_sfldr (rga r2) (ix_lt g1) fo_78_2 R) R (wl_elem (rga r2) (ix_lt g1) ?_))))))))))
 rintro ⟨_, _, he1⟩
 obtain ⟨w1, hc1, _⟩ := rd_GEntry.1 he1
 refine wlq (v := .agg #[iv (((gx a_g.Entries ((a_k).toNat)).Block).Size), (sl w1)]) (po_ldns (rga r2) tk_43 R hc1 R R R) R (bdO t0 fun v4 hv4 t0 => (wlc (cz1 fa_126 R fun w hw => c_impl_AreaTable w ((gx a_g.Entries ((a_k).toNat)).Block) w1 (Rg.on (er_GEntry_0 hc1 (rga r2) (ix_lt g1)) hw) hv4) R fun x3 => (wlq (pln (rgo pz) el_23 R) R (mv R R (wnt (gdO t0 fun g2 t0 => (sqO t0 fun y1 l1 t0 => (wj (J := List Int) (X := Hd) (fun z => y1 = .inl z) (fun _ _ => [(4, ptr b2 0), (6, ptr b3 0)]) (fun z x => [box b3 [(sl x1.1), (sl x), (sl x1.2.2.1), (sl x1.2.2.2.2), iv v1.Round, iv v1.Year], box b2 [(sl hn), (sl hn), (sl hn), (sl hn), iv 0, iv 0], ownF (sl x1.1) v1.Members, ownF (sl x) z, own (sl x1.2.2.1) x1.2.2.2.1 v1.Entries, ownF (sl x1.2.2.2.2) v1.Books]) ?_ ?_))))))))
 refine wcb (wcf (X := Hd) l1 (fun k1 s1 x1l => [(2, ptr b1 0), (4, ptr b2 0), (6, ptr b3 0), (32, (sl x3)), (33, iv ((v4.length : Nat) : Int)), (34, iv ((k1 : Nat) : Int))]) (fun k1 s1 x1l => [ownF (sl x3) v4, box b3 [(sl x1.1), (sl x1l), (sl x1.2.2.1), (sl x1.2.2.2.2), iv v1.Round, iv v1.Year], box b2 [(sl hn), (sl hn), (sl hn), (sl hn), iv 0, iv 0], box b1 [(sl v0a), (sl v1a), (sl v2a), (sl v3a), iv a_g.Round, iv a_g.Year], ownF (sl x1.1) v1.Members, ownF (sl x1l) s1, own (sl x1.2.2.1) x1.2.2.2.1 v1.Entries, ownF (sl x1.2.2.2.2) v1.Books]) x1.2.1 (su6 R R R R R R) so8 fun k1 s1 x1l hN1 l1 => ?_)
 by_cases hk1 : k1 < v4.length
 refine fos l1 hk1 fun _ t1 l1 => ?_
 unfold impl_SewBlock_L1 at t1
 have c1 : (decide (((k1 : Nat) : Int) < ((v4.length : Nat) : Int))) = true := ddt (by omega)
 refine wcr (wlq (pls R R) R (wnt (wcs (wft R c1 (wck (wqt (wcs (wcb (wcr (mv R R (wlq (po_ixn (k := k1) (rgo pz) el_23 R R hk1) R (wlq (v := iv (gx v4 k1)) (po_ldf (rgo pz) tk_3 R hk1 R) R (asg R R (asg R R (wnt (wcr (wlq (pof fo_37_1 R) R (wlq (v := (sl x1l)) (plx tk_23 pk1 R R) R (mv R R (mv R R (bdO t1 fun v5 hv5 t1 => (wlc (cz1 fa_127 R fun w hw => c_impl_TakeCloth w s1 x1l (Rg.on (rgo pk5) hw) ((k1 : Nat) : Int) (gx v4 k1) hv5) R fun x5 => (mv R R (wlq (pex R R) R (wlq (pex R R) R (asg R R (asg R R (wnt (wcs (wcr (mv R R (wlq (po_not R) R (wnt (wcO t1 R (fun h3 t1 => ?_) fun h3 t1 => ?_))))))))))))))))))))))))))))))))))
 refine wcr (wlq (v := .agg #[(sl v0a), (sl v1a), (sl v2a), (sl v3a), iv a_g.Round, iv a_g.Year]) (plb tk_37 pk4 R R R) R (bdO t1 fun v6 hv6 t1 => (wlc (co_c4 fa_46 R fun w hw => c_impl_Guild_copied w a_g v0a (ra r0 hw) v1a (ra r1 hw) v2a u2a (ra r2 hw) v3a (ra r3 hw) hv6) R fun x6 => (wls (sbx (cs' := [(sl x6.1), (sl x6.2.1), (sl x6.2.2.1), (sl x6.2.2.2.2), iv v6.Round, iv v6.Year]) tk_37 pk7 R R R R R R R) (asg R R (wnt (wct (wqr (wbr (wqr (wqr (wbr (wqr (wqr ?_))))))))))))))
 replace t0 := lpR t0 l1 t1
 obtain rfl := oi t0
 exact wq_retc1 R tk_37 R R pz R fun w hw => ⟨(x6.1, x6.2.1, x6.2.2.1, x6.2.2.2.1, x6.2.2.2.2), R, hw.weak (zc pk1 (zc pk1 (zc pk1 (zc pk1 zn))))⟩
 refine wck (wqt (wcg (mv R R (wlq (pof fo_37_1 R) R (wls (sbx (cs' := [(sl x1.1), (sl x5), (sl x1.2.2.1), (sl x1.2.2.2.2), iv v1.Round, iv v1.Year]) tk_23 pk2 R R R R R R R) (wln (wqb (wqt (wcg (wlq (po_inc R R (by omega)) R ?_))))))))))
 exact mv R R (wln (wq_rnd hk1 (stpN l1 t1) x5 (su6 R R R R R R) (zc pk2 (zc pz (zc pk1 (zc pk1 (zc pk1 (zc pz (zc pk1 (zc pk1 zn))))))))))
 have c1 : (decide (((k1 : Nat) : Int) < ((v4.length : Nat) : Int))) = false := ddf (by omega)
 have en1 := foe l1 hk1
 exact wcr (wlq (pls R R) R (wnt (wcs (wff R c1 (wcx (wqe (wqe (wbx (wjm _ x1l en1 (su2 R R) (zc pk1 (zc pk1 (zc pk2 (zc pk2 (zc pk2 (zc pk2 zn)))))))))))))))
 intro e1 x4 hp
 replace t0 := sqE (j := e1) t0 hp
 refine wqt (wcr (wlq (v := .agg #[(sl x1.1), (sl x4), (sl x1.2.2.1), (sl x1.2.2.2.2), iv v1.Round, iv v1.Year]) (plb tk_37 pz R R R) R (wls (sbx (cs' := [(sl x1.1), (sl x4), (sl x1.2.2.1), (sl x1.2.2.2.2), iv v1.Round, iv v1.Year]) tk_37 pk1 R R R R R R R) (asg R R (wnt (wct ?_))))))
 obtain rfl := oi t0
 exact wq_retc1 R tk_37 R R pz R fun w hw => ⟨(x1.1, x4, x1.2.2.1, x1.2.2.2.1, x1.2.2.2.2), R, hw.weak (zc pk2 (zc pk2 (zc pk2 (zc pk2 zn))))⟩

theorem c_impl_SwapRound (w : World) (a_g : GGuild) (v0a : Hd) (r0 : rdF w (dm w []) (sl v0a) a_g.Members) (v1a : Hd) (r1 : rdF w (dm w []) (sl v1a) a_g.Stock) (v2a : Hd) (u2a : List Value) (r2 : RdL w (dm w []) (sl v2a) u2a a_g.Entries) (v3a : Hd) (r3 : rdF w (dm w []) (sl v3a) a_g.Books) {r : GGuild × Bool} (t0 : impl_SwapRound a_g = some r) : Calls Tryz.prog 75 #[.agg #[(sl v0a), (sl v1a), (sl v2a), (sl v3a), .int .i64 a_g.Round, .int .i64 a_g.Year]] w fun e w' => ∃ x : Hd × Hd × Hd × (List Value) × Hd, e = .returned (.tuple #[.agg #[(sl x.1), (sl x.2.1), (sl x.2.2.1), (sl x.2.2.2.2), .int .i64 r.1.Round, .int .i64 r.1.Year], .bool r.2]) ∧ SH w [] [ownF (sl x.1) r.1.Members, ownF (sl x.2.1) r.1.Stock, own (sl x.2.2.1) x.2.2.2.1 r.1.Entries, ownF (sl x.2.2.2.2) r.1.Books] w' := by
 refine cwc (args := [_]) Tryz.func75 R Tryz.ntmps75 R ?_
 unfold impl_SwapRound at t0
 refine wcr (wle (eo_box R R) R fun b1 => (wle (eal (cs := [(sl hn), (sl hn), (sl hn), (sl hn), iv 0, iv 0]) za_37) R fun b2 => (asg R R (wnt (wcr (wlq (v := .agg #[(sl v0a), (sl v1a), (sl v2a), (sl v3a), iv a_g.Round, iv a_g.Year]) (plb tk_37 pk1 R R R) R (bdO t0 fun v1 hv1 t0 => (wlc (co_c4 fa_46 R fun w hw => c_impl_Guild_copied w a_g v0a (ra r0 hw) v1a (ra r1 hw) v2a u2a (ra r2 hw) v3a (ra r3 hw) hv1) R fun x1 => (wle (eal (cs := [(sl hn), (sl hn), (sl hn), (sl hn), iv 0, iv 0]) za_37) R fun b3 => (wls (sbx (cs' := [(sl x1.1), (sl x1.2.1), (sl x1.2.2.1), (sl x1.2.2.2.2), iv v1.Round, iv v1.Year]) tk_37 pz R R R R R R R) (wnt (wcr (wlq (pof fo_37_4 R) R (wlq (v := iv v1.Round) (plx tk_3 pz R R) R (wlq (po_add R R) R (wlq (pof fo_37_4 R) R (wls (sbx (cs' := [(sl x1.1), (sl x1.2.1), (sl x1.2.2.1), (sl x1.2.2.2.2), iv (wr (v1.Round + 1)), iv v1.Year]) tk_3 pz R R R R R R R) (wnt (wcr (wlq (v := .agg #[(sl v0a), (sl v1a), (sl v2a), (sl v3a), iv a_g.Round, iv a_g.Year]) (plb tk_37 pk6 R R R) R (wlq (v := .agg #[(sl x1.1), (sl x1.2.1), (sl x1.2.2.1), (sl x1.2.2.2.2), iv (wr (v1.Round + 1)), iv v1.Year]) (plb tk_37 pz R R R) R (bdO t0 fun v2 hv2 t0 => (wlc (co_o4 [ownF (sl x1.1) v1.Members, ownF (sl x1.2.1) v1.Stock, own (sl x1.2.2.1) x1.2.2.2.1 v1.Entries, ownF (sl x1.2.2.2.2) v1.Books] fa_50 (zc pk1 (zc pk1 (zc pk1 (zc pk1 some_refl)))) R fun w fp hw => c_impl_Guild_becomes w fp a_g v0a ((rdo_arg r0) w fp hw) v1a ((rdo_arg r1) w fp hw) v2a u2a ((rdo_arg r2) w fp hw) v3a ((rdo_arg r3) w fp hw) (GGuild.mk v1.Members v1.Stock v1.Entries v1.Books (wr (v1.Round + 1)) v1.Year) x1.1 x1.2.1 x1.2.2.1 x1.2.2.2.1 x1.2.2.2.2 true hw.ow hv2) R fun x2 => (wlq (pex R R) R (wlq (pex R R) R (wls (sbx (cs' := [(sl x2.1), (sl x2.2.1), (sl x2.2.2.1), (sl x2.2.2.2.2), iv v2.1.Round, iv v2.1.Year]) tk_37 pk5 R R R R R R R) (asg R R (wnt (wct ?_)))))))))))))))))))))))))))))
 obtain rfl := oi t0
 exact wq_retc1 R tk_37 R R pz R fun w hw => ⟨(x2.1, x2.2.1, x2.2.2.1, x2.2.2.2.1, x2.2.2.2.2), R, hw.weak (zc pk1 (zc pk1 (zc pk1 (zc pk1 zn))))⟩

theorem c_impl_NewYear (w : World) (a_g : GGuild) (v0a : Hd) (r0 : rdF w (dm w []) (sl v0a) a_g.Members) (v1a : Hd) (r1 : rdF w (dm w []) (sl v1a) a_g.Stock) (v2a : Hd) (u2a : List Value) (r2 : RdL w (dm w []) (sl v2a) u2a a_g.Entries) (v3a : Hd) (r3 : rdF w (dm w []) (sl v3a) a_g.Books) {r : GGuild × Bool} (t0 : impl_NewYear a_g = some r) : Calls Tryz.prog 76 #[.agg #[(sl v0a), (sl v1a), (sl v2a), (sl v3a), .int .i64 a_g.Round, .int .i64 a_g.Year]] w fun e w' => ∃ x : Hd × Hd × Hd × (List Value) × Hd, e = .returned (.tuple #[.agg #[(sl x.1), (sl x.2.1), (sl x.2.2.1), (sl x.2.2.2.2), .int .i64 r.1.Round, .int .i64 r.1.Year], .bool r.2]) ∧ SH w [] [ownF (sl x.1) r.1.Members, ownF (sl x.2.1) r.1.Stock, own (sl x.2.2.1) x.2.2.2.1 r.1.Entries, ownF (sl x.2.2.2.2) r.1.Books] w' := by
 refine cwc (args := [_]) Tryz.func76 R Tryz.ntmps76 R ?_
 unfold impl_NewYear at t0
 refine wcr (wle (eo_box R R) R fun b1 => (wle (eal (cs := [(sl hn), (sl hn), (sl hn), (sl hn), iv 0, iv 0]) za_37) R fun b2 => (asg R R (wnt (wcr (wlq (v := .agg #[(sl v0a), (sl v1a), (sl v2a), (sl v3a), iv a_g.Round, iv a_g.Year]) (plb tk_37 pk1 R R R) R (bdO t0 fun v1 hv1 t0 => (wlc (co_c4 fa_46 R fun w hw => c_impl_Guild_copied w a_g v0a (ra r0 hw) v1a (ra r1 hw) v2a u2a (ra r2 hw) v3a (ra r3 hw) hv1) R fun x1 => (wle (eal (cs := [(sl hn), (sl hn), (sl hn), (sl hn), iv 0, iv 0]) za_37) R fun b3 => (wls (sbx (cs' := [(sl x1.1), (sl x1.2.1), (sl x1.2.2.1), (sl x1.2.2.2.2), iv v1.Round, iv v1.Year]) tk_37 pz R R R R R R R) (wnt (wcr (wlq (pof fo_37_5 R) R (wlq (v := iv v1.Year) (plx tk_3 pz R R) R (wlq (po_add R R) R (wlq (pof fo_37_5 R) R (wls (sbx (cs' := [(sl x1.1), (sl x1.2.1), (sl x1.2.2.1), (sl x1.2.2.2.2), iv v1.Round, iv (wr (v1.Year + 1))]) tk_3 pz R R R R R R R) (wnt (wcr (wlq (pof fo_37_4 R) R (wls (sbx (cs' := [(sl x1.1), (sl x1.2.1), (sl x1.2.2.1), (sl x1.2.2.2.2), iv 0, iv (wr (v1.Year + 1))]) tk_3 pz R R R R R R R) (wnt (wcs (wcd [box b2 [(sl hn), (sl hn), (sl hn), (sl hn), iv 0, iv 0], box b1 [(sl v0a), (sl v1a), (sl v2a), (sl v3a), iv a_g.Round, iv a_g.Year]] 10 mixed (aq (v := .agg #[(sl v0a), (sl v1a), (sl v2a), (sl v3a), iv a_g.Round, iv a_g.Year]) 0 R (plb tk_37 pk1 R R R) (zc pk5 (zc pk5 zn)) R (aq 2 R (pof fo_37_4 R) (zc pk5 (zc pk5 zn)) R (aq (v := iv a_g.Round) 3 R (plx tk_3 pk1 R R) (zc pk5 (zc pk5 zn)) R (aq (v := .agg #[(sl v0a), (sl v1a), (sl v2a), (sl v3a), iv a_g.Round, iv a_g.Year]) 4 R (plb tk_37 pk1 R R R) (zc pk5 (zc pk5 zn)) R (wa_2 (i := 1) (j := 5) (by kernel_rfl) ?_ ?_)))))))))))))))))))))))))))))
 refine ws_pure (v := .agg #[(sl x1.1), (sl x1.2.1), (sl x1.2.2.1), (sl x1.2.2.2.2), iv 0, iv (wr (v1.Year + 1))]) R (plb tk_37 pz R R R) (zt (zc pk5 (zc pk5 zn))) R (a1 5 (bdO t0 fun v2 hv2 t0 => (wsc R (cz0 fa_102 R fun w hw => c_impl_SwapRounds w a_g v0a (ra r0 hw) v1a (ra r1 hw) v2a u2a (ra r2 hw) v3a (ra r3 hw) hv2) (fun _ => (zt (zc pk5 (zc pk5 zn)))) R fun _ => (aq 6 R (po_geq R R) (zc pk5 (zc pk5 zn)) R (a1 7 (bdO t0 fun v3 hv3 t0 => (wsc R (co_o4 [ownF (sl x1.1) v1.Members, ownF (sl x1.2.1) v1.Stock, own (sl x1.2.2.1) x1.2.2.2.1 v1.Entries, ownF (sl x1.2.2.2.2) v1.Books] fa_50 (zc pk1 (zc pk1 (zc pk1 (zc pk1 some_refl)))) R fun w fp hw => c_impl_Guild_becomes w fp a_g v0a ((rdo_arg r0) w fp hw) v1a ((rdo_arg r1) w fp hw) v2a u2a ((rdo_arg r2) w fp hw) v3a ((rdo_arg r3) w fp hw) (GGuild.mk v1.Members v1.Stock v1.Entries v1.Books 0 (wr (v1.Year + 1))) x1.1 x1.2.1 x1.2.2.1 x1.2.2.2.1 x1.2.2.2.2 (decide (a_g.Round ≥ v2)) hw.ow hv3) (fun _ => (zt (zc pk5 (zc pk5 zn)))) R fun x2 => (aq 8 R (pex R R) (zc pk5 (zc pk5 zn)) R (aq 9 R (pex R R) (zc pk5 (zc pk5 zn)) R (a1 10 (ws_skipop R (sbx (cs' := [(sl x2.1), (sl x2.2.1), (sl x2.2.2.1), (sl x2.2.2.2.2), iv v3.1.Round, iv v3.1.Year]) tk_37 pk5 R R R R R R R) (sts_past (by kernel_rfl)) ?_)))))))))))
 refine a1 11 (ws_pure R (po_assign R) (sts_past (by kernel_rfl)) R ?_)
 refine ae (wqt (wct ?_))
 obtain rfl := oi t0
 exact wq_retc1 R tk_37 R R pz R fun w hw => ⟨(x2.1, x2.2.1, x2.2.2.1, x2.2.2.2.1, x2.2.2.2.2), R, hw.weak (zc pk1 (zc pk1 (zc pk1 (zc pk1 zn))))⟩
 refine bdO t0 fun v4 hv4 t0 => wsc R (cz0 fa_102 R fun w hw => c_impl_SwapRounds w a_g v0a (ra r0 hw) v1a (ra r1 hw) v2a u2a (ra r2 hw) v3a (ra r3 hw) hv4) (fun _ => (zt (zc pk5 (zc pk5 zn)))) R fun _ => aq 6 R (po_geq R R) (zc pk5 (zc pk5 zn)) R (a1 1 (ws_pure (v := .agg #[(sl x1.1), (sl x1.2.1), (sl x1.2.2.1), (sl x1.2.2.2.2), iv 0, iv (wr (v1.Year + 1))]) R (plb tk_37 pz R R R) (zt (zc pk5 (zc pk5 zn))) R (a1 7 (bdO t0 fun v5 hv5 t0 => (wsc R (co_o4 [ownF (sl x1.1) v1.Members, ownF (sl x1.2.1) v1.Stock, own (sl x1.2.2.1) x1.2.2.2.1 v1.Entries, ownF (sl x1.2.2.2.2) v1.Books] fa_50 (zc pk1 (zc pk1 (zc pk1 (zc pk1 some_refl)))) R fun w fp hw => c_impl_Guild_becomes w fp a_g v0a ((rdo_arg r0) w fp hw) v1a ((rdo_arg r1) w fp hw) v2a u2a ((rdo_arg r2) w fp hw) v3a ((rdo_arg r3) w fp hw) (GGuild.mk v1.Members v1.Stock v1.Entries v1.Books 0 (wr (v1.Year + 1))) x1.1 x1.2.1 x1.2.2.1 x1.2.2.2.1 x1.2.2.2.2 (decide (a_g.Round ≥ v4)) hw.ow hv5) (fun _ => (zt (zc pk5 (zc pk5 zn)))) R fun x3 => (aq 8 R (pex R R) (zc pk5 (zc pk5 zn)) R (aq 9 R (pex R R) (zc pk5 (zc pk5 zn)) R (a1 10 (ws_skipop R (sbx (cs' := [(sl x3.1), (sl x3.2.1), (sl x3.2.2.1), (sl x3.2.2.2.2), iv v5.1.Round, iv v5.1.Year]) tk_37 pk5 R R R R R R R) (sts_past (by kernel_rfl)) ?_)))))))))
 refine a1 11 (ws_pure R (po_assign R) (sts_past (by kernel_rfl)) R ?_)
 refine ae (wqt (wct ?_))
 obtain rfl := oi t0
 exact wq_retc1 R tk_37 R R pz R fun w hw => ⟨(x3.1, x3.2.1, x3.2.2.1, x3.2.2.2.1, x3.2.2.2.2), R, hw.weak (zc pk1 (zc pk1 (zc pk1 (zc pk1 zn))))⟩

theorem c_impl_LackOf (w : World) (a_stock : List Int) (v0a : Hd) (r0 : rdF w (dm w []) (sl v0a) a_stock) (a_need : List Int) (v1a : Hd) (r1 : rdF w (dm w []) (sl v1a) a_need) {r : List Int} (t0 : impl_LackOf a_stock a_need = some r) : Calls Tryz.prog 128 #[(sl v0a), (sl v1a)] w fun e w' => ∃ x : Hd, e = .returned ((sl x)) ∧ SH w [] [ownF (sl x) r] w' := by
 refine cwc (args := [_, _]) Tryz.func128 R Tryz.ntmps128 R ?_
 unfold impl_LackOf at t0
 refine wcr (asg R R (wnt (wcs (wcs (bdO t0 fun y1 t1 t0 => (wj (J := Bool) (X := Unit) (fun z => y1 = z) (fun z _ => [(0, (sl v0a)), (1, (sl v1a)), (14, .bool z)]) (fun _ _ => []) ?_ ?_))))))
 refine wcg (mv R R (bdO t1 fun v1 hv1 t1 => (wlc (cz0 fa_97 R fun w hw => c_impl_StockOk w a_stock v0a (ra r0 hw) hv1) R fun _ => (wlq (po_not R) R (mv R R (wlo (t := 10) t1 R (fun h1 t1 => ?_) fun h1 t1 => ?_))))))
 exact wgf (j := 3) R R R R R (wgf (j := 3) R R R R R (wgf (j := 3) R R R R R (wlq (pit R R) R (wln (wjm _ () (mtE t1) (su3 R R R) zn)))))
 exact wgn (j := 3) R R R (mv R R (bdO t1 fun v2 hv2 t1 => (wgn (j := 3) R R R (wlc (cz0 fa_97 R fun w hw => c_impl_StockOk w a_need v1a (ra r1 hw) hv2) R (fun _ => (wgn (j := 3) R R R (wlq (po_not R) R (wlq (pif R R) R (wln (wjm _ () (mtE t1) (su3 R R R) zn))))))))))
 intro j1 _ hp
 obtain rfl : j1 = y1 := hp.symm
 refine wqt (wcO t0 R (fun h2 t0 => ?_) fun h2 t0 => ?_)
 refine wcr (asg R R (wnt (wct (wqr ?_))))
 obtain rfl := oi t0
 exact wq1 R R fun w hw => ⟨hn, R, hw.weak (zc pick_nil zn)⟩
 refine wck (wqt (wcr (wle (ebs R sb_23_0) R fun b1 => (asg R R (wnt (wcs (wcr (mv R R (wlq (pln (rga r0) el_23 R) R (mv R R (wnt (gdO t0 fun g1 t0 => (lpO_inv t0 fun y1 l1 t0 => (wj (J := List Int) (X := Hd) (fun z => y1 = z) (fun _ x => [(5, (sl x))]) (fun z x => [ownF (sl x) z]) ?_ ?_))))))))))))))
 refine wcb (wcf (X := Hd) l1 (fun k1 s1 x1l => [(0, (sl v0a)), (1, (sl v1a)), (5, (sl x1l)), (17, iv ((a_stock.length : Nat) : Int)), (18, iv ((k1 : Nat) : Int))]) (fun k1 s1 x1l => [ownF (sl x1l) s1]) (⟨some ⟨b1, 0, none⟩, 0, 0⟩ : Hd) (su5 R R R R R) (zc (pbo pz (n := 0) (xs := ([] : List Int)) R R (by unfold maxLen; omega)) zn) fun k1 s1 x1l hN1 l1 => ?_)
 by_cases hk1 : k1 < a_stock.length
 refine fos l1 hk1 fun _ t1 l1 => ?_
 unfold impl_LackOf_L1 at t1
 have c1 : (decide (((k1 : Nat) : Int) < ((a_stock.length : Nat) : Int))) = true := ddt (by omega)
 refine wcr (wlq (pls R R) R (wnt (wcs (wft R c1 (wck (wqt (wcs (wcb (wcr (mv R R (asg R R (wnt (wcd [] 14 mixed (aq 0 R (pom R) zn R (aq 1 R (pom R) zn R (aq 2 R (pom R) zn R (gdO t1 fun g2 t1 => (aq 3 R (po_ixn (k := k1) (rga r1) el_23 R R g2) zn R (aq (v := iv (gx a_need k1)) 4 R (po_ldf (rga r1) tk_3 R g2 R) zn R (aq 5 R (pom R) zn R (aq 6 R (pom R) zn R (aq 7 R (po_ixn (k := k1) (rga r0) el_23 R R hk1) zn R (aq (v := iv (gx a_stock k1)) 8 R (po_ldf (rga r0) tk_3 R hk1 R) zn R (aq 9 R (po_sub R R) zn R (aq 10 R (po_max R R) zn R (a1 11 (wse R (ebs R (sb_23_1 (if 0 > (wr ((gx a_need k1) - (gx a_stock k1))) then 0 else (wr ((gx a_need k1) - (gx a_stock k1)))))) (fun _ => (zt zn)) R fun b2 => (a1 12 (gdO t1 fun g3 t1 => (wse R (eo_append (xs := s1) (ys := ([(if 0 > (wr ((gx a_need k1) - (gx a_stock k1))) then 0 else (wr ((gx a_need k1) - (gx a_stock k1))))] : List Int)) ak_23 pk1 R R (slin_rd fun _ g => Rg.on (rgo (pbo pz (n := 1) (xs := ([(if 0 > (wr ((gx a_need k1) - (gx a_stock k1))) then 0 else (wr ((gx a_need k1) - (gx a_stock k1))))] : List Int)) R R (by unfold maxLen; omega))) g) g3) (fun _ => (zt zn)) R fun x3 => ?_))))))))))))))))))))))))))))))
 refine aq 13 R (po_assign R) zn R (ae (wqb (wqt (wcg (wlq (po_inc R R (by omega)) R ?_)))))
 exact mv R R (wln (wq_rnd hk1 (stpN l1 t1) x3 (su5 R R R R R) so1))
 have c1 : (decide (((k1 : Nat) : Int) < ((a_stock.length : Nat) : Int))) = false := ddf (by omega)
 have en1 := foe l1 hk1
 exact wcr (wlq (pls R R) R (wnt (wcs (wff R c1 (wcx (wqe (wqe (wbx (wjm _ x1l (Sum.inl.inj en1) (su1 R) so1)))))))))
 intro e1 x2 hp
 obtain rfl : e1 = y1 := hp.symm
 refine wqt (wcr (mv R R (asg R R (wnt (wct ?_)))))
 obtain rfl := oi t0
 exact wq1 R R fun w hw => ⟨x2, R, hw.weak so1⟩

theorem c_impl_lack (w : World) (a_g : GGuild) (v0a : Hd) (_r0 : rdF w (dm w []) (sl v0a) a_g.Members) (v1a : Hd) (r1 : rdF w (dm w []) (sl v1a) a_g.Stock) (v2a : Hd) (u2a : List Value) (r2 : RdL w (dm w []) (sl v2a) u2a a_g.Entries) (v3a : Hd) (_r3 : rdF w (dm w []) (sl v3a) a_g.Books) (a_k : Int) {r : Int} (t0 : impl_lack a_g a_k = some r) : Calls Tryz.prog 77 #[.agg #[(sl v0a), (sl v1a), (sl v2a), (sl v3a), .int .i64 a_g.Round, .int .i64 a_g.Year], .int .i64 a_k] w fun e w' => e = .returned (.int .i64 r) ∧ SH w [] [] w' := by
 refine cwc (args := [_, _]) Tryz.func77 R Tryz.ntmps77 R ?_
 unfold impl_lack at t0
 refine wcr (wle (eo_box R R) R fun b1 => (asg R R (wnt (wcs (wcr (mv R R (wlq (pof fo_37_2 R) R (wlq (v := (sl v2a)) (plx tk_34 pz R R) R (wlq (pln (rga r2) el_34 R) R (wlq (po_sub R R) R (bdO t0 fun v1 hv1 t0 => (wlc (cz0 fa_101 R fun w hw => c_impl_within w a_k 0 (wr (((a_g.Entries.length : Nat) : Int) - 1)) hv1) R fun _ => (wlq (po_not R) R (wnt (wcO t0 R (fun h1 t0 => ?_) fun h1 t0 => ?_)))))))))))))))
 refine wcr (asg R R (wnt (wct (wqr ?_))))
 obtain rfl := oi t0
 exact wq1 R R fun w hw => ⟨R, hw.weak zn⟩
 refine wck (wqt (wcr (asg R R (wnt (wcs (wcs (wcd [box b1 [(sl v0a), (sl v1a), (sl v2a), (sl v3a), iv a_g.Round, iv a_g.Year]] 12 mixed (aq 0 R (pof fo_37_1 R) so1 R (aq (v := (sl v1a)) 1 R (plx tk_23 pz R R) so1 R (aq 2 R (pof fo_37_2 R) so1 R (aq (v := (sl v2a)) 3 R (plx tk_34 pz R R) so1 R (aq 4 R (pom R) so1 R (gdO t0 fun g1 t0 => (aq 5 R (po_ixr (rga r2) el_34 R R g1.1 g1.2) so1 R (aq 6 R (po_sfldr (rga r2) (ix_lt g1) fo_78_2 R) so1 R (wa_elem (rga r2) (ix_lt g1) ?_))))))))))))))))
 rintro ⟨_, _, he1⟩
 obtain ⟨w1, hc1, _⟩ := rd_GEntry.1 he1
 refine aq (v := .agg #[iv (((gx a_g.Entries ((a_k).toNat)).Block).Size), (sl w1)]) 7 R (po_ldns (rga r2) tk_43 R hc1 R R R) so1 R (aq 11 R (pom R) so1 R (a1 8 (bdO t0 fun v2 hv2 t0 => (wsc R (cz1 fa_126 R fun w hw => c_impl_AreaTable w ((gx a_g.Entries ((a_k).toNat)).Block) w1 (Rg.on (er_GEntry_0 hc1 (rga r2) (ix_lt g1)) hw) hv2) (fun _ => (zt (zc pk1 zn))) R fun x1 => (a1 9 (bdO t0 fun v3 hv3 t0 => (wsc R (cz1 fa_128 R fun w hw => c_impl_LackOf w a_g.Stock v1a (ra r1 hw) v2 x1 (Rg.on (rgo pz) hw) hv3) (fun _ => (zt (zc pk2 zn))) R fun x2 => (a1 10 (ws_pure R (pln (rgo pz) el_23 R) (zt (zc pk2 zn)) R (ae (wqt (gdO t0 fun g2 t0 => (lpO_inv t0 fun y1 l1 t0 => (wj (J := Int) (X := Unit) (fun z => y1 = z) (fun z _ => [(5, iv z)]) (fun _ _ => []) ?_ ?_))))))))))))))
 refine wcb (wcf (X := Unit) l1 (fun k1 s1 x1l => [(5, iv s1), (24, (sl x2)), (25, iv ((v3.length : Nat) : Int)), (26, iv ((k1 : Nat) : Int))]) (fun k1 s1 x1l => [ownF (sl x2) v3]) () (su4 R R R R) so1 fun k1 s1 x1l hN1 l1 => ?_)
 by_cases hk1 : k1 < v3.length
 refine fos l1 hk1 fun _ t1 l1 => ?_
 unfold impl_lack_L1 at t1
 have c1 : (decide (((k1 : Nat) : Int) < ((v3.length : Nat) : Int))) = true := ddt (by omega)
 refine wcr (wlq (pls R R) R (wnt (wcs (wft R c1 (wck (wqt (wcs (wcb (wcr (wlq (po_ixn (k := k1) (rgo pz) el_23 R R hk1) R (wlq (v := iv (gx v3 k1)) (po_ldf (rgo pz) tk_3 R hk1 R) R (asg R R (wnt (wcg (mv R R (mv R R (wlq (po_add R R) R (asg R R (wln (wqb (wqt (wcg (wlq (po_inc R R (by omega)) R ?_)))))))))))))))))))))))
 exact mv R R (wln (wq_rnd hk1 (stpN l1 t1) () (su4 R R R R) so1))
 have c1 : (decide (((k1 : Nat) : Int) < ((v3.length : Nat) : Int))) = false := ddf (by omega)
 have en1 := foe l1 hk1
 exact wcr (wlq (pls R R) R (wnt (wcs (wff R c1 (wcx (wqe (wqe (wbx (wjm _ () (Sum.inl.inj en1) (su1 R) zn)))))))))
 intro e1 _ hp
 obtain rfl : e1 = y1 := hp.symm
 refine wqt (wcr (mv R R (asg R R (wnt (wct ?_)))))
 obtain rfl := oi t0
 exact wq1 R R fun w hw => ⟨R, hw.weak zn⟩

theorem c_impl_DoAct (w : World) (a_g : GGuild) (v0a : Hd) (r0 : rdF w (dm w []) (sl v0a) a_g.Members) (v1a : Hd) (r1 : rdF w (dm w []) (sl v1a) a_g.Stock) (v2a : Hd) (u2a : List Value) (r2 : RdL w (dm w []) (sl v2a) u2a a_g.Entries) (v3a : Hd) (r3 : rdF w (dm w []) (sl v3a) a_g.Books) (a_a : GAct) {r : GGuild × Int} (t0 : impl_DoAct a_g a_a = some r) : Calls Tryz.prog 20 #[.agg #[(sl v0a), (sl v1a), (sl v2a), (sl v3a), .int .i64 a_g.Round, .int .i64 a_g.Year], .agg #[.int .i64 a_a.Kind, .int .i64 a_a.A, .int .i64 a_a.B]] w fun e w' => ∃ x : Hd × Hd × Hd × (List Value) × Hd, e = .returned (.tuple #[.agg #[(sl x.1), (sl x.2.1), (sl x.2.2.1), (sl x.2.2.2.2), .int .i64 r.1.Round, .int .i64 r.1.Year], .int .i64 r.2]) ∧ SH w [] [ownF (sl x.1) r.1.Members, ownF (sl x.2.1) r.1.Stock, own (sl x.2.2.1) x.2.2.2.1 r.1.Entries, ownF (sl x.2.2.2.2) r.1.Books] w' := by
 refine cwc (args := [_, _]) Tryz.func20 R Tryz.ntmps20 R ?_
 unfold impl_DoAct at t0
 refine wcr (wle (eo_box R R) R fun b1 => (wle (eo_box R R) R fun b2 => (wle (eal (cs := [(sl hn), (sl hn), (sl hn), (sl hn), iv 0, iv 0]) za_37) R fun b3 => (asg R R (wnt (wcs (wcs (bdO t0 fun y1 t1 t0 => (wj (J := Bool) (X := Unit) (fun z => y1 = z) (fun z _ => [(2, ptr b1 0), (3, ptr b2 0), (4, ptr b3 0), (17, .bool z)]) (fun _ _ => [box b3 [(sl hn), (sl hn), (sl hn), (sl hn), iv 0, iv 0], box b2 [iv a_a.Kind, iv a_a.A, iv a_a.B], box b1 [(sl v0a), (sl v1a), (sl v2a), (sl v3a), iv a_g.Round, iv a_g.Year]]) ?_ ?_)))))))))
 refine wcg (wlq (v := .agg #[(sl v0a), (sl v1a), (sl v2a), (sl v3a), iv a_g.Round, iv a_g.Year]) (plb tk_37 pk2 R R R) R (bdO t1 fun v1 hv1 t1 => (wlc (cz0 fa_48 R fun w hw => c_impl_GuildOk w a_g v0a (ra r0 hw) v1a (ra r1 hw) v2a u2a (ra r2 hw) v3a (ra r3 hw) hv1) R fun _ => (wlq (po_not R) R (mv R R (wlo (t := 13) t1 R (fun h1 t1 => ?_) fun h1 t1 => ?_))))))
 exact wgf (j := 3) R R R R R (wgf (j := 3) R R R R R (wgf (j := 3) R R R R R (wlq (pit R R) R (wln (wjm _ () (mtE t1) (su4 R R R R) so3)))))
 exact wgn (j := 3) R R R (wlq (v := .agg #[iv a_a.Kind, iv a_a.A, iv a_a.B]) (plb tk_54 pk1 R R R) R (bdO t1 fun v2 hv2 t1 => (wgn (j := 3) R R R (wlc (cz0 fa_71 R fun w hw => c_impl_ActOk w a_a hv2) R (fun _ => (wgn (j := 3) R R R (wlq (po_not R) R (wlq (pif R R) R (wln (wjm _ () (mtE t1) (su4 R R R R) so3))))))))))
 intro j1 _ hp
 obtain rfl : j1 = y1 := hp.symm
 refine wqt (wcO t0 R (fun h2 t0 => ?_) fun h2 t0 => ?_)
 refine wcr (wlq (v := .agg #[(sl v0a), (sl v1a), (sl v2a), (sl v3a), iv a_g.Round, iv a_g.Year]) (plb tk_37 pk2 R R R) R (bdO t0 fun v3 hv3 t0 => (wlc (co_c4 fa_46 R fun w hw => c_impl_Guild_copied w a_g v0a (ra r0 hw) v1a (ra r1 hw) v2a u2a (ra r2 hw) v3a (ra r3 hw) hv3) R fun x2 => (wls (sbx (cs' := [(sl x2.1), (sl x2.2.1), (sl x2.2.2.1), (sl x2.2.2.2.2), iv v3.Round, iv v3.Year]) tk_37 pk4 R R R R R R R) (asg R R (wnt (wct (wqr ?_))))))))
 obtain rfl := oi t0
 exact wq_retc1 R tk_37 R R pz R fun w hw => ⟨(x2.1, x2.2.1, x2.2.2.1, x2.2.2.2.1, x2.2.2.2.2), R, hw.weak (zc pk1 (zc pk1 (zc pk1 (zc pk1 zn))))⟩
 refine wck (wqt (wcr (wlq (v := .agg #[(sl v0a), (sl v1a), (sl v2a), (sl v3a), iv a_g.Round, iv a_g.Year]) (plb tk_37 pk2 R R R) R (bdO t0 fun v4 hv4 t0 => (wlc (co_c4 fa_46 R fun w hw => c_impl_Guild_copied w a_g v0a (ra r0 hw) v1a (ra r1 hw) v2a u2a (ra r2 hw) v3a (ra r3 hw) hv4) R fun x3 => (wle (eal (cs := [(sl hn), (sl hn), (sl hn), (sl hn), iv 0, iv 0]) za_37) R fun b4 => (wls (sbx (cs' := [(sl x3.1), (sl x3.2.1), (sl x3.2.2.1), (sl x3.2.2.2.2), iv v4.Round, iv v4.Year]) tk_37 pz R R R R R R R) (asg R R (wnt (wcs (wcr (wlq (pof fo_54_0 R) R (wlq (v := iv a_a.Kind) (plx tk_3 pk6 R R) R (wnt (wcb (wcr (wlq (pol R R) R (asg R R (wnt (sqO t0 fun y1 t1 t0 => (wj (J := Bool × GGuild) (X := Hd × Hd × Hd × (List Value) × Hd) (fun z => y1 = .inl z) (fun z _ => [(4, ptr b3 0), (6, ptr b4 0), (7, .bool z.1)]) (fun z x => [box b4 [(sl x.1), (sl x.2.1), (sl x.2.2.1), (sl x.2.2.2.2), iv ((z.2).Round), iv ((z.2).Year)], box b3 [(sl hn), (sl hn), (sl hn), (sl hn), iv 0, iv 0], ownF (sl x.1) ((z.2).Members), ownF (sl x.2.1) ((z.2).Stock), own (sl x.2.2.1) x.2.2.2.1 ((z.2).Entries), ownF (sl x.2.2.2.2) ((z.2).Books)]) ?_ ?_)))))))))))))))))))))
 refine wcO t1 R (fun h3 t1 => ?_) fun h3 t1 => ?_
 exact wcg (wlq (v := .agg #[(sl v0a), (sl v1a), (sl v2a), (sl v3a), iv a_g.Round, iv a_g.Year]) (plb tk_37 pk7 R R R) R (wlq (pof fo_54_1 R) R (wlq (v := iv a_a.A) (plx tk_3 pk6 R R) R (bdO t1 fun v5 hv5 t1 => (wlc (co_c4 fa_72 R fun w hw => c_impl_Admit w a_g v0a (ra r0 hw) v1a (ra r1 hw) v2a u2a (ra r2 hw) v3a (ra r3 hw) a_a.A hv5) R fun x5 => (mv R R (wlq (pex R R) R (wlq (pex R R) R (wls (sbx (cs' := [(sl x5.1), (sl x5.2.1), (sl x5.2.2.1), (sl x5.2.2.2.2), iv v5.1.Round, iv v5.1.Year]) tk_37 pk4 R R R R R R R) (asg R R (wln (wjm _ (x5.1, x5.2.1, x5.2.2.1, x5.2.2.2.1, x5.2.2.2.2) (mtE t1) (su3 R R R) (zc pz (zc pk8 so4))))))))))))))
 refine wcr (wlq (pol R R) R (asg R R (wnt (wcO t1 R (fun h4 t1 => ?_) fun h4 t1 => ?_))))
 refine wcr (asg R R (wnt (wcs (wcr (wlq (pof fo_37_2 R) R (wlq (v := (sl v2a)) (plx tk_34 pk7 R R) R (wlq (pln (rga r2) el_34 R) R (asg R R (wnt (wcr (mv R R (wlq (po_gtr R R) R (wnt (bdO t1 fun y2 t2 t1 => (wj (J := Int) (X := Unit) (fun z => y2 = z) (fun z _ => [(2, ptr b1 0), (3, ptr b2 0), (4, ptr b3 0), (6, ptr b4 0), (8, iv z)]) (fun _ _ => [box b4 [(sl x3.1), (sl x3.2.1), (sl x3.2.2.1), (sl x3.2.2.2.2), iv v4.Round, iv v4.Year], box b3 [(sl hn), (sl hn), (sl hn), (sl hn), iv 0, iv 0], box b2 [iv a_a.Kind, iv a_a.A, iv a_a.B], box b1 [(sl v0a), (sl v1a), (sl v2a), (sl v3a), iv a_g.Round, iv a_g.Year], ownF (sl x3.1) v4.Members, ownF (sl x3.2.1) v4.Stock, own (sl x3.2.2.1) x3.2.2.2.1 v4.Entries, ownF (sl x3.2.2.2.2) v4.Books]) ?_ ?_)))))))))))))))
 refine wcO t2 R (fun h5 t2 => ?_) fun h5 t2 => ?_
 refine wcg (wlq (pof fo_37_2 R) R (wlq (v := (sl v2a)) (plx tk_34 pk7 R R) R (mv R R (wlq (po_sub R R) R (gdO t2 fun g1 t2 => (wlq (po_ixr (rga r2) el_34 R R g1.1 g1.2) R (wlq (po_sfldr (rga r2) (ix_lt g1) fo_78_1 R) R (wl_elem (rga r2) (ix_lt g1) ?_))))))))
 rintro ⟨_, _, he1⟩
 obtain ⟨w1, hc1, _⟩ := rd_GEntry.1 he1
 exact wlq (v := iv ((gx a_g.Entries (((wr (((a_g.Entries.length : Nat) : Int) - 1))).toNat)).Day)) (po_ldn (rga r2) tk_3 R hc1 R) R (wlq (po_add R R) R (asg R R (wln (wjm _ () (mtE t2) (su5 R R R R R) (zc pz (zc pk4 (zc pk4 (zc pk4 so4))))))))
 exact wck (wjm _ () (mtE t2) (su5 R R R R R) (zc pz (zc pk4 (zc pk4 (zc pk4 so4)))))
 intro j3 _ hp
 obtain rfl : j3 = y2 := hp.symm
 exact wqt (wcd [box b3 [(sl hn), (sl hn), (sl hn), (sl hn), iv 0, iv 0], box b2 [iv a_a.Kind, iv a_a.A, iv a_a.B], box b1 [(sl v0a), (sl v1a), (sl v2a), (sl v3a), iv a_g.Round, iv a_g.Year], ownF (sl x3.1) v4.Members, ownF (sl x3.2.1) v4.Stock, own (sl x3.2.2.1) x3.2.2.2.1 v4.Entries, ownF (sl x3.2.2.2.2) v4.Books] 13 mixed (aq (v := .agg #[(sl v0a), (sl v1a), (sl v2a), (sl v3a), iv a_g.Round, iv a_g.Year]) 0 R (plb tk_37 pk2 R R R) (zc pk1 (zc pk1 (zc pk1 (zc pk1 (zc pk1 (zc pk1 (zc pk1 zn))))))) R (aq 1 R (pof fo_54_1 R) (zc pk1 (zc pk1 (zc pk1 (zc pk1 (zc pk1 (zc pk1 (zc pk1 zn))))))) R (aq (v := iv a_a.A) 2 R (plx tk_3 pk1 R R) (zc pk1 (zc pk1 (zc pk1 (zc pk1 (zc pk1 (zc pk1 (zc pk1 zn))))))) R (aq 3 R (pom R) (zc pk1 (zc pk1 (zc pk1 (zc pk1 (zc pk1 (zc pk1 (zc pk1 zn))))))) R (aq 4 R (pof fo_54_2 R) (zc pk1 (zc pk1 (zc pk1 (zc pk1 (zc pk1 (zc pk1 (zc pk1 zn))))))) R (aq (v := iv a_a.B) 5 R (plx tk_3 pk1 R R) (zc pk1 (zc pk1 (zc pk1 (zc pk1 (zc pk1 (zc pk1 (zc pk1 zn))))))) R (a1 6 (bdO t1 fun v6 hv6 t1 => (wsc R (cz1 fa_73 R fun w hw => c_impl_SampleBlock w a_a.B hv6) (fun _ => (zt (zc pk2 (zc pk2 (zc pk2 (zc pk2 (zc pk2 (zc pk2 (zc pk2 zn))))))))) R fun x7 => (a1 7 (bdO t1 fun v7 hv7 t1 => (wsc R (co_c4 fa_12 R fun w hw => c_impl_Submit w a_g v0a (ra r0 hw) v1a (ra r1 hw) v2a u2a (ra r2 hw) v3a (ra r3 hw) a_a.A j3 v6 x7 (Rg.on (rgo pz) hw) hv7) (fun _ => (zt (zc pk6 (zc pk6 (zc pk6 (zc pk6 (zc pk6 (zc pk6 (zc pk6 zn))))))))) R fun x8 => (aq 8 R (pom R) (zc pk6 (zc pk6 (zc pk6 (zc pk6 (zc pk6 (zc pk6 (zc pk6 zn))))))) R (aq 9 R (pex R R) (zc pk6 (zc pk6 (zc pk6 (zc pk6 (zc pk6 (zc pk6 (zc pk6 zn))))))) R (aq 10 R (pex R R) (zc pk6 (zc pk6 (zc pk6 (zc pk6 (zc pk6 (zc pk6 (zc pk6 zn))))))) R (a1 11 (ws_skipop R (sbx (cs' := [(sl x8.1), (sl x8.2.1), (sl x8.2.2.1), (sl x8.2.2.2.2), iv v7.1.Round, iv v7.1.Year]) tk_37 pk5 R R R R R R R) (zt (zc pk6 (zc pk6 (zc pk6 (zc pk6 (zc pk6 (zc pk6 (zc pk6 zn)))))))) (aq 12 R (po_assign R) (zc pk6 (zc pk6 (zc pk6 (zc pk6 (zc pk6 (zc pk6 (zc pk6 zn))))))) R (ae (wjm _ (x8.1, x8.2.1, x8.2.2.1, x8.2.2.2.1, x8.2.2.2.2) (mtE t1) (su3 R R R) (zc pz (zc pk5 so4)))))))))))))))))))))))
 refine wcr (wlq (pol R R) R (asg R R (wnt (wcO t1 R (fun h6 t1 => ?_) fun h6 t1 => ?_))))
 exact wcg (wlq (v := .agg #[(sl v0a), (sl v1a), (sl v2a), (sl v3a), iv a_g.Round, iv a_g.Year]) (plb tk_37 pk7 R R R) R (wlq (pof fo_54_1 R) R (wlq (v := iv a_a.A) (plx tk_3 pk6 R R) R (bdO t1 fun v8 hv8 t1 => (wlc (co_c4 fa_74 R fun w hw => c_impl_SewBlock w a_g v0a (ra r0 hw) v1a (ra r1 hw) v2a u2a (ra r2 hw) v3a (ra r3 hw) a_a.A hv8) R fun x9 => (mv R R (wlq (pex R R) R (wlq (pex R R) R (wls (sbx (cs' := [(sl x9.1), (sl x9.2.1), (sl x9.2.2.1), (sl x9.2.2.2.2), iv v8.1.Round, iv v8.1.Year]) tk_37 pk4 R R R R R R R) (asg R R (wln (wjm _ (x9.1, x9.2.1, x9.2.2.1, x9.2.2.2.1, x9.2.2.2.2) (mtE t1) (su3 R R R) (zc pz (zc pk8 so4))))))))))))))
 refine wcr (wlq (pol R R) R (asg R R (wnt (wcO t1 R (fun h7 t1 => ?_) fun h7 t1 => ?_))))
 exact wcg (wlq (v := .agg #[(sl v0a), (sl v1a), (sl v2a), (sl v3a), iv a_g.Round, iv a_g.Year]) (plb tk_37 pk7 R R R) R (bdO t1 fun v9 hv9 t1 => (wlc (co_c4 fa_75 R fun w hw => c_impl_SwapRound w a_g v0a (ra r0 hw) v1a (ra r1 hw) v2a u2a (ra r2 hw) v3a (ra r3 hw) hv9) R fun x10 => (mv R R (wlq (pex R R) R (wlq (pex R R) R (wls (sbx (cs' := [(sl x10.1), (sl x10.2.1), (sl x10.2.2.1), (sl x10.2.2.2.2), iv v9.1.Round, iv v9.1.Year]) tk_37 pk4 R R R R R R R) (asg R R (wln (wjm _ (x10.1, x10.2.1, x10.2.2.1, x10.2.2.2.1, x10.2.2.2.2) (mtE t1) (su3 R R R) (zc pz (zc pk8 so4))))))))))))
 refine wcr (wlq (pol R R) R (asg R R (wnt (wcO t1 R (fun h8 t1 => ?_) fun h8 t1 => ?_))))
 exact wcg (wlq (v := .agg #[(sl v0a), (sl v1a), (sl v2a), (sl v3a), iv a_g.Round, iv a_g.Year]) (plb tk_37 pk7 R R R) R (bdO t1 fun v10 hv10 t1 => (wlc (co_c4 fa_76 R fun w hw => c_impl_NewYear w a_g v0a (ra r0 hw) v1a (ra r1 hw) v2a u2a (ra r2 hw) v3a (ra r3 hw) hv10) R fun x11 => (mv R R (wlq (pex R R) R (wlq (pex R R) R (wls (sbx (cs' := [(sl x11.1), (sl x11.2.1), (sl x11.2.2.1), (sl x11.2.2.2.2), iv v10.1.Round, iv v10.1.Year]) tk_37 pk4 R R R R R R R) (asg R R (wln (wjm _ (x11.1, x11.2.1, x11.2.2.1, x11.2.2.2.1, x11.2.2.2.2) (mtE t1) (su3 R R R) (zc pz (zc pk8 so4))))))))))))
 refine wcs (wcd [box b4 [(sl x3.1), (sl x3.2.1), (sl x3.2.2.1), (sl x3.2.2.2.2), iv v4.Round, iv v4.Year], ownF (sl x3.1) v4.Members, ownF (sl x3.2.1) v4.Stock, own (sl x3.2.2.1) x3.2.2.2.1 v4.Entries, ownF (sl x3.2.2.2.2) v4.Books, box b2 [iv a_a.Kind, iv a_a.A, iv a_a.B], box b1 [(sl v0a), (sl v1a), (sl v2a), (sl v3a), iv a_g.Round, iv a_g.Year]] 7 mixed (aq (v := .agg #[(sl x3.1), (sl x3.2.1), (sl x3.2.2.1), (sl x3.2.2.2.2), iv v4.Round, iv v4.Year]) 0 R (plb tk_37 pz R R R) (zc pz (zc pz (zc pz (zc pz (zc pz (zc pk1 (zc pk1 zn))))))) R (aq (v := .agg #[(sl v0a), (sl v1a), (sl v2a), (sl v3a), iv a_g.Round, iv a_g.Year]) 1 R (plb tk_37 pk6 R R R) (zc pz (zc pz (zc pz (zc pz (zc pz (zc pk1 (zc pk1 zn))))))) R (aq 2 R (pof fo_54_1 R) (zc pz (zc pz (zc pz (zc pz (zc pz (zc pk1 (zc pk1 zn))))))) R (aq (v := iv a_a.A) 3 R (plx tk_3 pk5 R R) (zc pz (zc pz (zc pz (zc pz (zc pz (zc pk1 (zc pk1 zn))))))) R (a1 4 (bdO t1 fun v11 hv11 t1 => (wsc R (cz0 fa_77 R fun w hw => c_impl_lack w a_g v0a (ra r0 hw) v1a (ra r1 hw) v2a u2a (ra r2 hw) v3a (ra r3 hw) a_a.A hv11) (fun _ => (zt (zc pz (zc pz (zc pz (zc pz (zc pz (zc pk1 (zc pk1 zn))))))))) R fun _ => (a1 5 (ws_skipop R (sbx (cs' := [(sl x3.1), (sl x3.2.1), (sl x3.2.2.1), (sl x3.2.2.2.2), iv v4.Round, iv v4.Year]) tk_37 pk5 R R R R R R R) (zt (zc pk1 (zc pk1 (zc pk1 (zc pk1 (zc pk1 (zc pk1 (zc pk1 zn)))))))) (aq 6 R (po_assign R) (zc pk1 (zc pk1 (zc pk1 (zc pk1 (zc pk1 (zc pk1 (zc pk1 zn))))))) R (ae (wqt (wct (wqr (wbr (wqr ?_)))))))))))))))))
 replace t0 := sqR t0 t1
 obtain rfl := oi t0
 exact wq_retc1 R tk_37 R R pz R fun w hw => ⟨(x3.1, x3.2.1, x3.2.2.1, x3.2.2.2.1, x3.2.2.2.2), R, hw.weak (zc pk2 (zc pk2 (zc pk2 (zc pk2 zn))))⟩
 intro j2 x4 hp
 replace t0 := sqE (j := j2) t0 hp
 refine wqb (wqt (wcs (wcr (mv R R (wnt (wcO t0 R (fun h9 t0 => ?_) fun h9 t0 => ?_))))))
 refine wcr (wlq (v := .agg #[(sl x4.1), (sl x4.2.1), (sl x4.2.2.1), (sl x4.2.2.2.2), iv ((j2.2).Round), iv ((j2.2).Year)]) (plb tk_37 pz R R R) R (wls (sbx (cs' := [(sl x4.1), (sl x4.2.1), (sl x4.2.2.1), (sl x4.2.2.2.2), iv ((j2.2).Round), iv ((j2.2).Year)]) tk_37 pk1 R R R R R R R) (asg R R (wnt (wct (wqr ?_))))))
 obtain rfl := oi t0
 exact wq_retc1 R tk_37 R R pz R fun w hw => ⟨(x4.1, x4.2.1, x4.2.2.1, x4.2.2.2.1, x4.2.2.2.2), R, hw.weak (zc pk2 (zc pk2 (zc pk2 (zc pk2 zn))))⟩
 refine wck (wqt (wcr (wlq (v := .agg #[(sl x4.1), (sl x4.2.1), (sl x4.2.2.1), (sl x4.2.2.2.2), iv ((j2.2).Round), iv ((j2.2).Year)]) (plb tk_37 pz R R R) R (wls (sbx (cs' := [(sl x4.1), (sl x4.2.1), (sl x4.2.2.1), (sl x4.2.2.2.2), iv ((j2.2).Round), iv ((j2.2).Year)]) tk_37 pk1 R R R R R R R) (asg R R (wnt (wct ?_)))))))
 obtain rfl := oi t0
 exact wq_retc1 R tk_37 R R pz R fun w hw => ⟨(x4.1, x4.2.1, x4.2.2.1, x4.2.2.2.1, x4.2.2.2.2), R, hw.weak (zc pk2 (zc pk2 (zc pk2 (zc pk2 zn))))⟩

theorem c_laws_eqMember (w : World) (a_a : GMember) (a_b : GMember) {r : Bool} (t0 : laws_eqMember a_a a_b = some r) : Calls Tryz.prog 104 #[.agg #[.int .i64 a_a.Number, .int .i64 a_a.Since, .int .i64 a_a.Paid], .agg #[.int .i64 a_b.Number, .int .i64 a_b.Since, .int .i64 a_b.Paid]] w fun e w' => e = .returned (.bool r) ∧ SH w [] [] w' := by
 refine cwc (args := [_, _]) Tryz.func104 R Tryz.ntmps104 R ?_
 unfold laws_eqMember at t0
 refine wcr (wle (eo_box R R) R fun b1 => (wle (eo_box R R) R fun b2 => (asg R R (wnt (wcs (wcr (wlq (pof fo_116_0 R) R (wlq (v := iv a_a.Number) (plx tk_3 pk1 R R) R (wlq (pof fo_116_0 R) R (wlq (v := iv a_b.Number) (plx tk_3 pz R R) R (wlq (po_neq R R) R (wnt (wcO t0 R (fun h1 t0 => ?_) fun h1 t0 => ?_)))))))))))))
 refine wcr (asg R R (wnt (wct (wqr ?_))))
 obtain rfl := oi t0
 exact wq1 R R fun w hw => ⟨R, hw.weak zn⟩
 refine wck (wqt (wcs (wcr (wlq (pof fo_116_1 R) R (wlq (v := iv a_a.Since) (plx tk_3 pk1 R R) R (wlq (pof fo_116_1 R) R (wlq (v := iv a_b.Since) (plx tk_3 pz R R) R (wlq (po_neq R R) R (wnt (wcO t0 R (fun h2 t0 => ?_) fun h2 t0 => ?_))))))))))
 refine wcr (asg R R (wnt (wct (wqr ?_))))
 obtain rfl := oi t0
 exact wq1 R R fun w hw => ⟨R, hw.weak zn⟩
 refine wck (wqt (wcs (wcr (wlq (pof fo_116_2 R) R (wlq (v := iv a_a.Paid) (plx tk_3 pk1 R R) R (wlq (pof fo_116_2 R) R (wlq (v := iv a_b.Paid) (plx tk_3 pz R R) R (wlq (po_neq R R) R (wnt (wcO t0 R (fun h3 t0 => ?_) fun h3 t0 => ?_))))))))))
 refine wcr (asg R R (wnt (wct (wqr ?_))))
 obtain rfl := oi t0
 exact wq1 R R fun w hw => ⟨R, hw.weak zn⟩
 refine wck (wqt (wcr (asg R R (wnt (wct ?_)))))
 obtain rfl := oi t0
 exact wq1 R R fun w hw => ⟨R, hw.weak zn⟩

theorem c_laws_eqMemberS (w : World) (a_a : List GMember) (v0a : Hd) (r0 : rdF w (dm w []) (sl v0a) a_a) (a_b : List GMember) (v1a : Hd) (r1 : rdF w (dm w []) (sl v1a) a_b) {r : Bool} (t0 : laws_eqMemberS a_a a_b = some r) : Calls Tryz.prog 51 #[(sl v0a), (sl v1a)] w fun e w' => e = .returned (.bool r) ∧ SH w [] [] w' := by
 refine cwc (args := [_, _]) Tryz.func51 R Tryz.ntmps51 R ?_
 unfold laws_eqMemberS at t0
 refine wcr (asg R R (wnt (wcs (wcr (mv R R (wlq (pln (rga r0) el_33 R) R (mv R R (wlq (pln (rga r1) el_33 R) R (wlq (po_neq R R) R (wnt (wcO t0 R (fun h1 t0 => ?_) fun h1 t0 => ?_)))))))))))
 refine wcr (asg R R (wnt (wct (wqr ?_))))
 obtain rfl := oi t0
 exact wq1 R R fun w hw => ⟨R, hw.weak zn⟩
 refine wck (wqt (wcs (wcr (asg R R (wnt (gdO t0 fun g1 t0 => (sqO t0 fun y1 l1 t0 => (wj (J := Unit) (X := Unit) (fun z => y1 = .inl z) (fun _ _ => []) (fun _ _ => []) ?_ ?_))))))))
 refine wcb (wcf (X := Unit) l1 (fun k1 s1 x1l => [(0, (sl v0a)), (1, (sl v1a)), (5, iv ((k1 : Nat) : Int))]) (fun k1 s1 x1l => []) () (su3 R R R) zn fun k1 s1 x1l hN1 l1 => ?_)
 by_cases hk1 : k1 < a_a.length
 refine fos l1 hk1 fun _ t1 l1 => ?_
 unfold laws_eqMemberS_L1 at t1
 have c1 : (decide (((k1 : Nat) : Int) < ((a_a.length : Nat) : Int))) = true := ddt (by omega)
 refine wcs (wcr (mv R R (mv R R (wlq (pln (rga r0) el_33 R) R (wlq (pls R R) R (wnt (wft R c1 (wck (wqt (wcs (wcb (wcs (wcd [] 10 mixed (aq 0 R (pom R) zn R (aq 1 R (pom R) zn R (aq 2 R (po_ixn (k := k1) (rga r0) el_33 R R hk1) zn R (aq (v := .agg #[iv ((gx a_a k1).Number), iv ((gx a_a k1).Since), iv ((gx a_a k1).Paid)]) 3 R (po_ldfs (rga r0) tk_116 R hk1 R R R) zn R (aq 4 R (pom R) zn R (aq 5 R (pom R) zn R (gdO t1 fun g2 t1 => (aq 6 R (po_ixn (k := k1) (rga r1) el_33 R R g2) zn R (aq (v := .agg #[iv ((gx a_b k1).Number), iv ((gx a_b k1).Since), iv ((gx a_b k1).Paid)]) 7 R (po_ldfs (rga r1) tk_116 R g2 R R R) zn R (a1 8 (bdO t1 fun v1 hv1 t1 => (wsc R (cz0 fa_104 R fun w hw => c_laws_eqMember w (gx a_a k1) (gx a_b k1) hv1) (fun _ => (zt zn)) R fun _ => (aq 9 R (po_not R) zn R (ae (wqt (wcO t1 R (fun h2 t1 => ?_) fun h2 t1 => ?_)))))))))))))))))))))))))))))
 refine wcr (asg R R (wnt (wct (wbr (wqr (wqr (wbr (wqr (wqr ?_)))))))))
 replace t0 := lpR t0 l1 t1
 obtain rfl := oi t0
 exact wq1 R R fun w hw => ⟨R, hw.weak zn⟩
 refine wck (wqb (wqt (wcg (mv R R (wlq (po_inc R R (by omega)) R ?_)))))
 exact asg R R (wln (wq_rnd hk1 (stpN l1 t1) () (su3 R R R) zn))
 have c1 : (decide (((k1 : Nat) : Int) < ((a_a.length : Nat) : Int))) = false := ddf (by omega)
 have en1 := foe l1 hk1
 exact wcs (wcr (mv R R (mv R R (wlq (pln (rga r0) el_33 R) R (wlq (pls R R) R (wnt (wff R c1 (wcx (wqe (wqe (wbx (wjm _ () en1 yn zn))))))))))))
 intro e1 _ hp
 replace t0 := sqE (j := e1) t0 hp
 refine wqt (wcr (asg R R (wnt (wct ?_))))
 obtain rfl := oi t0
 exact wq1 R R fun w hw => ⟨R, hw.weak zn⟩

theorem c_laws_eqIntS (w : World) (a_a : List Int) (v0a : Hd) (r0 : rdF w (dm w []) (sl v0a) a_a) (a_b : List Int) (v1a : Hd) (r1 : rdF w (dm w []) (sl v1a) a_b) {r : Bool} (t0 : laws_eqIntS a_a a_b = some r) : Calls Tryz.prog 25 #[(sl v0a), (sl v1a)] w fun e w' => e = .returned (.bool r) ∧ SH w [] [] w' := by
 refine cwc (args := [_, _]) Tryz.func25 R Tryz.ntmps25 R ?_
 unfold laws_eqIntS at t0
 refine wcr (asg R R (wnt (wcs (wcr (mv R R (wlq (pln (rga r0) el_23 R) R (mv R R (wlq (pln (rga r1) el_23 R) R (wlq (po_neq R R) R (wnt (wcO t0 R (fun h1 t0 => ?_) fun h1 t0 => ?_)))))))))))
 refine wcr (asg R R (wnt (wct (wqr ?_))))
 obtain rfl := oi t0
 exact wq1 R R fun w hw => ⟨R, hw.weak zn⟩
 refine wck (wqt (wcs (wcr (asg R R (wnt (gdO t0 fun g1 t0 => (sqO t0 fun y1 l1 t0 => (wj (J := Unit) (X := Unit) (fun z => y1 = .inl z) (fun _ _ => []) (fun _ _ => []) ?_ ?_))))))))
 refine wcb (wcf (X := Unit) l1 (fun k1 s1 x1l => [(0, (sl v0a)), (1, (sl v1a)), (5, iv ((k1 : Nat) : Int))]) (fun k1 s1 x1l => []) () (su3 R R R) zn fun k1 s1 x1l hN1 l1 => ?_)
 by_cases hk1 : k1 < a_a.length
 refine fos l1 hk1 fun _ t1 l1 => ?_
 unfold laws_eqIntS_L1 at t1
 have c1 : (decide (((k1 : Nat) : Int) < ((a_a.length : Nat) : Int))) = true := ddt (by omega)
 refine wcs (wcr (mv R R (mv R R (wlq (pln (rga r0) el_23 R) R (wlq (pls R R) R (wnt (wft R c1 (wck (wqt (wcs (wcb (wcs (wcd [] 9 mixed (aq 0 R (pom R) zn R (aq 1 R (pom R) zn R (aq 2 R (po_ixn (k := k1) (rga r0) el_23 R R hk1) zn R (aq (v := iv (gx a_a k1)) 3 R (po_ldf (rga r0) tk_3 R hk1 R) zn R (aq 4 R (pom R) zn R (aq 5 R (pom R) zn R (gdO t1 fun g2 t1 => (aq 6 R (po_ixn (k := k1) (rga r1) el_23 R R g2) zn R (aq (v := iv (gx a_b k1)) 7 R (po_ldf (rga r1) tk_3 R g2 R) zn R (aq 8 R (po_neq R R) zn R (ae (wqt (wcO t1 R (fun h2 t1 => ?_) fun h2 t1 => ?_))))))))))))))))))))))))))
 refine wcr (asg R R (wnt (wct (wbr (wqr (wqr (wbr (wqr (wqr ?_)))))))))
 replace t0 := lpR t0 l1 t1
 obtain rfl := oi t0
 exact wq1 R R fun w hw => ⟨R, hw.weak zn⟩
 refine wck (wqb (wqt (wcg (mv R R (wlq (po_inc R R (by omega)) R ?_)))))
 exact asg R R (wln (wq_rnd hk1 (stpN l1 t1) () (su3 R R R) zn))
 have c1 : (decide (((k1 : Nat) : Int) < ((a_a.length : Nat) : Int))) = false := ddf (by omega)
 have en1 := foe l1 hk1
 exact wcs (wcr (mv R R (mv R R (wlq (pln (rga r0) el_23 R) R (wlq (pls R R) R (wnt (wff R c1 (wcx (wqe (wqe (wbx (wjm _ () en1 yn zn))))))))))))
 intro e1 _ hp
 replace t0 := sqE (j := e1) t0 hp
 refine wqt (wcr (asg R R (wnt (wct ?_))))
 obtain rfl := oi t0
 exact wq1 R R fun w hw => ⟨R, hw.weak zn⟩

theorem c_laws_eqCell (w : World) (a_a : GCell) (a_b : GCell) {r : Bool} (t0 : laws_eqCell a_a a_b = some r) : Calls Tryz.prog 107 #[.agg #[.int .i64 a_a.Split, .int .i64 a_a.A, .int .i64 a_a.B], .agg #[.int .i64 a_b.Split, .int .i64 a_b.A, .int .i64 a_b.B]] w fun e w' => e = .returned (.bool r) ∧ SH w [] [] w' := by
 refine cwc (args := [_, _]) Tryz.func107 R Tryz.ntmps107 R ?_
 unfold laws_eqCell at t0
 refine wcr (wle (eo_box R R) R fun b1 => (wle (eo_box R R) R fun b2 => (asg R R (wnt (wcs (wcr (wlq (pof fo_125_0 R) R (wlq (v := iv a_a.Split) (plx tk_3 pk1 R R) R (wlq (pof fo_125_0 R) R (wlq (v := iv a_b.Split) (plx tk_3 pz R R) R (wlq (po_neq R R) R (wnt (wcO t0 R (fun h1 t0 => ?_) fun h1 t0 => ?_)))))))))))))
 refine wcr (asg R R (wnt (wct (wqr ?_))))
 obtain rfl := oi t0
 exact wq1 R R fun w hw => ⟨R, hw.weak zn⟩
 refine wck (wqt (wcs (wcr (wlq (pof fo_125_1 R) R (wlq (v := iv a_a.A) (plx tk_3 pk1 R R) R (wlq (pof fo_125_1 R) R (wlq (v := iv a_b.A) (plx tk_3 pz R R) R (wlq (po_neq R R) R (wnt (wcO t0 R (fun h2 t0 => ?_) fun h2 t0 => ?_))))))))))
 refine wcr (asg R R (wnt (wct (wqr ?_))))
 obtain rfl := oi t0
 exact wq1 R R fun w hw => ⟨R, hw.weak zn⟩
 refine wck (wqt (wcs (wcr (wlq (pof fo_125_2 R) R (wlq (v := iv a_a.B) (plx tk_3 pk1 R R) R (wlq (pof fo_125_2 R) R (wlq (v := iv a_b.B) (plx tk_3 pz R R) R (wlq (po_neq R R) R (wnt (wcO t0 R (fun h3 t0 => ?_) fun h3 t0 => ?_))))))))))
 refine wcr (asg R R (wnt (wct (wqr ?_))))
 obtain rfl := oi t0
 exact wq1 R R fun w hw => ⟨R, hw.weak zn⟩
 refine wck (wqt (wcr (asg R R (wnt (wct ?_)))))
 obtain rfl := oi t0
 exact wq1 R R fun w hw => ⟨R, hw.weak zn⟩

theorem c_laws_eqCellS (w : World) (a_a : List GCell) (v0a : Hd) (r0 : rdF w (dm w []) (sl v0a) a_a) (a_b : List GCell) (v1a : Hd) (r1 : rdF w (dm w []) (sl v1a) a_b) {r : Bool} (t0 : laws_eqCellS a_a a_b = some r) : Calls Tryz.prog 54 #[(sl v0a), (sl v1a)] w fun e w' => e = .returned (.bool r) ∧ SH w [] [] w' := by
 refine cwc (args := [_, _]) Tryz.func54 R Tryz.ntmps54 R ?_
 unfold laws_eqCellS at t0
 refine wcr (asg R R (wnt (wcs (wcr (mv R R (wlq (pln (rga r0) el_41 R) R (mv R R (wlq (pln (rga r1) el_41 R) R (wlq (po_neq R R) R (wnt (wcO t0 R (fun h1 t0 => ?_) fun h1 t0 => ?_)))))))))))
 refine wcr (asg R R (wnt (wct (wqr ?_))))
 obtain rfl := oi t0
 exact wq1 R R fun w hw => ⟨R, hw.weak zn⟩
 refine wck (wqt (wcs (wcr (asg R R (wnt (gdO t0 fun g1 t0 => (sqO t0 fun y1 l1 t0 => (wj (J := Unit) (X := Unit) (fun z => y1 = .inl z) (fun _ _ => []) (fun _ _ => []) ?_ ?_))))))))
 refine wcb (wcf (X := Unit) l1 (fun k1 s1 x1l => [(0, (sl v0a)), (1, (sl v1a)), (5, iv ((k1 : Nat) : Int))]) (fun k1 s1 x1l => []) () (su3 R R R) zn fun k1 s1 x1l hN1 l1 => ?_)
 by_cases hk1 : k1 < a_a.length
 refine fos l1 hk1 fun _ t1 l1 => ?_
 unfold laws_eqCellS_L1 at t1
 have c1 : (decide (((k1 : Nat) : Int) < ((a_a.length : Nat) : Int))) = true := ddt (by omega)
 refine wcs (wcr (mv R R (mv R R (wlq (pln (rga r0) el_41 R) R (wlq (pls R R) R (wnt (wft R c1 (wck (wqt (wcs (wcb (wcs (wcd [] 10 mixed (aq 0 R (pom R) zn R (aq 1 R (pom R) zn R (aq 2 R (po_ixn (k := k1) (rga r0) el_41 R R hk1) zn R (aq (v := .agg #[iv ((gx a_a k1).Split), iv ((gx a_a k1).A), iv ((gx a_a k1).B)]) 3 R (po_ldfs (rga r0) tk_125 R hk1 R R R) zn R (aq 4 R (pom R) zn R (aq 5 R (pom R) zn R (gdO t1 fun g2 t1 => (aq 6 R (po_ixn (k := k1) (rga r1) el_41 R R g2) zn R (aq (v := .agg #[iv ((gx a_b k1).Split), iv ((gx a_b k1).A), iv ((gx a_b k1).B)]) 7 R (po_ldfs (rga r1) tk_125 R g2 R R R) zn R (a1 8 (bdO t1 fun v1 hv1 t1 => (wsc R (cz0 fa_107 R fun w hw => c_laws_eqCell w (gx a_a k1) (gx a_b k1) hv1) (fun _ => (zt zn)) R fun _ => (aq 9 R (po_not R) zn R (ae (wqt (wcO t1 R (fun h2 t1 => ?_) fun h2 t1 => ?_)))))))))))))))))))))))))))))
 refine wcr (asg R R (wnt (wct (wbr (wqr (wqr (wbr (wqr (wqr ?_)))))))))
 replace t0 := lpR t0 l1 t1
 obtain rfl := oi t0
 exact wq1 R R fun w hw => ⟨R, hw.weak zn⟩
 refine wck (wqb (wqt (wcg (mv R R (wlq (po_inc R R (by omega)) R ?_)))))
 exact asg R R (wln (wq_rnd hk1 (stpN l1 t1) () (su3 R R R) zn))
 have c1 : (decide (((k1 : Nat) : Int) < ((a_a.length : Nat) : Int))) = false := ddf (by omega)
 have en1 := foe l1 hk1
 exact wcs (wcr (mv R R (mv R R (wlq (pln (rga r0) el_41 R) R (wlq (pls R R) R (wnt (wff R c1 (wcx (wqe (wqe (wbx (wjm _ () en1 yn zn))))))))))))
 intro e1 _ hp
 replace t0 := sqE (j := e1) t0 hp
 refine wqt (wcr (asg R R (wnt (wct ?_))))
 obtain rfl := oi t0
 exact wq1 R R fun w hw => ⟨R, hw.weak zn⟩

theorem c_laws_eqBlock (w : World) (a_a : GBlock) (v0a : Hd) (r0 : rdF w (dm w []) (sl v0a) a_a.Cells) (a_b : GBlock) (v1a : Hd) (r1 : rdF w (dm w []) (sl v1a) a_b.Cells) {r : Bool} (t0 : laws_eqBlock a_a a_b = some r) : Calls Tryz.prog 14 #[.agg #[.int .i64 a_a.Size, (sl v0a)], .agg #[.int .i64 a_b.Size, (sl v1a)]] w fun e w' => e = .returned (.bool r) ∧ SH w [] [] w' := by
 refine cwc (args := [_, _]) Tryz.func14 R Tryz.ntmps14 R ?_
 unfold laws_eqBlock at t0
 refine wcr (wle (eo_box R R) R fun b1 => (wle (eo_box R R) R fun b2 => (asg R R (wnt (wcs (wcr (wlq (pof fo_43_0 R) R (wlq (v := iv a_a.Size) (plx tk_3 pk1 R R) R (wlq (pof fo_43_0 R) R (wlq (v := iv a_b.Size) (plx tk_3 pz R R) R (wlq (po_neq R R) R (wnt (wcO t0 R (fun h1 t0 => ?_) fun h1 t0 => ?_)))))))))))))
 refine wcr (asg R R (wnt (wct (wqr ?_))))
 obtain rfl := oi t0
 exact wq1 R R fun w hw => ⟨R, hw.weak zn⟩
 refine wck (wqt (wcs (wcr (wlq (pof fo_43_1 R) R (wlq (v := (sl v0a)) (plx tk_41 pk1 R R) R (wlq (pof fo_43_1 R) R (wlq (v := (sl v1a)) (plx tk_41 pz R R) R (bdO t0 fun v1 hv1 t0 => (wlc (cz0 fa_54 R fun w hw => c_laws_eqCellS w a_a.Cells v0a (ra r0 hw) a_b.Cells v1a (ra r1 hw) hv1) R fun _ => (wlq (po_not R) R (wnt (wcO t0 R (fun h2 t0 => ?_) fun h2 t0 => ?_))))))))))))
 refine wcr (asg R R (wnt (wct (wqr ?_))))
 obtain rfl := oi t0
 exact wq1 R R fun w hw => ⟨R, hw.weak zn⟩
 refine wck (wqt (wcr (asg R R (wnt (wct ?_)))))
 obtain rfl := oi t0
 exact wq1 R R fun w hw => ⟨R, hw.weak zn⟩

theorem c_laws_eqEntry (w : World) (a_a : GEntry) (v0a : Hd) (r0 : rdF w (dm w []) (sl v0a) a_a.Block.Cells) (a_b : GEntry) (v1a : Hd) (r1 : rdF w (dm w []) (sl v1a) a_b.Block.Cells) {r : Bool} (t0 : laws_eqEntry a_a a_b = some r) : Calls Tryz.prog 105 #[.agg #[.int .i64 a_a.Owner, .int .i64 a_a.Day, .int .i64 a_a.Block.Size, (sl v0a)], .agg #[.int .i64 a_b.Owner, .int .i64 a_b.Day, .int .i64 a_b.Block.Size, (sl v1a)]] w fun e w' => e = .returned (.bool r) ∧ SH w [] [] w' := by
 refine cwc (args := [_, _]) Tryz.func105 R Tryz.ntmps105 R ?_
 unfold laws_eqEntry at t0
 refine wcr (wle (eo_box R R) R fun b1 => (wle (eo_box R R) R fun b2 => (asg R R (wnt (wcs (wcr (wlq (pof fo_78_0 R) R (wlq (v := iv a_a.Owner) (plx tk_3 pk1 R R) R (wlq (pof fo_78_0 R) R (wlq (v := iv a_b.Owner) (plx tk_3 pz R R) R (wlq (po_neq R R) R (wnt (wcO t0 R (fun h1 t0 => ?_) fun h1 t0 => ?_)))))))))))))
 refine wcr (asg R R (wnt (wct (wqr ?_))))
 obtain rfl := oi t0
 exact wq1 R R fun w hw => ⟨R, hw.weak zn⟩
 refine wck (wqt (wcs (wcr (wlq (pof fo_78_1 R) R (wlq (v := iv a_a.Day) (plx tk_3 pk1 R R) R (wlq (pof fo_78_1 R) R (wlq (v := iv a_b.Day) (plx tk_3 pz R R) R (wlq (po_neq R R) R (wnt (wcO t0 R (fun h2 t0 => ?_) fun h2 t0 => ?_))))))))))
 refine wcr (asg R R (wnt (wct (wqr ?_))))
 obtain rfl := oi t0
 exact wq1 R R fun w hw => ⟨R, hw.weak zn⟩
 refine wck (wqt (wcs (wcr (wlq (pof fo_78_2 R) R (wlq (v := .agg #[iv a_a.Block.Size, (sl v0a)]) (plb tk_43 pk1 R R R) R (wlq (pof fo_78_2 R) R (wlq (v := .agg #[iv a_b.Block.Size, (sl v1a)]) (plb tk_43 pz R R R) R (bdO t0 fun v1 hv1 t0 => (wlc (cz0 fa_14 R fun w hw => c_laws_eqBlock w a_a.Block v0a (ra r0 hw) a_b.Block v1a (ra r1 hw) hv1) R fun _ => (wlq (po_not R) R (wnt (wcO t0 R (fun h3 t0 => ?_) fun h3 t0 => ?_))))))))))))
 refine wcr (asg R R (wnt (wct (wqr ?_))))
 obtain rfl := oi t0
 exact wq1 R R fun w hw => ⟨R, hw.weak zn⟩
 refine wck (wqt (wcr (asg R R (wnt (wct ?_)))))
 obtain rfl := oi t0
 exact wq1 R R fun w hw => ⟨R, hw.weak zn⟩

theorem c_laws_eqEntryS (w : World) (a_a : List GEntry) (v0a : Hd) (u0a : List Value) (r0 : RdL w (dm w []) (sl v0a) u0a a_a) (a_b : List GEntry) (v1a : Hd) (u1a : List Value) (r1 : RdL w (dm w []) (sl v1a) u1a a_b) {r : Bool} (t0 : laws_eqEntryS a_a a_b = some r) : Calls Tryz.prog 52 #[(sl v0a), (sl v1a)] w fun e w' => e = .returned (.bool r) ∧ SH w [] [] w' := by
 refine cwc (args := [_, _]) Tryz.func52 R Tryz.ntmps52 R ?_
 unfold laws_eqEntryS at t0
 refine wcr (asg R R (wnt (wcs (wcr (mv R R (wlq (pln (rga r0) el_34 R) R (mv R R (wlq (pln (rga r1) el_34 R) R (wlq (po_neq R R) R (wnt (wcO t0 R (fun h1 t0 => ?_) fun h1 t0 => ?_)))))))))))
 refine wcr (asg R R (wnt (wct (wqr ?_))))
 obtain rfl := oi t0
 exact wq1 R R fun w hw => ⟨R, hw.weak zn⟩
 refine wck (wqt (wcs (wcr (asg R R (wnt (gdO t0 fun g1 t0 => (sqO t0 fun y1 l1 t0 => (wj (J := Unit) (X := Unit) (fun z => y1 = .inl z) (fun _ _ => []) (fun _ _ => []) ?_ ?_))))))))
 refine wcb (wcf (X := Unit) l1 (fun k1 s1 x1l => [(0, (sl v0a)), (1, (sl v1a)), (5, iv ((k1 : Nat) : Int))]) (fun k1 s1 x1l => []) () (su3 R R R) zn fun k1 s1 x1l hN1 l1 => ?_)
 by_cases hk1 : k1 < a_a.length
 refine fos l1 hk1 fun _ t1 l1 => ?_
 unfold laws_eqEntryS_L1 at t1
 have c1 : (decide (((k1 : Nat) : Int) < ((a_a.length : Nat) : Int))) = true := ddt (by omega)
 refine wcs (wcr (mv R R (mv R R (wlq (pln (rga r0) el_34 R) R (wlq (pls R R) R (wnt (wft R c1 (wck (wqt (wcs (wcb (wcs (wcd [] 10 mixed (aq 0 R (pom R) zn R (aq 1 R (pom R) zn R (aq 2 R (po_ixn (k := k1) (rga r0) el_34 R R hk1) zn R (wa_elem (rga r0) hk1 ?_)))))))))))))))))
 rintro ⟨_, _, he1⟩
 obtain ⟨w1, hc1, _⟩ := rd_GEntry.1 he1
 refine aq (v := .agg #[iv ((gx a_a k1).Owner), iv ((gx a_a k1).Day), iv (((gx a_a k1).Block).Size), (sl w1)]) 3 R (po_ldns (rga r0) tk_78 R hc1 R R R) zn R (aq 4 R (pom R) zn R (aq 5 R (pom R) zn R (gdO t1 fun g2 t1 => (aq 6 R (po_ixn (k := k1) (rga r1) el_34 R R g2) zn R (wa_elem (rga r1) g2 ?_)))))
 rintro ⟨_, _, he2⟩
 obtain ⟨w2, hc2, _⟩ := rd_GEntry.1 he2
 refine aq (v := .agg #[iv ((gx a_b k1).Owner), iv ((gx a_b k1).Day), iv (((gx a_b k1).Block).Size), (sl w2)]) 7 R (po_ldns (rga r1) tk_78 R hc2 R R R) zn R (a1 8 (bdO t1 fun v1 hv1 t1 => (wsc R (cz0 fa_105 R fun w hw => c_laws_eqEntry w (gx a_a k1) w1 (Rg.on (er_GEntry_0 hc1 (rga r0) hk1) hw) (gx a_b k1) w2 (Rg.on (er_GEntry_0 hc2 (rga r1) g2) hw) hv1) (fun _ => (zt zn)) R fun _ => (aq 9 R (po_not R) zn R (ae (wqt (wcO t1 R (fun h2 t1 => ?_) fun h2 t1 => ?_)))))))
 refine wcr (asg R R (wnt (wct (wbr (wqr (wqr (wbr (wqr (wqr ?_)))))))))
 replace t0 := lpR t0 l1 t1
 obtain rfl := oi t0
 exact wq1 R R fun w hw => ⟨R, hw.weak zn⟩
 refine wck (wqb (wqt (wcg (mv R R (wlq (po_inc R R (by omega)) R ?_)))))
 exact asg R R (wln (wq_rnd hk1 (stpN l1 t1) () (su3 R R R) zn))
 have c1 : (decide (((k1 : Nat) : Int) < ((a_a.length : Nat) : Int))) = false := ddf (by omega)
 have en1 := foe l1 hk1
 exact wcs (wcr (mv R R (mv R R (wlq (pln (rga r0) el_34 R) R (wlq (pls R R) R (wnt (wff R c1 (wcx (wqe (wqe (wbx (wjm _ () en1 yn zn))))))))))))
 intro e1 _ hp
 replace t0 := sqE (j := e1) t0 hp
 refine wqt (wcr (asg R R (wnt (wct ?_))))
 obtain rfl := oi t0
 exact wq1 R R fun w hw => ⟨R, hw.weak zn⟩

theorem c_laws_eqBooking (w : World) (a_a : GBooking) (a_b : GBooking) {r : Bool} (t0 : laws_eqBooking a_a a_b = some r) : Calls Tryz.prog 106 #[.agg #[.int .i64 a_a.Day, .int .i64 a_a.From, .int .i64 a_a.To, .int .i64 a_a.Sum], .agg #[.int .i64 a_b.Day, .int .i64 a_b.From, .int .i64 a_b.To, .int .i64 a_b.Sum]] w fun e w' => e = .returned (.bool r) ∧ SH w [] [] w' := by
 refine cwc (args := [_, _]) Tryz.func106 R Tryz.ntmps106 R ?_
 unfold laws_eqBooking at t0
 refine wcr (wle (eo_box R R) R fun b1 => (wle (eo_box R R) R fun b2 => (asg R R (wnt (wcs (wcr (wlq (pof fo_121_0 R) R (wlq (v := iv a_a.Day) (plx tk_3 pk1 R R) R (wlq (pof fo_121_0 R) R (wlq (v := iv a_b.Day) (plx tk_3 pz R R) R (wlq (po_neq R R) R (wnt (wcO t0 R (fun h1 t0 => ?_) fun h1 t0 => ?_)))))))))))))
 refine wcr (asg R R (wnt (wct (wqr ?_))))
 obtain rfl := oi t0
 exact wq1 R R fun w hw => ⟨R, hw.weak zn⟩
 refine wck (wqt (wcs (wcr (wlq (pof fo_121_1 R) R (wlq (v := iv a_a.From) (plx tk_3 pk1 R R) R (wlq (pof fo_121_1 R) R (wlq (v := iv a_b.From) (plx tk_3 pz R R) R (wlq (po_neq R R) R (wnt (wcO t0 R (fun h2 t0 => ?_) fun h2 t0 => ?_))))))))))
 refine wcr (asg R R (wnt (wct (wqr ?_))))
 obtain rfl := oi t0
 exact wq1 R R fun w hw => ⟨R, hw.weak zn⟩
 refine wck (wqt (wcs (wcr (wlq (pof fo_121_2 R) R (wlq (v := iv a_a.To) (plx tk_3 pk1 R R) R (wlq (pof fo_121_2 R) R (wlq (v := iv a_b.To) (plx tk_3 pz R R) R (wlq (po_neq R R) R (wnt (wcO t0 R (fun h3 t0 => ?_) fun h3 t0 => ?_))))))))))
 refine wcr (asg R R (wnt (wct (wqr ?_))))
 obtain rfl := oi t0
 exact wq1 R R fun w hw => ⟨R, hw.weak zn⟩
 refine wck (wqt (wcs (wcr (wlq (pof fo_121_3 R) R (wlq (v := iv a_a.Sum) (plx tk_3 pk1 R R) R (wlq (pof fo_121_3 R) R (wlq (v := iv a_b.Sum) (plx tk_3 pz R R) R (wlq (po_neq R R) R (wnt (wcO t0 R (fun h4 t0 => ?_) fun h4 t0 => ?_))))))))))
 refine wcr (asg R R (wnt (wct (wqr ?_))))
 obtain rfl := oi t0
 exact wq1 R R fun w hw => ⟨R, hw.weak zn⟩
 refine wck (wqt (wcr (asg R R (wnt (wct ?_)))))
 obtain rfl := oi t0
 exact wq1 R R fun w hw => ⟨R, hw.weak zn⟩

theorem c_laws_eqBookingS (w : World) (a_a : List GBooking) (v0a : Hd) (r0 : rdF w (dm w []) (sl v0a) a_a) (a_b : List GBooking) (v1a : Hd) (r1 : rdF w (dm w []) (sl v1a) a_b) {r : Bool} (t0 : laws_eqBookingS a_a a_b = some r) : Calls Tryz.prog 53 #[(sl v0a), (sl v1a)] w fun e w' => e = .returned (.bool r) ∧ SH w [] [] w' := by
 refine cwc (args := [_, _]) Tryz.func53 R Tryz.ntmps53 R ?_
 unfold laws_eqBookingS at t0
 refine wcr (asg R R (wnt (wcs (wcr (mv R R (wlq (pln (rga r0) el_35 R) R (mv R R (wlq (pln (rga r1) el_35 R) R (wlq (po_neq R R) R (wnt (wcO t0 R (fun h1 t0 => ?_) fun h1 t0 => ?_)))))))))))
 refine wcr (asg R R (wnt (wct (wqr ?_))))
 obtain rfl := oi t0
 exact wq1 R R fun w hw => ⟨R, hw.weak zn⟩
 refine wck (wqt (wcs (wcr (asg R R (wnt (gdO t0 fun g1 t0 => (sqO t0 fun y1 l1 t0 => (wj (J := Unit) (X := Unit) (fun z => y1 = .inl z) (fun _ _ => []) (fun _ _ => []) ?_ ?_))))))))
 refine wcb (wcf (X := Unit) l1 (fun k1 s1 x1l => [(0, (sl v0a)), (1, (sl v1a)), (5, iv ((k1 : Nat) : Int))]) (fun k1 s1 x1l => []) () (su3 R R R) zn fun k1 s1 x1l hN1 l1 => ?_)
 by_cases hk1 : k1 < a_a.length
 refine fos l1 hk1 fun _ t1 l1 => ?_
 unfold laws_eqBookingS_L1 at t1
 have c1 : (decide (((k1 : Nat) : Int) < ((a_a.length : Nat) : Int))) = true := ddt (by omega)
 refine wcs (wcr (mv R R (mv R R (wlq (pln (rga r0) el_35 R) R (wlq (pls R R) R (wnt (wft R c1 (wck (wqt (wcs (wcb (wcs (wcd [] 10 mixed (aq 0 R (pom R) zn R (aq 1 R (pom R) zn R (aq 2 R (po_ixn (k := k1) (rga r0) el_35 R R hk1) zn R (aq (v := .agg #[iv ((gx a_a k1).Day), iv ((gx a_a k1).From), iv ((gx a_a k1).To), iv ((gx a_a k1).Sum)]) 3 R (po_ldfs (rga r0) tk_121 R hk1 R R R) zn R (aq 4 R (pom R) zn R (aq 5 R (pom R) zn R (gdO t1 fun g2 t1 => (aq 6 R (po_ixn (k := k1) (rga r1) el_35 R R g2) zn R (aq (v := .agg #[iv ((gx a_b k1).Day), iv ((gx a_b k1).From), iv ((gx a_b k1).To), iv ((gx a_b k1).Sum)]) 7 R (po_ldfs (rga r1) tk_121 R g2 R R R) zn R (a1 8 (bdO t1 fun v1 hv1 t1 => (wsc R (cz0 fa_106 R fun w hw => c_laws_eqBooking w (gx a_a k1) (gx a_b k1) hv1) (fun _ => (zt zn)) R fun _ => (aq 9 R (po_not R) zn R (ae (wqt (wcO t1 R (fun h2 t1 => ?_) fun h2 t1 => ?_)))))))))))))))))))))))))))))
 refine wcr (asg R R (wnt (wct (wbr (wqr (wqr (wbr (wqr (wqr ?_)))))))))
 replace t0 := lpR t0 l1 t1
 obtain rfl := oi t0
 exact wq1 R R fun w hw => ⟨R, hw.weak zn⟩
 refine wck (wqb (wqt (wcg (mv R R (wlq (po_inc R R (by omega)) R ?_)))))
 exact asg R R (wln (wq_rnd hk1 (stpN l1 t1) () (su3 R R R) zn))
 have c1 : (decide (((k1 : Nat) : Int) < ((a_a.length : Nat) : Int))) = false := ddf (by omega)
 have en1 := foe l1 hk1
 exact wcs (wcr (mv R R (mv R R (wlq (pln (rga r0) el_35 R) R (wlq (pls R R) R (wnt (wff R c1 (wcx (wqe (wqe (wbx (wjm _ () en1 yn zn))))))))))))
 intro e1 _ hp
 replace t0 := sqE (j := e1) t0 hp
 refine wqt (wcr (asg R R (wnt (wct ?_))))
 obtain rfl := oi t0
 exact wq1 R R fun w hw => ⟨R, hw.weak zn⟩

theorem c_laws_eqGuild (w : World) (a_a : GGuild) (v0a : Hd) (r0 : rdF w (dm w []) (sl v0a) a_a.Members) (v1a : Hd) (r1 : rdF w (dm w []) (sl v1a) a_a.Stock) (v2a : Hd) (u2a : List Value) (r2 : RdL w (dm w []) (sl v2a) u2a a_a.Entries) (v3a : Hd) (r3 : rdF w (dm w []) (sl v3a) a_a.Books) (a_b : GGuild) (v4a : Hd) (r4 : rdF w (dm w []) (sl v4a) a_b.Members) (v5a : Hd) (r5 : rdF w (dm w []) (sl v5a) a_b.Stock) (v6a : Hd) (u6a : List Value) (r6 : RdL w (dm w []) (sl v6a) u6a a_b.Entries) (v7a : Hd) (r7 : rdF w (dm w []) (sl v7a) a_b.Books) {r : Bool} (t0 : laws_eqGuild a_a a_b = some r) : Calls Tryz.prog 13 #[.agg #[(sl v0a), (sl v1a), (sl v2a), (sl v3a), .int .i64 a_a.Round, .int .i64 a_a.Year], .agg #[(sl v4a), (sl v5a), (sl v6a), (sl v7a), .int .i64 a_b.Round, .int .i64 a_b.Year]] w fun e w' => e = .returned (.bool r) ∧ SH w [] [] w' := by
 refine cwc (args := [_, _]) Tryz.func13 R Tryz.ntmps13 R ?_
 unfold laws_eqGuild at t0
 refine wcr (wle (eo_box R R) R fun b1 => (wle (eo_box R R) R fun b2 => (asg R R (wnt (wcs (wcr (wlq (pof fo_37_0 R) R (wlq (v := (sl v0a)) (plx tk_33 pk1 R R) R (wlq (pof fo_37_0 R) R (wlq (v := (sl v4a)) (plx tk_33 pz R R) R (bdO t0 fun v1 hv1 t0 => (wlc (cz0 fa_51 R fun w hw => c_laws_eqMemberS w a_a.Members v0a (ra r0 hw) a_b.Members v4a (ra r4 hw) hv1) R fun _ => (wlq (po_not R) R (wnt (wcO t0 R (fun h1 t0 => ?_) fun h1 t0 => ?_)))))))))))))))
 refine wcr (asg R R (wnt (wct (wqr ?_))))
 obtain rfl := oi t0
 exact wq1 R R fun w hw => ⟨R, hw.weak zn⟩
 refine wck (wqt (wcs (wcr (wlq (pof fo_37_1 R) R (wlq (v := (sl v1a)) (plx tk_23 pk1 R R) R (wlq (pof fo_37_1 R) R (wlq (v := (sl v5a)) (plx tk_23 pz R R) R (bdO t0 fun v2 hv2 t0 => (wlc (cz0 fa_25 R fun w hw => c_laws_eqIntS w a_a.Stock v1a (ra r1 hw) a_b.Stock v5a (ra r5 hw) hv2) R fun _ => (wlq (po_not R) R (wnt (wcO t0 R (fun h2 t0 => ?_) fun h2 t0 => ?_))))))))))))
 refine wcr (asg R R (wnt (wct (wqr ?_))))
 obtain rfl := oi t0
 exact wq1 R R fun w hw => ⟨R, hw.weak zn⟩
 refine wck (wqt (wcs (wcr (wlq (pof fo_37_2 R) R (wlq (v := (sl v2a)) (plx tk_34 pk1 R R) R (wlq (pof fo_37_2 R) R (wlq (v := (sl v6a)) (plx tk_34 pz R R) R (bdO t0 fun v3 hv3 t0 => (wlc (cz0 fa_52 R fun w hw => c_laws_eqEntryS w a_a.Entries v2a u2a (ra r2 hw) a_b.Entries v6a u6a (ra r6 hw) hv3) R fun _ => (wlq (po_not R) R (wnt (wcO t0 R (fun h3 t0 => ?_) fun h3 t0 => ?_))))))))))))
 refine wcr (asg R R (wnt (wct (wqr ?_))))
 obtain rfl := oi t0
 exact wq1 R R fun w hw => ⟨R, hw.weak zn⟩
 refine wck (wqt (wcs (wcr (wlq (pof fo_37_3 R) R (wlq (v := (sl v3a)) (plx tk_35 pk1 R R) R (wlq (pof fo_37_3 R) R (wlq (v := (sl v7a)) (plx tk_35 pz R R) R (bdO t0 fun v4 hv4 t0 => (wlc (cz0 fa_53 R fun w hw => c_laws_eqBookingS w a_a.Books v3a (ra r3 hw) a_b.Books v7a (ra r7 hw) hv4) R fun _ => (wlq (po_not R) R (wnt (wcO t0 R (fun h4 t0 => ?_) fun h4 t0 => ?_))))))))))))
 refine wcr (asg R R (wnt (wct (wqr ?_))))
 obtain rfl := oi t0
 exact wq1 R R fun w hw => ⟨R, hw.weak zn⟩
 refine wck (wqt (wcs (wcr (wlq (pof fo_37_4 R) R (wlq (v := iv a_a.Round) (plx tk_3 pk1 R R) R (wlq (pof fo_37_4 R) R (wlq (v := iv a_b.Round) (plx tk_3 pz R R) R (wlq (po_neq R R) R (wnt (wcO t0 R (fun h5 t0 => ?_) fun h5 t0 => ?_))))))))))
 refine wcr (asg R R (wnt (wct (wqr ?_))))
 obtain rfl := oi t0
 exact wq1 R R fun w hw => ⟨R, hw.weak zn⟩
 refine wck (wqt (wcs (wcr (wlq (pof fo_37_5 R) R (wlq (v := iv a_a.Year) (plx tk_3 pk1 R R) R (wlq (pof fo_37_5 R) R (wlq (v := iv a_b.Year) (plx tk_3 pz R R) R (wlq (po_neq R R) R (wnt (wcO t0 R (fun h6 t0 => ?_) fun h6 t0 => ?_))))))))))
 refine wcr (asg R R (wnt (wct (wqr ?_))))
 obtain rfl := oi t0
 exact wq1 R R fun w hw => ⟨R, hw.weak zn⟩
 refine wck (wqt (wcr (asg R R (wnt (wct ?_)))))
 obtain rfl := oi t0
 exact wq1 R R fun w hw => ⟨R, hw.weak zn⟩

theorem c_laws_markMemberS (w : World) (fp : List Nat) (a_a : List GMember) (v0a : Hd) (a_k : Int) (o : Ow w [ownF (sl v0a) a_a] fp) {r : Int × (List GMember)} (t0 : laws_markMemberS a_a a_k = some r) : Calls Tryz.prog 55 #[(sl v0a), .int .i64 a_k] w fun e w' => ∃ _x : Unit, e = .returned (.int .i64 r.1) ∧ SH w fp [ownF (sl v0a) r.2] w' := by
 refine calls_of_wc_own (args := [_, _]) o Tryz.func55 R Tryz.ntmps55 R ?_
 unfold laws_markMemberS at t0
 refine wcr (asg R R (wnt (wcs (wcr (asg R R (wnt (gdO t0 fun g1 t0 => (wc_hl (rgo pz) fun hl1 => (lpO_inv t0 fun y1 l1 t0 => (wj (J := (List GMember) × Int) (X := Unit) (fun z => y1 = z) (fun z _ => [(0, (sl v0a)), (1, iv z.2)]) (fun z _ => [ownF (sl v0a) z.1]) ?_ ?_))))))))))
 refine wcb (wcf (X := Unit) l1 (fun k1 s1 x1l => [(0, (sl v0a)), (1, iv s1.2), (5, iv ((k1 : Nat) : Int))]) (fun k1 s1 x1l => [ownF (sl v0a) s1.1]) () (su3 R R R) so1 fun k1 s1 x1l hN1 l1 => (wc_hl (rgo pz) fun hl2 => ?_))
 by_cases hk1 : k1 < a_a.length
 refine fos l1 hk1 fun _ t1 l1 => ?_
 unfold laws_markMemberS_L1 at t1
 have c1 : (decide (((k1 : Nat) : Int) < ((s1.1.length : Nat) : Int))) = true := ddt (by omega)
 have hq1 : k1 < s1.1.length := by omega
 refine wcs (wcr (mv R R (mv R R (wlq (pln (rgo pz) el_33 R) R (wlq (pls R R) R (wnt (wft R c1 (wck (wqt (wcs (wcb (wcr (mv R R (mv R R (mv R R (wlq (po_ixn (k := k1) (rgo pz) el_33 R R hq1) R (wlq (po_sfldr (rgo pz) hq1 fo_116_0 R) R (wls (so_own (x' := (GMember.mk s1.2 ((gx s1.1 k1).Since) ((gx s1.1 k1).Paid))) tk_3 pz R R R R R R hq1 R) (wnt (wcr (mv R R (wlq (po_add R R) R (asg R R (wnt (wcr (mv R R (mv R R (mv R R (wlq (po_ixn (k := k1) (rgo pz) el_33 R R (set_lt hq1)) R (wlq (po_sfldr (rgo pz) (set_lt hq1) fo_116_1 R) R (wls (so_own2 (X := s1.1) (e := (GMember.mk s1.2 ((gx s1.1 k1).Since) ((gx s1.1 k1).Paid))) (x' := (GMember.mk s1.2 (wr (s1.2 + 1)) ((gx s1.1 k1).Paid))) tk_3 pz R R R R R R hq1 R) (wnt (wcr (mv R R (wlq (po_add R R) R (asg R R (wnt (wcr (mv R R ?_)))))))))))))))))))))))))))))))))))))))
 refine mv R R (mv R R (wlq (po_ixn (k := k1) (rgo pz) el_33 R R (set_lt hq1)) R (wlq (po_sfldr (rgo pz) (set_lt hq1) fo_116_2 R) R (wls (so_own2 (X := s1.1) (e := (GMember.mk s1.2 (wr (s1.2 + 1)) ((gx s1.1 k1).Paid))) (x' := (GMember.mk s1.2 (wr (s1.2 + 1)) (wr ((wr (s1.2 + 1)) + 1)))) tk_3 pz R R R R R R hq1 R) (wnt (wcg (mv R R (wlq (po_add R R) R (asg R R (wln (wqb (wqt (wcg (mv R R (wlq (po_inc R R (by omega)) R ?_)))))))))))))))
 exact asg R R (wln (wq_rnd hk1 (stpN l1 t1) () (su3 R R R) so1))
 have c1 : (decide (((k1 : Nat) : Int) < ((s1.1.length : Nat) : Int))) = false := ddf (by omega)
 have en1 := foe l1 hk1
 exact wcs (wcr (mv R R (mv R R (wlq (pln (rgo pz) el_33 R) R (wlq (pls R R) R (wnt (wff R c1 (wcx (wqe (wqe (wbx (wjm _ () (Sum.inl.inj en1) (su2 R R) so1))))))))))))
 intro e1 _ hp
 obtain rfl : e1 = y1 := hp.symm
 refine wqt (wcr (mv R R (asg R R (wnt (wct ?_)))))
 obtain rfl := oi t0
 exact wq1 R R fun w hw => ⟨(), R, hw.weak so1⟩

theorem c_laws_markIntS (w : World) (fp : List Nat) (a_a : List Int) (v0a : Hd) (a_k : Int) (o : Ow w [ownF (sl v0a) a_a] fp) {r : Int × (List Int)} (t0 : laws_markIntS a_a a_k = some r) : Calls Tryz.prog 28 #[(sl v0a), .int .i64 a_k] w fun e w' => ∃ _x : Unit, e = .returned (.int .i64 r.1) ∧ SH w fp [ownF (sl v0a) r.2] w' := by
 refine calls_of_wc_own (args := [_, _]) o Tryz.func28 R Tryz.ntmps28 R ?_
 unfold laws_markIntS at t0
 refine wcr (asg R R (wnt (wcs (wcr (asg R R (wnt (gdO t0 fun g1 t0 => (wc_hl (rgo pz) fun hl1 => (lpO_inv t0 fun y1 l1 t0 => (wj (J := (List Int) × Int) (X := Unit) (fun z => y1 = z) (fun z _ => [(0, (sl v0a)), (1, iv z.2)]) (fun z _ => [ownF (sl v0a) z.1]) ?_ ?_))))))))))
 refine wcb (wcf (X := Unit) l1 (fun k1 s1 x1l => [(0, (sl v0a)), (1, iv s1.2), (5, iv ((k1 : Nat) : Int))]) (fun k1 s1 x1l => [ownF (sl v0a) s1.1]) () (su3 R R R) so1 fun k1 s1 x1l hN1 l1 => (wc_hl (rgo pz) fun hl2 => ?_))
 by_cases hk1 : k1 < a_a.length
 refine fos l1 hk1 fun _ t1 l1 => ?_
 unfold laws_markIntS_L1 at t1
 have c1 : (decide (((k1 : Nat) : Int) < ((s1.1.length : Nat) : Int))) = true := ddt (by omega)
 have hq1 : k1 < s1.1.length := by omega
 refine wcs (wcr (mv R R (mv R R (wlq (pln (rgo pz) el_23 R) R (wlq (pls R R) R (wnt (wft R c1 (wck (wqt (wcs (wcb (wcr (mv R R (mv R R (mv R R (wlq (po_ixn (k := k1) (rgo pz) el_23 R R hq1) R (wls (so_own (x' := s1.2) tk_3 pz R R R R R R hq1 R) (wnt (wcg (mv R R (wlq (po_add R R) R (asg R R (wln (wqb (wqt (wcg (mv R R (wlq (po_inc R R (by omega)) R ?_))))))))))))))))))))))))))))
 exact asg R R (wln (wq_rnd hk1 (stpN l1 t1) () (su3 R R R) so1))
 have c1 : (decide (((k1 : Nat) : Int) < ((s1.1.length : Nat) : Int))) = false := ddf (by omega)
 have en1 := foe l1 hk1
 exact wcs (wcr (mv R R (mv R R (wlq (pln (rgo pz) el_23 R) R (wlq (pls R R) R (wnt (wff R c1 (wcx (wqe (wqe (wbx (wjm _ () (Sum.inl.inj en1) (su2 R R) so1))))))))))))
 intro e1 _ hp
 obtain rfl : e1 = y1 := hp.symm
 refine wqt (wcr (mv R R (asg R R (wnt (wct ?_)))))
 obtain rfl := oi t0
 exact wq1 R R fun w hw => ⟨(), R, hw.weak so1⟩

theorem c_laws_markCellS (w : World) (fp : List Nat) (a_a : List GCell) (v0a : Hd) (a_k : Int) (o : Ow w [ownF (sl v0a) a_a] fp) {r : Int × (List GCell)} (t0 : laws_markCellS a_a a_k = some r) : Calls Tryz.prog 58 #[(sl v0a), .int .i64 a_k] w fun e w' => ∃ _x : Unit, e = .returned (.int .i64 r.1) ∧ SH w fp [ownF (sl v0a) r.2] w' := by
 refine calls_of_wc_own (args := [_, _]) o Tryz.func58 R Tryz.ntmps58 R ?_
 unfold laws_markCellS at t0
 refine wcr (asg R R (wnt (wcs (wcr (asg R R (wnt (gdO t0 fun g1 t0 => (wc_hl (rgo pz) fun hl1 => (lpO_inv t0 fun y1 l1 t0 => (wj (J := (List GCell) × Int) (X := Unit) (fun z => y1 = z) (fun z _ => [(0, (sl v0a)), (1, iv z.2)]) (fun z _ => [ownF (sl v0a) z.1]) ?_ ?_))))))))))
 refine wcb (wcf (X := Unit) l1 (fun k1 s1 x1l => [(0, (sl v0a)), (1, iv s1.2), (5, iv ((k1 : Nat) : Int))]) (fun k1 s1 x1l => [ownF (sl v0a) s1.1]) () (su3 R R R) so1 fun k1 s1 x1l hN1 l1 => (wc_hl (rgo pz) fun hl2 => ?_))
 by_cases hk1 : k1 < a_a.length
 refine fos l1 hk1 fun _ t1 l1 => ?_
 unfold laws_markCellS_L1 at t1
 have c1 : (decide (((k1 : Nat) : Int) < ((s1.1.length : Nat) : Int))) = true := ddt (by omega)
 have hq1 : k1 < s1.1.length := by omega
 refine wcs (wcr (mv R R (mv R R (wlq (pln (rgo pz) el_41 R) R (wlq (pls R R) R (wnt (wft R c1 (wck (wqt (wcs (wcb (wcr (mv R R (mv R R (mv R R (wlq (po_ixn (k := k1) (rgo pz) el_41 R R hq1) R (wlq (po_sfldr (rgo pz) hq1 fo_125_0 R) R (wls (so_own (x' := (GCell.mk s1.2 ((gx s1.1 k1).A) ((gx s1.1 k1).B))) tk_3 pz R R R R R R hq1 R) (wnt (wcr (mv R R (wlq (po_add R R) R (asg R R (wnt (wcr (mv R R (mv R R (mv R R (wlq (po_ixn (k := k1) (rgo pz) el_41 R R (set_lt hq1)) R (wlq (po_sfldr (rgo pz) (set_lt hq1) fo_125_1 R) R (wls (so_own2 (X := s1.1) (e := (GCell.mk s1.2 ((gx s1.1 k1).A) ((gx s1.1 k1).B))) (x' := (GCell.mk s1.2 (wr (s1.2 + 1)) ((gx s1.1 k1).B))) tk_3 pz R R R R R R hq1 R) (wnt (wcr (mv R R (wlq (po_add R R) R (asg R R (wnt (wcr (mv R R ?_)))))))))))))))))))))))))))))))))))))))
 refine mv R R (mv R R (wlq (po_ixn (k := k1) (rgo pz) el_41 R R (set_lt hq1)) R (wlq (po_sfldr (rgo pz) (set_lt hq1) fo_125_2 R) R (wls (so_own2 (X := s1.1) (e := (GCell.mk s1.2 (wr (s1.2 + 1)) ((gx s1.1 k1).B))) (x' := (GCell.mk s1.2 (wr (s1.2 + 1)) (wr ((wr (s1.2 + 1)) + 1)))) tk_3 pz R R R R R R hq1 R) (wnt (wcg (mv R R (wlq (po_add R R) R (asg R R (wln (wqb (wqt (wcg (mv R R (wlq (po_inc R R (by omega)) R ?_)))))))))))))))
 exact asg R R (wln (wq_rnd hk1 (stpN l1 t1) () (su3 R R R) so1))
 have c1 : (decide (((k1 : Nat) : Int) < ((s1.1.length : Nat) : Int))) = false := ddf (by omega)
 have en1 := foe l1 hk1
 exact wcs (wcr (mv R R (mv R R (wlq (pln (rgo pz) el_41 R) R (wlq (pls R R) R (wnt (wff R c1 (wcx (wqe (wqe (wbx (wjm _ () (Sum.inl.inj en1) (su2 R R) so1))))))))))))
 intro e1 _ hp
 obtain rfl : e1 = y1 := hp.symm
 refine wqt (wcr (mv R R (asg R R (wnt (wct ?_)))))
 obtain rfl := oi t0
 exact wq1 R R fun w hw => ⟨(), R, hw.weak so1⟩

theorem c_laws_markEntryS (w : World) (fp : List Nat) (a_a : List GEntry) (v0a : Hd) (u0a : List Value) (a_k : Int) (o : Ow w [own (sl v0a) u0a a_a] fp) {r : Int × (List GEntry)} (t0 : laws_markEntryS a_a a_k = some r) : Calls Tryz.prog 56 #[(sl v0a), .int .i64 a_k] w fun e w' => ∃ x : List Value, e = .returned (.int .i64 r.1) ∧ SH w fp [own (sl v0a) x r.2] w' := by
 refine calls_of_wc_own (args := [_, _]) o Tryz.func56 R Tryz.ntmps56 R ?_
 unfold laws_markEntryS at t0
 refine wcr (asg R R (wnt (wcs (wcr (asg R R (wnt (gdO t0 fun g1 t0 => (wc_hl (rgo pz) fun hl1 => (lpO_inv t0 fun y1 l1 t0 => (wj (J := (List GEntry) × Int) (X := List Value) (fun z => y1 = z) (fun z _ => [(0, (sl v0a)), (1, iv z.2)]) (fun z x => [own (sl v0a) x z.1]) ?_ ?_))))))))))
 refine wcb (wcf (X := List Value) l1 (fun k1 s1 x1l => [(0, (sl v0a)), (1, iv s1.2), (5, iv ((k1 : Nat) : Int))]) (fun k1 s1 x1l => [own (sl v0a) x1l s1.1]) u0a (su3 R R R) so1 fun k1 s1 x1l hN1 l1 => (wc_hl (rgo pz) fun hl2 => ?_))
 by_cases hk1 : k1 < a_a.length
 refine fos l1 hk1 fun _ t1 l1 => ?_
 unfold laws_markEntryS_L1 at t1
 have c1 : (decide (((k1 : Nat) : Int) < ((s1.1.length : Nat) : Int))) = true := ddt (by omega)
 have hq1 : k1 < s1.1.length := by omega
 refine wcs (wcr (mv R R (mv R R (wlq (pln (rgo pz) el_34 R) R (wlq (pls R R) R (wnt (wft R c1 (wck (wqt (wcs (wcb (wcr (mv R R (mv R R (mv R R (wlq (po_ixn (k := k1) (rgo pz) el_34 R R hq1) R (wlq (po_sfldr (rgo pz) hq1 fo_78_0 R) R (wl_elem (rgo pz) hq1 ?_))))))))))))))))))
 rintro ⟨_, _, he1⟩
 obtain ⟨w1, hc1, _⟩ := rd_GEntry.1 he1
 refine wl_ent (Ent.trans un_GEntry (take_elem pz hq1 hc1)) ?_
 refine wl_lenh pk1 fun hl3 => wls (so_hol tk_3 pk1 R R R R R R hq1) ?_
 have hc2 := chunk_putp (o := 0) (vs := [iv s1.2]) hl3 hq1 rfl hc1 (cells' := [iv s1.2, iv ((gx s1.1 k1).Day), iv (((gx s1.1 k1).Block).Size), (sl w1)]) rfl
 refine wl_ent (put_elem pz (pow_GEntry (x := (GEntry.mk s1.2 ((gx s1.1 k1).Day) ((gx s1.1 k1).Block))) pz) hq1 hc2) ?_
 refine wnt (wcr (mv R R (wlq (po_add R R) R (asg R R (wnt (wcr (mv R R (mv R R (mv R R (wlq (po_ixn (k := k1) (rgo pz) el_34 R R (set_lt hq1)) R (wlq (po_sfldr (rgo pz) (set_lt hq1) fo_78_1 R) R (wl_ent (Ent.trans un_GEntry (take_set pz hq1 hc2)) (wl_lenh pk1 fun hl4 => (wls (so_hol tk_3 pk1 R R R R R R hq1) ?_))))))))))))))
 have hc3 := chunk_putp (o := 1) (vs := [iv (wr (s1.2 + 1))]) hl4 hq1 rfl hc2 (cells' := [iv s1.2, iv (wr (s1.2 + 1)), iv (((gx s1.1 k1).Block).Size), (sl w1)]) rfl
 refine wl_ent (put_elem pz (pow_GEntry (x := (GEntry.mk s1.2 (wr (s1.2 + 1)) ((gx s1.1 k1).Block))) pz) hq1 hc3) ?_
 refine wnt (wcr (mv R R (wlq (po_add R R) R (asg R R (wnt (wcr (mv R R (mv R R (mv R R (wlq (po_ixn (k := k1) (rgo pz) el_34 R R (set_lt hq1)) R (wlq (po_sfldr (rgo pz) (set_lt hq1) fo_78_2 R) R (wlq (po_sfldr (rgo pz) (set_lt hq1) fo_43_0 R) R (wl_ent (Ent.trans un_GEntry (take_set pz hq1 hc3)) (wl_lenh pk1 fun hl5 => (wls (so_hol tk_3 pk1 R R R R R R hq1) ?_)))))))))))))))
 have hc4 := chunk_putp (o := 2) (vs := [iv (wr ((wr (s1.2 + 1)) + 1))]) hl5 hq1 rfl hc3 (cells' := [iv s1.2, iv (wr (s1.2 + 1)), iv (wr ((wr (s1.2 + 1)) + 1)), (sl w1)]) rfl
 refine wl_ent (put_elem pz (pow_GEntry (x := (GEntry.mk s1.2 (wr (s1.2 + 1)) (GBlock.mk (wr ((wr (s1.2 + 1)) + 1)) (((gx s1.1 k1).Block).Cells)))) pz) hq1 hc4) ?_
 refine wnt (wcr (mv R R (wlq (po_add R R) R (asg R R (wnt (wcg (mv R R (mv R R (wlq (po_ixn (k := k1) (rgo pz) el_34 R R (set_lt hq1)) R (wlq (po_sfldr (rgo pz) (set_lt hq1) fo_78_2 R) R (wlq (po_sfldr (rgo pz) (set_lt hq1) fo_43_1 R) R (wlq (v := (sl w1)) (po_ldn (rgo pz) tk_41 R hc4 R) R (mv R R (wl_ent (Ent.trans un_GEntry (take_set pz hq1 hc4)) (bdO t1 fun v1 hv1 t1 => (wlc (co_o1 [ownF (sl w1) (((gx s1.1 k1).Block).Cells)] fa_58 (zc pz some_refl) R fun w fp hw => c_laws_markCellS w fp (((gx s1.1 k1).Block).Cells) w1 (wr ((wr ((wr (s1.2 + 1)) + 1)) + 1)) hw.ow hv1) R fun _ => (wl_ent (put_elem pk1 (pow_GEntry (x := (GEntry.mk s1.2 (wr (s1.2 + 1)) (GBlock.mk (wr ((wr (s1.2 + 1)) + 1)) v1.2))) pz) hq1 hc4) (asg R R (wln (wqb (wqt (wcg (mv R R (wlq (po_inc R R (by omega)) R ?_))))))))))))))))))))))))
 exact asg R R (wln (wq_rnd hk1 (stpN l1 t1) (put_ (put_ (put_ x1l (k1 * (Rep.sz GEntry) + 0) [iv s1.2]) (k1 * (Rep.sz GEntry) + 1) [iv (wr (s1.2 + 1))]) (k1 * (Rep.sz GEntry) + 2) [iv (wr ((wr (s1.2 + 1)) + 1))]) (su3 R R R) so1))
 have c1 : (decide (((k1 : Nat) : Int) < ((s1.1.length : Nat) : Int))) = false := ddf (by omega)
 have en1 := foe l1 hk1
 exact wcs (wcr (mv R R (mv R R (wlq (pln (rgo pz) el_34 R) R (wlq (pls R R) R (wnt (wff R c1 (wcx (wqe (wqe (wbx (wjm _ x1l (Sum.inl.inj en1) (su2 R R) so1))))))))))))
 intro e1 x1 hp
 obtain rfl : e1 = y1 := hp.symm
 refine wqt (wcr (mv R R (asg R R (wnt (wct ?_)))))
 obtain rfl := oi t0
 exact wq1 R R fun w hw => ⟨x1, R, hw.weak so1⟩

theorem c_laws_markBookingS (w : World) (fp : List Nat) (a_a : List GBooking) (v0a : Hd) (a_k : Int) (o : Ow w [ownF (sl v0a) a_a] fp) {r : Int × (List GBooking)} (t0 : laws_markBookingS a_a a_k = some r) : Calls Tryz.prog 57 #[(sl v0a), .int .i64 a_k] w fun e w' => ∃ _x : Unit, e = .returned (.int .i64 r.1) ∧ SH w fp [ownF (sl v0a) r.2] w' := by
 refine calls_of_wc_own (args := [_, _]) o Tryz.func57 R Tryz.ntmps57 R ?_
 unfold laws_markBookingS at t0
 refine wcr (asg R R (wnt (wcs (wcr (asg R R (wnt (gdO t0 fun g1 t0 => (wc_hl (rgo pz) fun hl1 => (lpO_inv t0 fun y1 l1 t0 => (wj (J := (List GBooking) × Int) (X := Unit) (fun z => y1 = z) (fun z _ => [(0, (sl v0a)), (1, iv z.2)]) (fun z _ => [ownF (sl v0a) z.1]) ?_ ?_))))))))))
 refine wcb (wcf (X := Unit) l1 (fun k1 s1 x1l => [(0, (sl v0a)), (1, iv s1.2), (5, iv ((k1 : Nat) : Int))]) (fun k1 s1 x1l => [ownF (sl v0a) s1.1]) () (su3 R R R) so1 fun k1 s1 x1l hN1 l1 => (wc_hl (rgo pz) fun hl2 => ?_))
 by_cases hk1 : k1 < a_a.length
 refine fos l1 hk1 fun _ t1 l1 => ?_
 unfold laws_markBookingS_L1 at t1
 have c1 : (decide (((k1 : Nat) : Int) < ((s1.1.length : Nat) : Int))) = true := ddt (by omega)
 have hq1 : k1 < s1.1.length := by omega
 refine wcs (wcr (mv R R (mv R R (wlq (pln (rgo pz) el_35 R) R (wlq (pls R R) R (wnt (wft R c1 (wck (wqt (wcs (wcb (wcr (mv R R (mv R R (mv R R (wlq (po_ixn (k := k1) (rgo pz) el_35 R R hq1) R (wlq (po_sfldr (rgo pz) hq1 fo_121_0 R) R (wls (so_own (x' := (GBooking.mk s1.2 ((gx s1.1 k1).From) ((gx s1.1 k1).To) ((gx s1.1 k1).Sum))) tk_3 pz R R R R R R hq1 R) (wnt (wcr (mv R R (wlq (po_add R R) R (asg R R (wnt (wcr (mv R R (mv R R (mv R R (wlq (po_ixn (k := k1) (rgo pz) el_35 R R (set_lt hq1)) R (wlq (po_sfldr (rgo pz) (set_lt hq1) fo_121_1 R) R (wls (so_own2 (X := s1.1) (e := (GBooking.mk s1.2 ((gx s1.1 k1).From) ((gx s1.1 k1).To) ((gx s1.1 k1).Sum))) (x' := (GBooking.mk s1.2 (wr (s1.2 + 1)) ((gx s1.1 k1).To) ((gx s1.1 k1).Sum))) tk_3 pz R R R R R R hq1 R) (wnt (wcr (mv R R (wlq (po_add R R) R (asg R R (wnt (wcr (mv R R ?_)))))))))))))))))))))))))))))))))))))))
 refine mv R R (mv R R (wlq (po_ixn (k := k1) (rgo pz) el_35 R R (set_lt hq1)) R (wlq (po_sfldr (rgo pz) (set_lt hq1) fo_121_2 R) R (wls (so_own2 (X := s1.1) (e := (GBooking.mk s1.2 (wr (s1.2 + 1)) ((gx s1.1 k1).To) ((gx s1.1 k1).Sum))) (x' := (GBooking.mk s1.2 (wr (s1.2 + 1)) (wr ((wr (s1.2 + 1)) + 1)) ((gx s1.1 k1).Sum))) tk_3 pz R R R R R R hq1 R) (wnt (wcr (mv R R (wlq (po_add R R) R (asg R R (wnt (wcr (mv R R (mv R R (mv R R (wlq (po_ixn (k := k1) (rgo pz) el_35 R R (set_lt hq1)) R (wlq (po_sfldr (rgo pz) (set_lt hq1) fo_121_3 R) R (wls (so_own2 (X := s1.1) (e := (GBooking.mk s1.2 (wr (s1.2 + 1)) (wr ((wr (s1.2 + 1)) + 1)) ((gx s1.1 k1).Sum))) (x' := (GBooking.mk s1.2 (wr (s1.2 + 1)) (wr ((wr (s1.2 + 1)) + 1)) (wr ((wr ((wr (s1.2 + 1)) + 1)) + 1)))) tk_3 pz R R R R R R hq1 R) (wnt (wcg (mv R R (wlq (po_add R R) R (asg R R (wln (wqb (wqt (wcg (mv R R (wlq (po_inc R R (by omega)) R ?_))))))))))))))))))))))))))))
 exact asg R R (wln (wq_rnd hk1 (stpN l1 t1) () (su3 R R R) so1))
 have c1 : (decide (((k1 : Nat) : Int) < ((s1.1.length : Nat) : Int))) = false := ddf (by omega)
 have en1 := foe l1 hk1
 exact wcs (wcr (mv R R (mv R R (wlq (pln (rgo pz) el_35 R) R (wlq (pls R R) R (wnt (wff R c1 (wcx (wqe (wqe (wbx (wjm _ () (Sum.inl.inj en1) (su2 R R) so1))))))))))))
 intro e1 _ hp
 obtain rfl : e1 = y1 := hp.symm
 refine wqt (wcr (mv R R (asg R R (wnt (wct ?_)))))
 obtain rfl := oi t0
 exact wq1 R R fun w hw => ⟨(), R, hw.weak so1⟩

theorem c_laws_markGuild (w : World) (fp : List Nat) (a_a : GGuild) (v0a : Hd) (v1a : Hd) (v2a : Hd) (u2a : List Value) (v3a : Hd) (a_k : Int) (o : Ow w [ownF (sl v0a) a_a.Members, ownF (sl v1a) a_a.Stock, own (sl v2a) u2a a_a.Entries, ownF (sl v3a) a_a.Books] fp) {r : Int × (List GMember) × (List Int) × (List GEntry) × (List GBooking)} (t0 : laws_markGuild a_a a_k = some r) : Calls Tryz.prog 15 #[.agg #[(sl v0a), (sl v1a), (sl v2a), (sl v3a), .int .i64 a_a.Round, .int .i64 a_a.Year], .int .i64 a_k] w fun e w' => ∃ x : List Value, e = .returned (.int .i64 r.1) ∧ SH w fp [ownF (sl v0a) r.2.1, ownF (sl v1a) r.2.2.1, own (sl v2a) x r.2.2.2.1, ownF (sl v3a) r.2.2.2.2] w' := by
 refine calls_of_wc_own (args := [_, _]) o Tryz.func15 R Tryz.ntmps15 R ?_
 unfold laws_markGuild at t0
 refine wcr (wle (eo_box R R) R fun b1 => (asg R R (wnt (wcr (wlq (pof fo_37_0 R) R (wlq (v := (sl v0a)) (plx tk_33 pz R R) R (mv R R (bdO t0 fun v1 hv1 t0 => (wlc (co_o1 [ownF (sl v0a) a_a.Members] fa_55 (zc pk1 some_refl) R fun w fp hw => c_laws_markMemberS w fp a_a.Members v0a a_k hw.ow hv1) R fun _ => (asg R R (wnt (wcr (wlq (pof fo_37_1 R) R (wlq (v := (sl v1a)) (plx tk_23 pk1 R R) R (mv R R (bdO t0 fun v2 hv2 t0 => (wlc (co_o1 [ownF (sl v1a) a_a.Stock] fa_28 (zc pk2 some_refl) R fun w fp hw => c_laws_markIntS w fp a_a.Stock v1a v1.1 hw.ow hv2) R fun _ => (asg R R (wnt (wcr (wlq (pof fo_37_2 R) R (wlq (v := (sl v2a)) (plx tk_34 pk2 R R) R (mv R R (bdO t0 fun v3 hv3 t0 => (wlc (co_o1 [own (sl v2a) u2a a_a.Entries] fa_56 (zc pk3 some_refl) R fun w fp hw => c_laws_markEntryS w fp a_a.Entries v2a u2a v2.1 hw.ow hv3) R fun x1 => (asg R R (wnt (wcr (wlq (pof fo_37_3 R) R (wlq (v := (sl v3a)) (plx tk_35 pk3 R R) R (mv R R (bdO t0 fun v4 hv4 t0 => (wlc (co_o1 [ownF (sl v3a) a_a.Books] fa_57 (zc pk4 some_refl) R fun w fp hw => c_laws_markBookingS w fp a_a.Books v3a v3.1 hw.ow hv4) R fun _ => (asg R R (wnt (wcr (mv R R (asg R R (wnt ?_)))))))))))))))))))))))))))))))))))))))
 refine wct ?_
 obtain rfl := oi t0
 exact wq1 R R fun w hw => ⟨x1, R, hw.weak (zc pk3 (zc pk2 (zc pk1 so1)))⟩

theorem c_laws_heldMemberS (w : World) (a_a : List GMember) (v0a : Hd) (r0 : rdF w (dm w []) (sl v0a) a_a) (a_k : Int) {r : Int} (t0 : laws_heldMemberS a_a a_k = some r) : Calls Tryz.prog 59 #[(sl v0a), .int .i64 a_k] w fun e w' => e = .returned (.int .i64 r) ∧ SH w [] [] w' := by
 refine cwc (args := [_, _]) Tryz.func59 R Tryz.ntmps59 R ?_
 unfold laws_heldMemberS at t0
 refine wcr (asg R R (wnt (wcs (wcr (asg R R (wnt (gdO t0 fun g1 t0 => (sqO t0 fun y1 l1 t0 => (wj (J := Int) (X := Unit) (fun z => y1 = .inl z) (fun z _ => [(1, iv z)]) (fun _ _ => []) ?_ ?_)))))))))
 refine wcb (wcf (X := Unit) l1 (fun k1 s1 x1l => [(0, (sl v0a)), (1, iv s1), (5, iv ((k1 : Nat) : Int))]) (fun k1 s1 x1l => []) () (su3 R R R) zn fun k1 s1 x1l hN1 l1 => ?_)
 by_cases hk1 : k1 < a_a.length
 refine fos l1 hk1 fun _ t1 l1 => ?_
 unfold laws_heldMemberS_L1 at t1
 have c1 : (decide (((k1 : Nat) : Int) < ((a_a.length : Nat) : Int))) = true := ddt (by omega)
 refine wcs (wcr (mv R R (mv R R (wlq (pln (rga r0) el_33 R) R (wlq (pls R R) R (wnt (wft R c1 (wck (wqt (wcs (wcb (wcs (wcr (mv R R (mv R R (wlq (po_ixn (k := k1) (rga r0) el_33 R R hk1) R (wlq (po_sfldr (rga r0) hk1 fo_116_0 R) R (wlq (v := iv ((gx a_a k1).Number)) (po_ldf (rga r0) tk_3 R hk1 R) R (mv R R (wlq (po_neq R R) R (wnt (wcO t1 R (fun h1 t1 => ?_) fun h1 t1 => ?_))))))))))))))))))))))
 refine wcr (asg R R (wnt (wct (wqr (wbr (wqr (wqr (wbr (wqr (wqr ?_))))))))))
 replace t0 := lpR t0 l1 t1
 obtain rfl := oi t0
 exact wq1 R R fun w hw => ⟨R, hw.weak zn⟩
 refine wck (wqt (wcr (mv R R (wlq (po_add R R) R (asg R R (wnt (wcs (wcr (mv R R (mv R R (wlq (po_ixn (k := k1) (rga r0) el_33 R R hk1) R (wlq (po_sfldr (rga r0) hk1 fo_116_1 R) R (wlq (v := iv ((gx a_a k1).Since)) (po_ldf (rga r0) tk_3 R hk1 R) R (mv R R (wlq (po_neq R R) R (wnt (wcO t1 R (fun h2 t1 => ?_) fun h2 t1 => ?_)))))))))))))))))
 refine wcr (asg R R (wnt (wct (wqr (wbr (wqr (wqr (wbr (wqr (wqr ?_))))))))))
 replace t0 := lpR t0 l1 t1
 obtain rfl := oi t0
 exact wq1 R R fun w hw => ⟨R, hw.weak zn⟩
 refine wck (wqt (wcr (mv R R (wlq (po_add R R) R (asg R R (wnt (wcs (wcr (mv R R (mv R R (wlq (po_ixn (k := k1) (rga r0) el_33 R R hk1) R (wlq (po_sfldr (rga r0) hk1 fo_116_2 R) R (wlq (v := iv ((gx a_a k1).Paid)) (po_ldf (rga r0) tk_3 R hk1 R) R (mv R R (wlq (po_neq R R) R (wnt (wcO t1 R (fun h3 t1 => ?_) fun h3 t1 => ?_)))))))))))))))))
 refine wcr (asg R R (wnt (wct (wqr (wbr (wqr (wqr (wbr (wqr (wqr ?_))))))))))
 replace t0 := lpR t0 l1 t1
 obtain rfl := oi t0
 exact wq1 R R fun w hw => ⟨R, hw.weak zn⟩
 refine wck (wqt (wcg (mv R R (wlq (po_add R R) R (asg R R (wln (wqb (wqt (wcg (mv R R (wlq (po_inc R R (by omega)) R ?_)))))))))))
 exact asg R R (wln (wq_rnd hk1 (stpN l1 t1) () (su3 R R R) zn))
 have c1 : (decide (((k1 : Nat) : Int) < ((a_a.length : Nat) : Int))) = false := ddf (by omega)
 have en1 := foe l1 hk1
 exact wcs (wcr (mv R R (mv R R (wlq (pln (rga r0) el_33 R) R (wlq (pls R R) R (wnt (wff R c1 (wcx (wqe (wqe (wbx (wjm _ () en1 (su1 R) zn))))))))))))
 intro e1 _ hp
 replace t0 := sqE (j := e1) t0 hp
 refine wqt (wcr (mv R R (asg R R (wnt (wct ?_)))))
 obtain rfl := oi t0
 exact wq1 R R fun w hw => ⟨R, hw.weak zn⟩

theorem c_laws_heldIntS (w : World) (a_a : List Int) (v0a : Hd) (r0 : rdF w (dm w []) (sl v0a) a_a) (a_k : Int) {r : Int} (t0 : laws_heldIntS a_a a_k = some r) : Calls Tryz.prog 29 #[(sl v0a), .int .i64 a_k] w fun e w' => e = .returned (.int .i64 r) ∧ SH w [] [] w' := by
 refine cwc (args := [_, _]) Tryz.func29 R Tryz.ntmps29 R ?_
 unfold laws_heldIntS at t0
 refine wcr (asg R R (wnt (wcs (wcr (asg R R (wnt (gdO t0 fun g1 t0 => (sqO t0 fun y1 l1 t0 => (wj (J := Int) (X := Unit) (fun z => y1 = .inl z) (fun z _ => [(1, iv z)]) (fun _ _ => []) ?_ ?_)))))))))
 refine wcb (wcf (X := Unit) l1 (fun k1 s1 x1l => [(0, (sl v0a)), (1, iv s1), (5, iv ((k1 : Nat) : Int))]) (fun k1 s1 x1l => []) () (su3 R R R) zn fun k1 s1 x1l hN1 l1 => ?_)
 by_cases hk1 : k1 < a_a.length
 refine fos l1 hk1 fun _ t1 l1 => ?_
 unfold laws_heldIntS_L1 at t1
 have c1 : (decide (((k1 : Nat) : Int) < ((a_a.length : Nat) : Int))) = true := ddt (by omega)
 refine wcs (wcr (mv R R (mv R R (wlq (pln (rga r0) el_23 R) R (wlq (pls R R) R (wnt (wft R c1 (wck (wqt (wcs (wcb (wcs (wcr (mv R R (mv R R (wlq (po_ixn (k := k1) (rga r0) el_23 R R hk1) R (wlq (v := iv (gx a_a k1)) (po_ldf (rga r0) tk_3 R hk1 R) R (mv R R (wlq (po_neq R R) R (wnt (wcO t1 R (fun h1 t1 => ?_) fun h1 t1 => ?_)))))))))))))))))))))
 refine wcr (asg R R (wnt (wct (wqr (wbr (wqr (wqr (wbr (wqr (wqr ?_))))))))))
 replace t0 := lpR t0 l1 t1
 obtain rfl := oi t0
 exact wq1 R R fun w hw => ⟨R, hw.weak zn⟩
 refine wck (wqt (wcg (mv R R (wlq (po_add R R) R (asg R R (wln (wqb (wqt (wcg (mv R R (wlq (po_inc R R (by omega)) R ?_)))))))))))
 exact asg R R (wln (wq_rnd hk1 (stpN l1 t1) () (su3 R R R) zn))
 have c1 : (decide (((k1 : Nat) : Int) < ((a_a.length : Nat) : Int))) = false := ddf (by omega)
 have en1 := foe l1 hk1
 exact wcs (wcr (mv R R (mv R R (wlq (pln (rga r0) el_23 R) R (wlq (pls R R) R (wnt (wff R c1 (wcx (wqe (wqe (wbx (wjm _ () en1 (su1 R) zn))))))))))))
 intro e1 _ hp
 replace t0 := sqE (j := e1) t0 hp
 refine wqt (wcr (mv R R (asg R R (wnt (wct ?_)))))
 obtain rfl := oi t0
 exact wq1 R R fun w hw => ⟨R, hw.weak zn⟩

theorem c_laws_heldCellS (w : World) (a_a : List GCell) (v0a : Hd) (r0 : rdF w (dm w []) (sl v0a) a_a) (a_k : Int) {r : Int} (t0 : laws_heldCellS a_a a_k = some r) : Calls Tryz.prog 108 #[(sl v0a), .int .i64 a_k] w fun e w' => e = .returned (.int .i64 r) ∧ SH w [] [] w' := by
 refine cwc (args := [_, _]) Tryz.func108 R Tryz.ntmps108 R ?_
 unfold laws_heldCellS at t0
 refine wcr (asg R R (wnt (wcs (wcr (asg R R (wnt (gdO t0 fun g1 t0 => (sqO t0 fun y1 l1 t0 => (wj (J := Int) (X := Unit) (fun z => y1 = .inl z) (fun z _ => [(1, iv z)]) (fun _ _ => []) ?_ ?_)))))))))
 refine wcb (wcf (X := Unit) l1 (fun k1 s1 x1l => [(0, (sl v0a)), (1, iv s1), (5, iv ((k1 : Nat) : Int))]) (fun k1 s1 x1l => []) () (su3 R R R) zn fun k1 s1 x1l hN1 l1 => ?_)
 by_cases hk1 : k1 < a_a.length
 refine fos l1 hk1 fun _ t1 l1 => ?_
 unfold laws_heldCellS_L1 at t1
 have c1 : (decide (((k1 : Nat) : Int) < ((a_a.length : Nat) : Int))) = true := ddt (by omega)
 refine wcs (wcr (mv R R (mv R R (wlq (pln (rga r0) el_41 R) R (wlq (pls R R) R (wnt (wft R c1 (wck (wqt (wcs (wcb (wcs (wcr (mv R R (mv R R (wlq (po_ixn (k := k1) (rga r0) el_41 R R hk1) R (wlq (po_sfldr (rga r0) hk1 fo_125_0 R) R (wlq (v := iv ((gx a_a k1).Split)) (po_ldf (rga r0) tk_3 R hk1 R) R (mv R R (wlq (po_neq R R) R (wnt (wcO t1 R (fun h1 t1 => ?_) fun h1 t1 => ?_))))))))))))))))))))))
 refine wcr (asg R R (wnt (wct (wqr (wbr (wqr (wqr (wbr (wqr (wqr ?_))))))))))
 replace t0 := lpR t0 l1 t1
 obtain rfl := oi t0
 exact wq1 R R fun w hw => ⟨R, hw.weak zn⟩
 refine wck (wqt (wcr (mv R R (wlq (po_add R R) R (asg R R (wnt (wcs (wcr (mv R R (mv R R (wlq (po_ixn (k := k1) (rga r0) el_41 R R hk1) R (wlq (po_sfldr (rga r0) hk1 fo_125_1 R) R (wlq (v := iv ((gx a_a k1).A)) (po_ldf (rga r0) tk_3 R hk1 R) R (mv R R (wlq (po_neq R R) R (wnt (wcO t1 R (fun h2 t1 => ?_) fun h2 t1 => ?_)))))))))))))))))
 refine wcr (asg R R (wnt (wct (wqr (wbr (wqr (wqr (wbr (wqr (wqr ?_))))))))))
 replace t0 := lpR t0 l1 t1
 obtain rfl := oi t0
 exact wq1 R R fun w hw => ⟨R, hw.weak zn⟩
 refine wck (wqt (wcr (mv R R (wlq (po_add R R) R (asg R R (wnt (wcs (wcr (mv R R (mv R R (wlq (po_ixn (k := k1) (rga r0) el_41 R R hk1) R (wlq (po_sfldr (rga r0) hk1 fo_125_2 R) R (wlq (v := iv ((gx a_a k1).B)) (po_ldf (rga r0) tk_3 R hk1 R) R (mv R R (wlq (po_neq R R) R (wnt (wcO t1 R (fun h3 t1 => ?_) fun h3 t1 => ?_)))))))))))))))))
 refine wcr (asg R R (wnt (wct (wqr (wbr (wqr (wqr (wbr (wqr (wqr ?_))))))))))
 replace t0 := lpR t0 l1 t1
 obtain rfl := oi t0
 exact wq1 R R fun w hw => ⟨R, hw.weak zn⟩
 refine wck (wqt (wcg (mv R R (wlq (po_add R R) R (asg R R (wln (wqb (wqt (wcg (mv R R (wlq (po_inc R R (by omega)) R ?_)))))))))))
 exact asg R R (wln (wq_rnd hk1 (stpN l1 t1) () (su3 R R R) zn))
 have c1 : (decide (((k1 : Nat) : Int) < ((a_a.length : Nat) : Int))) = false := ddf (by omega)
 have en1 := foe l1 hk1
 exact wcs (wcr (mv R R (mv R R (wlq (pln (rga r0) el_41 R) R (wlq (pls R R) R (wnt (wff R c1 (wcx (wqe (wqe (wbx (wjm _ () en1 (su1 R) zn))))))))))))
 intro e1 _ hp
 replace t0 := sqE (j := e1) t0 hp
 refine wqt (wcr (mv R R (asg R R (wnt (wct ?_)))))
 obtain rfl := oi t0
 exact wq1 R R fun w hw => ⟨R, hw.weak zn⟩

theorem c_laws_heldEntryS (w : World) (a_a : List GEntry) (v0a : Hd) (u0a : List Value) (r0 : RdL w (dm w []) (sl v0a) u0a a_a) (a_k : Int) {r : Int} (t0 : laws_heldEntryS a_a a_k = some r) : Calls Tryz.prog 60 #[(sl v0a), .int .i64 a_k] w fun e w' => e = .returned (.int .i64 r) ∧ SH w [] [] w' := by
 refine cwc (args := [_, _]) Tryz.func60 R Tryz.ntmps60 R ?_
 unfold laws_heldEntryS at t0
 refine wcr (asg R R (wnt (wcs (wcr (asg R R (wnt (gdO t0 fun g1 t0 => (sqO t0 fun y1 l1 t0 => (wj (J := Int) (X := Unit) (fun z => y1 = .inl z) (fun z _ => [(1, iv z)]) (fun _ _ => []) ?_ ?_)))))))))
 refine wcb (wcf (X := Unit) l1 (fun k1 s1 x1l => [(0, (sl v0a)), (1, iv s1), (5, iv ((k1 : Nat) : Int))]) (fun k1 s1 x1l => []) () (su3 R R R) zn fun k1 s1 x1l hN1 l1 => ?_)
 by_cases hk1 : k1 < a_a.length
 refine fos l1 hk1 fun _ t1 l1 => ?_
 unfold laws_heldEntryS_L1 at t1
 have c1 : (decide (((k1 : Nat) : Int) < ((a_a.length : Nat) : Int))) = true := ddt (by omega)
 refine wcs (wcr (mv R R (mv R R (wlq (pln (rga r0) el_34 R) R (wlq (pls R R) R (wnt (wft R c1 (wck (wqt (wcs (wcb (wcs (wcr (mv R R (mv R R (wlq (po_ixn (k := k1) (rga r0) el_34 R R hk1) R (wlq (po_sfldr (rga r0) hk1 fo_78_0 R) R (wl_elem (rga r0) hk1 ?_))))))))))))))))))
 rintro ⟨_, _, he1⟩
 obtain ⟨w1, hc1, _⟩ := rd_GEntry.1 he1
 refine wlq (v := iv ((gx a_a k1).Owner)) (po_ldn (rga r0) tk_3 R hc1 R) R (mv R R (wlq (po_neq R R) R (wnt (wcO t1 R (fun h1 t1 => ?_) fun h1 t1 => ?_))))
 refine wcr (asg R R (wnt (wct (wqr (wbr (wqr (wqr (wbr (wqr (wqr ?_))))))))))
 replace t0 := lpR t0 l1 t1
 obtain rfl := oi t0
 exact wq1 R R fun w hw => ⟨R, hw.weak zn⟩
 refine wck (wqt (wcr (mv R R (wlq (po_add R R) R (asg R R (wnt (wcs (wcr (mv R R (mv R R (wlq (po_ixn (k := k1) (rga r0) el_34 R R hk1) R (wlq (po_sfldr (rga r0) hk1 fo_78_1 R) R (wlq (v := iv ((gx a_a k1).Day)) (po_ldn (rga r0) tk_3 R hc1 R) R (mv R R (wlq (po_neq R R) R (wnt (wcO t1 R (fun h2 t1 => ?_) fun h2 t1 => ?_)))))))))))))))))
 refine wcr (asg R R (wnt (wct (wqr (wbr (wqr (wqr (wbr (wqr (wqr ?_))))))))))
 replace t0 := lpR t0 l1 t1
 obtain rfl := oi t0
 exact wq1 R R fun w hw => ⟨R, hw.weak zn⟩
 refine wck (wqt (wcr (mv R R (wlq (po_add R R) R (asg R R (wnt (wcs (wcr (mv R R (mv R R (wlq (po_ixn (k := k1) (rga r0) el_34 R R hk1) R (wlq (po_sfldr (rga r0) hk1 fo_78_2 R) R (wlq (po_sfldr (rga r0) hk1 fo_43_0 R) R (wlq (v := iv (((gx a_a k1).Block).Size)) (po_ldn (rga r0) tk_3 R hc1 R) R (mv R R (wlq (po_neq R R) R (wnt (wcO t1 R (fun h3 t1 => ?_) fun h3 t1 => ?_))))))))))))))))))
 refine wcr (asg R R (wnt (wct (wqr (wbr (wqr (wqr (wbr (wqr (wqr ?_))))))))))
 replace t0 := lpR t0 l1 t1
 obtain rfl := oi t0
 exact wq1 R R fun w hw => ⟨R, hw.weak zn⟩
 refine wck (wqt (wcr (mv R R (wlq (po_add R R) R (asg R R (wnt (wcr (mv R R (mv R R (wlq (po_ixn (k := k1) (rga r0) el_34 R R hk1) R (wlq (po_sfldr (rga r0) hk1 fo_78_2 R) R (wlq (po_sfldr (rga r0) hk1 fo_43_1 R) R (wlq (v := (sl w1)) (po_ldn (rga r0) tk_41 R hc1 R) R (mv R R (bdO t1 fun v1 hv1 t1 => (wlc (cz0 fa_108 R fun w hw => c_laws_heldCellS w (((gx a_a k1).Block).Cells) w1 (Rg.on (er_GEntry_0 hc1 (rga r0) hk1) hw) (wr ((wr ((wr (s1 + 1)) + 1)) + 1)) hv1) R fun _ => (asg R R (wnt (wcr (mv R R (wlq (pls R R) R (wnt (wcO t1 R (fun h4 t1 => ?_) fun h4 t1 => ?_)))))))))))))))))))))))
 refine wcr (asg R R (wnt (wct (wbr (wqr (wqr (wbr (wqr (wqr ?_)))))))))
 replace t0 := lpR t0 l1 t1
 obtain rfl := oi t0
 exact wq1 R R fun w hw => ⟨R, hw.weak zn⟩
 refine wck (wqb (wqt (wcg (mv R R (wlq (po_inc R R (by omega)) R ?_)))))
 exact asg R R (wln (wq_rnd hk1 (stpN l1 t1) () (su3 R R R) zn))
 have c1 : (decide (((k1 : Nat) : Int) < ((a_a.length : Nat) : Int))) = false := ddf (by omega)
 have en1 := foe l1 hk1
 exact wcs (wcr (mv R R (mv R R (wlq (pln (rga r0) el_34 R) R (wlq (pls R R) R (wnt (wff R c1 (wcx (wqe (wqe (wbx (wjm _ () en1 (su1 R) zn))))))))))))
 intro e1 _ hp
 replace t0 := sqE (j := e1) t0 hp
 refine wqt (wcr (mv R R (asg R R (wnt (wct ?_)))))
 obtain rfl := oi t0
 exact wq1 R R fun w hw => ⟨R, hw.weak zn⟩

theorem c_laws_heldBookingS (w : World) (a_a : List GBooking) (v0a : Hd) (r0 : rdF w (dm w []) (sl v0a) a_a) (a_k : Int) {r : Int} (t0 : laws_heldBookingS a_a a_k = some r) : Calls Tryz.prog 61 #[(sl v0a), .int .i64 a_k] w fun e w' => e = .returned (.int .i64 r) ∧ SH w [] [] w' := by
 refine cwc (args := [_, _]) Tryz.func61 R Tryz.ntmps61 R ?_
 unfold laws_heldBookingS at t0
 refine wcr (asg R R (wnt (wcs (wcr (asg R R (wnt (gdO t0 fun g1 t0 => (sqO t0 fun y1 l1 t0 => (wj (J := Int) (X := Unit) (fun z => y1 = .inl z) (fun z _ => [(1, iv z)]) (fun _ _ => []) ?_ ?_)))))))))
 refine wcb (wcf (X := Unit) l1 (fun k1 s1 x1l => [(0, (sl v0a)), (1, iv s1), (5, iv ((k1 : Nat) : Int))]) (fun k1 s1 x1l => []) () (su3 R R R) zn fun k1 s1 x1l hN1 l1 => ?_)
 by_cases hk1 : k1 < a_a.length
 refine fos l1 hk1 fun _ t1 l1 => ?_
 unfold laws_heldBookingS_L1 at t1
 have c1 : (decide (((k1 : Nat) : Int) < ((a_a.length : Nat) : Int))) = true := ddt (by omega)
 refine wcs (wcr (mv R R (mv R R (wlq (pln (rga r0) el_35 R) R (wlq (pls R R) R (wnt (wft R c1 (wck (wqt (wcs (wcb (wcs (wcr (mv R R (mv R R (wlq (po_ixn (k := k1) (rga r0) el_35 R R hk1) R (wlq (po_sfldr (rga r0) hk1 fo_121_0 R) R (wlq (v := iv ((gx a_a k1).Day)) (po_ldf (rga r0) tk_3 R hk1 R) R (mv R R (wlq (po_neq R R) R (wnt (wcO t1 R (fun h1 t1 => ?_) fun h1 t1 => ?_))))))))))))))))))))))
 refine wcr (asg R R (wnt (wct (wqr (wbr (wqr (wqr (wbr (wqr (wqr ?_))))))))))
 replace t0 := lpR t0 l1 t1
 obtain rfl := oi t0
 exact wq1 R R fun w hw => ⟨R, hw.weak zn⟩
 refine wck (wqt (wcr (mv R R (wlq (po_add R R) R (asg R R (wnt (wcs (wcr (mv R R (mv R R (wlq (po_ixn (k := k1) (rga r0) el_35 R R hk1) R (wlq (po_sfldr (rga r0) hk1 fo_121_1 R) R (wlq (v := iv ((gx a_a k1).From)) (po_ldf (rga r0) tk_3 R hk1 R) R (mv R R (wlq (po_neq R R) R (wnt (wcO t1 R (fun h2 t1 => ?_) fun h2 t1 => ?_)))))))))))))))))
 refine wcr (asg R R (wnt (wct (wqr (wbr (wqr (wqr (wbr (wqr (wqr ?_))))))))))
 replace t0 := lpR t0 l1 t1
 obtain rfl := oi t0
 exact wq1 R R fun w hw => ⟨R, hw.weak zn⟩
 refine wck (wqt (wcr (mv R R (wlq (po_add R R) R (asg R R (wnt (wcs (wcr (mv R R (mv R R (wlq (po_ixn (k := k1) (rga r0) el_35 R R hk1) R (wlq (po_sfldr (rga r0) hk1 fo_121_2 R) R (wlq (v := iv ((gx a_a k1).To)) (po_ldf (rga r0) tk_3 R hk1 R) R (mv R R (wlq (po_neq R R) R (wnt (wcO t1 R (fun h3 t1 => ?_) fun h3 t1 => ?_)))))))))))))))))
 refine wcr (asg R R (wnt (wct (wqr (wbr (wqr (wqr (wbr (wqr (wqr ?_))))))))))
 replace t0 := lpR t0 l1 t1
 obtain rfl := oi t0
 exact wq1 R R fun w hw => ⟨R, hw.weak zn⟩
 refine wck (wqt (wcr (mv R R (wlq (po_add R R) R (asg R R (wnt (wcs (wcr (mv R R (mv R R (wlq (po_ixn (k := k1) (rga r0) el_35 R R hk1) R (wlq (po_sfldr (rga r0) hk1 fo_121_3 R) R (wlq (v := iv ((gx a_a k1).Sum)) (po_ldf (rga r0) tk_3 R hk1 R) R (mv R R (wlq (po_neq R R) R (wnt (wcO t1 R (fun h4 t1 => ?_) fun h4 t1 => ?_)))))))))))))))))
 refine wcr (asg R R (wnt (wct (wqr (wbr (wqr (wqr (wbr (wqr (wqr ?_))))))))))
 replace t0 := lpR t0 l1 t1
 obtain rfl := oi t0
 exact wq1 R R fun w hw => ⟨R, hw.weak zn⟩
 refine wck (wqt (wcg (mv R R (wlq (po_add R R) R (asg R R (wln (wqb (wqt (wcg (mv R R (wlq (po_inc R R (by omega)) R ?_)))))))))))
 exact asg R R (wln (wq_rnd hk1 (stpN l1 t1) () (su3 R R R) zn))
 have c1 : (decide (((k1 : Nat) : Int) < ((a_a.length : Nat) : Int))) = false := ddf (by omega)
 have en1 := foe l1 hk1
 exact wcs (wcr (mv R R (mv R R (wlq (pln (rga r0) el_35 R) R (wlq (pls R R) R (wnt (wff R c1 (wcx (wqe (wqe (wbx (wjm _ () en1 (su1 R) zn))))))))))))
 intro e1 _ hp
 replace t0 := sqE (j := e1) t0 hp
 refine wqt (wcr (mv R R (asg R R (wnt (wct ?_)))))
 obtain rfl := oi t0
 exact wq1 R R fun w hw => ⟨R, hw.weak zn⟩

theorem c_laws_heldGuild (w : World) (a_a : GGuild) (v0a : Hd) (r0 : rdF w (dm w []) (sl v0a) a_a.Members) (v1a : Hd) (r1 : rdF w (dm w []) (sl v1a) a_a.Stock) (v2a : Hd) (u2a : List Value) (r2 : RdL w (dm w []) (sl v2a) u2a a_a.Entries) (v3a : Hd) (r3 : rdF w (dm w []) (sl v3a) a_a.Books) (a_k : Int) {r : Int} (t0 : laws_heldGuild a_a a_k = some r) : Calls Tryz.prog 17 #[.agg #[(sl v0a), (sl v1a), (sl v2a), (sl v3a), .int .i64 a_a.Round, .int .i64 a_a.Year], .int .i64 a_k] w fun e w' => e = .returned (.int .i64 r) ∧ SH w [] [] w' := by
 refine cwc (args := [_, _]) Tryz.func17 R Tryz.ntmps17 R ?_
 unfold laws_heldGuild at t0
 refine wcr (wle (eo_box R R) R fun b1 => (asg R R (wnt (wcr (wlq (pof fo_37_0 R) R (wlq (v := (sl v0a)) (plx tk_33 pz R R) R (mv R R (bdO t0 fun v1 hv1 t0 => (wlc (cz0 fa_59 R fun w hw => c_laws_heldMemberS w a_a.Members v0a (ra r0 hw) a_k hv1) R fun _ => (asg R R (wnt (wcs (wcr (mv R R (wlq (pls R R) R (wnt (wcO t0 R (fun h1 t0 => ?_) fun h1 t0 => ?_)))))))))))))))))
 refine wcr (asg R R (wnt (wct (wqr ?_))))
 obtain rfl := oi t0
 exact wq1 R R fun w hw => ⟨R, hw.weak zn⟩
 refine wck (wqt (wcr (wlq (pof fo_37_1 R) R (wlq (v := (sl v1a)) (plx tk_23 pz R R) R (mv R R (bdO t0 fun v2 hv2 t0 => (wlc (cz0 fa_29 R fun w hw => c_laws_heldIntS w a_a.Stock v1a (ra r1 hw) v1 hv2) R fun _ => (asg R R (wnt (wcs (wcr (mv R R (wlq (pls R R) R (wnt (wcO t0 R (fun h2 t0 => ?_) fun h2 t0 => ?_)))))))))))))))
 refine wcr (asg R R (wnt (wct (wqr ?_))))
 obtain rfl := oi t0
 exact wq1 R R fun w hw => ⟨R, hw.weak zn⟩
 refine wck (wqt (wcr (wlq (pof fo_37_2 R) R (wlq (v := (sl v2a)) (plx tk_34 pz R R) R (mv R R (bdO t0 fun v3 hv3 t0 => (wlc (cz0 fa_60 R fun w hw => c_laws_heldEntryS w a_a.Entries v2a u2a (ra r2 hw) v2 hv3) R fun _ => (asg R R (wnt (wcs (wcr (mv R R (wlq (pls R R) R (wnt (wcO t0 R (fun h3 t0 => ?_) fun h3 t0 => ?_)))))))))))))))
 refine wcr (asg R R (wnt (wct (wqr ?_))))
 obtain rfl := oi t0
 exact wq1 R R fun w hw => ⟨R, hw.weak zn⟩
 refine wck (wqt (wcr (wlq (pof fo_37_3 R) R (wlq (v := (sl v3a)) (plx tk_35 pz R R) R (mv R R (bdO t0 fun v4 hv4 t0 => (wlc (cz0 fa_61 R fun w hw => c_laws_heldBookingS w a_a.Books v3a (ra r3 hw) v3 hv4) R fun _ => (asg R R (wnt (wcs (wcr (mv R R (wlq (pls R R) R (wnt (wcO t0 R (fun h4 t0 => ?_) fun h4 t0 => ?_)))))))))))))))
 refine wcr (asg R R (wnt (wct (wqr ?_))))
 obtain rfl := oi t0
 exact wq1 R R fun w hw => ⟨R, hw.weak zn⟩
 refine wck (wqt (wcr (mv R R (asg R R (wnt (wct ?_))))))
 obtain rfl := oi t0
 exact wq1 R R fun w hw => ⟨R, hw.weak zn⟩

end Go.Proofs.YtlfhlajpdmcnaacGreatDoor
