/-
 Each Go function computes its Lean function (part 2).
-/
import Derived.Test.YtjfjbgihojiijacGreatDoorWalks1
namespace Go.Proofs.YtjfjbgihojiijacGreatDoor
open Go Go.RowKit Go.Proofs
set_option maxRecDepth 100000

theorem Za1 (w : World) (a_g : GGuild) (v0a : Hd) (r0 : rdF w (dm w []) (sl v0a) a_g.Members) (v1a : Hd) (r1 : rdF w (dm w []) (sl v1a) a_g.Stock) (v2a : Hd) (u2a : List Value) (r2 : RdL w (dm w []) (sl v2a) u2a a_g.Entries) (v3a : Hd) (r3 : rdF w (dm w []) (sl v3a) a_g.Books) {r : GGuild} (t0 : ZaF a_g = some r) : Calls Tryz.prog 26 #[.agg #[(sl v0a), (sl v1a), (sl v2a), (sl v3a), .int .i64 a_g.Round, .int .i64 a_g.Year]] w fun e w' => ∃ x : Hd × Hd × Hd × (List Value) × Hd, e = .returned (.agg #[(sl x.1), (sl x.2.1), (sl x.2.2.1), (sl x.2.2.2.2), .int .i64 r.Round, .int .i64 r.Year]) ∧ SH w [] [ownF (sl x.1) r.Members, ownF (sl x.2.1) r.Stock, own (sl x.2.2.1) x.2.2.2.1 r.Entries, ownF (sl x.2.2.2.2) r.Books] w' := by
 refine cwc (args := [_]) Tryz.func26 R Tryz.ntmps26 R ?_
 unfold ZaF at t0
 refine wcr (wle (Zg R R) R fun b1 => (wle (eal (cs := [(sl hn), (sl hn), (sl hn), (sl hn), iv 0, iv 0]) ZE) R fun b2 => (wnt (wcs (gdO t0 fun g1 t0 => (gdO t0 fun g2 t0 => (gdO t0 fun g3 t0 => (wcj (X := Nat × Hd × Hd × Hd) (fun _ => True) (fun z => [(1, ptr b1 0), (2, ptr b2 0), (3, ptr z.1 0)]) (fun z => [box z.1 [(sl z.2.1), (sl z.2.2.1), (sl hn), (sl z.2.2.2), iv a_g.Round, iv a_g.Year], ownF (sl z.2.2.2) (([] : List GBooking) ++ a_g.Books), ownF (sl z.2.2.1) (([] : List Int) ++ a_g.Stock), ownF (sl z.2.1) (([] : List GMember) ++ a_g.Members), box b2 [(sl hn), (sl hn), (sl hn), (sl hn), iv 0, iv 0], box b1 [(sl v0a), (sl v1a), (sl v2a), (sl v3a), iv a_g.Round, iv a_g.Year]]) ?_ ?_))))))))
 refine wcd [box b2 [(sl hn), (sl hn), (sl hn), (sl hn), iv 0, iv 0], box b1 [(sl v0a), (sl v1a), (sl v2a), (sl v3a), iv a_g.Round, iv a_g.Year]] 18 mixed (Zq9 [⟨9, #[false, true, true, false, false, true, true, false, false, true, true, false, true, true, true, true, false, false, false], Unit, fun _ => [(1, ptr b1 0), (2, ptr b2 0), (8, (sl v0a)), (12, (sl v1a)), (16, (sl v3a)), (19, iv a_g.Round), (21, iv a_g.Year)], fun _ => [box b2 [(sl hn), (sl hn), (sl hn), (sl hn), iv 0, iv 0], box b1 [(sl v0a), (sl v1a), (sl v2a), (sl v3a), iv a_g.Round, iv a_g.Year]]⟩, ⟨8, #[true, true, true, false, false, true, true, false, false, true, true, false, true, true, true, true, false, false, false], Nat, fun z => [(1, ptr b1 0), (2, ptr b2 0), (6, (sl (⟨some ⟨z, 0, none⟩, 0, 0⟩ : Hd))), (8, (sl v0a)), (12, (sl v1a)), (16, (sl v3a)), (19, iv a_g.Round), (21, iv a_g.Year)], fun z => [box z [], box b2 [(sl hn), (sl hn), (sl hn), (sl hn), iv 0, iv 0], box b1 [(sl v0a), (sl v1a), (sl v2a), (sl v3a), iv a_g.Round, iv a_g.Year]]⟩, ⟨8, #[false, true, true, false, true, true, true, false, false, true, true, false, true, true, true, true, false, false, false], Nat, fun z => [(1, ptr b1 0), (2, ptr b2 0), (8, (sl v0a)), (10, (sl (⟨some ⟨z, 0, none⟩, 0, 0⟩ : Hd))), (12, (sl v1a)), (16, (sl v3a)), (19, iv a_g.Round), (21, iv a_g.Year)], fun z => [box z [], box b2 [(sl hn), (sl hn), (sl hn), (sl hn), iv 0, iv 0], box b1 [(sl v0a), (sl v1a), (sl v2a), (sl v3a), iv a_g.Round, iv a_g.Year]]⟩, ⟨8, #[false, true, true, false, false, true, true, false, true, true, true, false, true, true, true, true, false, false, false], Nat, fun z => [(1, ptr b1 0), (2, ptr b2 0), (8, (sl v0a)), (12, (sl v1a)), (14, (sl (⟨some ⟨z, 0, none⟩, 0, 0⟩ : Hd))), (16, (sl v3a)), (19, iv a_g.Round), (21, iv a_g.Year)], fun z => [box z [], box b2 [(sl hn), (sl hn), (sl hn), (sl hn), iv 0, iv 0], box b1 [(sl v0a), (sl v1a), (sl v2a), (sl v3a), iv a_g.Round, iv a_g.Year]]⟩, ⟨8, #[false, true, true, false, false, true, true, false, false, true, true, false, true, true, true, true, false, true, false], Nat, fun z => [(1, ptr b1 0), (2, ptr b2 0), (3, ptr z 0), (8, (sl v0a)), (12, (sl v1a)), (16, (sl v3a)), (19, iv a_g.Round), (21, iv a_g.Year)], fun z => [box z [(sl hn), (sl hn), (sl hn), (sl hn), iv 0, iv 0], box b2 [(sl hn), (sl hn), (sl hn), (sl hn), iv 0, iv 0], box b1 [(sl v0a), (sl v1a), (sl v2a), (sl v3a), iv a_g.Round, iv a_g.Year]]⟩, ⟨7, #[true, true, true, true, false, true, true, false, false, true, true, false, true, true, true, true, false, false, false], Hd, fun z => [(1, ptr b1 0), (2, ptr b2 0), (9, (sl z)), (12, (sl v1a)), (16, (sl v3a)), (19, iv a_g.Round), (21, iv a_g.Year)], fun z => [ownF (sl z) (([] : List GMember) ++ a_g.Members), box b2 [(sl hn), (sl hn), (sl hn), (sl hn), iv 0, iv 0], box b1 [(sl v0a), (sl v1a), (sl v2a), (sl v3a), iv a_g.Round, iv a_g.Year]]⟩, ⟨7, #[true, true, true, false, true, true, true, false, false, true, true, false, true, true, true, true, false, false, false], Nat × Nat, fun z => [(1, ptr b1 0), (2, ptr b2 0), (6, (sl (⟨some ⟨z.1, 0, none⟩, 0, 0⟩ : Hd))), (8, (sl v0a)), (10, (sl (⟨some ⟨z.2, 0, none⟩, 0, 0⟩ : Hd))), (12, (sl v1a)), (16, (sl v3a)), (19, iv a_g.Round), (21, iv a_g.Year)], fun z => [box z.2 [], box z.1 [], box b2 [(sl hn), (sl hn), (sl hn), (sl hn), iv 0, iv 0], box b1 [(sl v0a), (sl v1a), (sl v2a), (sl v3a), iv a_g.Round, iv a_g.Year]]⟩, ⟨7, #[true, true, true, false, false, true, true, false, true, true, true, false, true, true, true, true, false, false, false], Nat × Nat, fun z => [(1, ptr b1 0), (2, ptr b2 0), (6, (sl (⟨some ⟨z.1, 0, none⟩, 0, 0⟩ : Hd))), (8, (sl v0a)), (12, (sl v1a)), (14, (sl (⟨some ⟨z.2, 0, none⟩, 0, 0⟩ : Hd))), (16, (sl v3a)), (19, iv a_g.Round), (21, iv a_g.Year)], fun z => [box z.2 [], box z.1 [], box b2 [(sl hn), (sl hn), (sl hn), (sl hn), iv 0, iv 0], box b1 [(sl v0a), (sl v1a), (sl v2a), (sl v3a), iv a_g.Round, iv a_g.Year]]⟩, ⟨7, #[true, true, true, false, false, true, true, false, false, true, true, false, true, true, true, true, false, true, false], Nat × Nat, fun z => [(1, ptr b1 0), (2, ptr b2 0), (3, ptr z.1 0), (6, (sl (⟨some ⟨z.2, 0, none⟩, 0, 0⟩ : Hd))), (8, (sl v0a)), (12, (sl v1a)), (16, (sl v3a)), (19, iv a_g.Round), (21, iv a_g.Year)], fun z => [box z.1 [(sl hn), (sl hn), (sl hn), (sl hn), iv 0, iv 0], box z.2 [], box b2 [(sl hn), (sl hn), (sl hn), (sl hn), iv 0, iv 0], box b1 [(sl v0a), (sl v1a), (sl v2a), (sl v3a), iv a_g.Round, iv a_g.Year]]⟩, ⟨7, #[false, true, true, false, true, true, true, false, true, true, true, false, true, true, true, true, false, false, false], Nat × Nat, fun z => [(1, ptr b1 0), (2, ptr b2 0), (8, (sl v0a)), (10, (sl (⟨some ⟨z.1, 0, none⟩, 0, 0⟩ : Hd))), (12, (sl v1a)), (14, (sl (⟨some ⟨z.2, 0, none⟩, 0, 0⟩ : Hd))), (16, (sl v3a)), (19, iv a_g.Round), (21, iv a_g.Year)], fun z => [box z.2 [], box z.1 [], box b2 [(sl hn), (sl hn), (sl hn), (sl hn), iv 0, iv 0], box b1 [(sl v0a), (sl v1a), (sl v2a), (sl v3a), iv a_g.Round, iv a_g.Year]]⟩, ⟨7, #[false, true, true, false, true, true, true, false, false, true, true, false, true, true, true, true, false, true, false], Nat × Nat, fun z => [(1, ptr b1 0), (2, ptr b2 0), (3, ptr z.1 0), (8, (sl v0a)), (10, (sl (⟨some ⟨z.2, 0, none⟩, 0, 0⟩ : Hd))), (12, (sl v1a)), (16, (sl v3a)), (19, iv a_g.Round), (21, iv a_g.Year)], fun z => [box z.1 [(sl hn), (sl hn), (sl hn), (sl hn), iv 0, iv 0], box z.2 [], box b2 [(sl hn), (sl hn), (sl hn), (sl hn), iv 0, iv 0], box b1 [(sl v0a), (sl v1a), (sl v2a), (sl v3a), iv a_g.Round, iv a_g.Year]]⟩, ⟨7, #[false, true, true, false, false, true, true, false, true, true, true, false, true, true, true, true, false, true, false], Nat × Nat, fun z => [(1, ptr b1 0), (2, ptr b2 0), (3, ptr z.1 0), (8, (sl v0a)), (12, (sl v1a)), (14, (sl (⟨some ⟨z.2, 0, none⟩, 0, 0⟩ : Hd))), (16, (sl v3a)), (19, iv a_g.Round), (21, iv a_g.Year)], fun z => [box z.1 [(sl hn), (sl hn), (sl hn), (sl hn), iv 0, iv 0], box z.2 [], box b2 [(sl hn), (sl hn), (sl hn), (sl hn), iv 0, iv 0], box b1 [(sl v0a), (sl v1a), (sl v2a), (sl v3a), iv a_g.Round, iv a_g.Year]]⟩, ⟨6, #[true, true, true, true, true, true, true, false, false, true, true, false, true, true, true, true, false, false, false], Hd × Nat, fun z => [(1, ptr b1 0), (2, ptr b2 0), (9, (sl z.1)), (10, (sl (⟨some ⟨z.2, 0, none⟩, 0, 0⟩ : Hd))), (12, (sl v1a)), (16, (sl v3a)), (19, iv a_g.Round), (21, iv a_g.Year)], fun z => [box z.2 [], ownF (sl z.1) (([] : List GMember) ++ a_g.Members), box b2 [(sl hn), (sl hn), (sl hn), (sl hn), iv 0, iv 0], box b1 [(sl v0a), (sl v1a), (sl v2a), (sl v3a), iv a_g.Round, iv a_g.Year]]⟩, ⟨6, #[true, true, true, true, false, true, true, false, true, true, true, false, true, true, true, true, false, false, false], Hd × Nat, fun z => [(1, ptr b1 0), (2, ptr b2 0), (9, (sl z.1)), (12, (sl v1a)), (14, (sl (⟨some ⟨z.2, 0, none⟩, 0, 0⟩ : Hd))), (16, (sl v3a)), (19, iv a_g.Round), (21, iv a_g.Year)], fun z => [box z.2 [], ownF (sl z.1) (([] : List GMember) ++ a_g.Members), box b2 [(sl hn), (sl hn), (sl hn), (sl hn), iv 0, iv 0], box b1 [(sl v0a), (sl v1a), (sl v2a), (sl v3a), iv a_g.Round, iv a_g.Year]]⟩, ⟨6, #[true, true, true, true, false, true, true, false, false, true, true, false, true, true, true, true, false, true, false], Nat × Hd, fun z => [(1, ptr b1 0), (2, ptr b2 0), (3, ptr z.1 0), (9, (sl z.2)), (12, (sl v1a)), (16, (sl v3a)), (19, iv a_g.Round), (21, iv a_g.Year)], fun z => [box z.1 [(sl hn), (sl hn), (sl hn), (sl hn), iv 0, iv 0], ownF (sl z.2) (([] : List GMember) ++ a_g.Members), box b2 [(sl hn), (sl hn), (sl hn), (sl hn), iv 0, iv 0], box b1 [(sl v0a), (sl v1a), (sl v2a), (sl v3a), iv a_g.Round, iv a_g.Year]]⟩, ⟨6, #[true, true, true, false, true, true, true, false, true, true, true, false, true, true, true, true, false, false, false], Nat × Nat × Nat, fun z => [(1, ptr b1 0), (2, ptr b2 0), (6, (sl (⟨some ⟨z.1, 0, none⟩, 0, 0⟩ : Hd))), (8, (sl v0a)), (10, (sl (⟨some ⟨z.2.1, 0, none⟩, 0, 0⟩ : Hd))), (12, (sl v1a)), (14, (sl (⟨some ⟨z.2.2, 0, none⟩, 0, 0⟩ : Hd))), (16, (sl v3a)), (19, iv a_g.Round), (21, iv a_g.Year)], fun z => [box z.2.2 [], box z.2.1 [], box z.1 [], box b2 [(sl hn), (sl hn), (sl hn), (sl hn), iv 0, iv 0], box b1 [(sl v0a), (sl v1a), (sl v2a), (sl v3a), iv a_g.Round, iv a_g.Year]]⟩, ⟨6, #[true, true, true, false, true, true, true, false, false, true, true, false, true, true, true, true, false, true, false], Nat × Nat × Nat, fun z => [(1, ptr b1 0), (2, ptr b2 0), (3, ptr z.1 0), (6, (sl (⟨some ⟨z.2.1, 0, none⟩, 0, 0⟩ : Hd))), (8, (sl v0a)), (10, (sl (⟨some ⟨z.2.2, 0, none⟩, 0, 0⟩ : Hd))), (12, (sl v1a)), (16, (sl v3a)), (19, iv a_g.Round), (21, iv a_g.Year)], fun z => [box z.1 [(sl hn), (sl hn), (sl hn), (sl hn), iv 0, iv 0], box z.2.2 [], box z.2.1 [], box b2 [(sl hn), (sl hn), (sl hn), (sl hn), iv 0, iv 0], box b1 [(sl v0a), (sl v1a), (sl v2a), (sl v3a), iv a_g.Round, iv a_g.Year]]⟩, ⟨6, #[true, true, true, false, false, true, true, false, true, true, true, false, true, true, true, true, false, true, false], Nat × Nat × Nat, fun z => [(1, ptr b1 0), (2, ptr b2 0), (3, ptr z.1 0), (6, (sl (⟨some ⟨z.2.1, 0, none⟩, 0, 0⟩ : Hd))), (8, (sl v0a)), (12, (sl v1a)), (14, (sl (⟨some ⟨z.2.2, 0, none⟩, 0, 0⟩ : Hd))), (16, (sl v3a)), (19, iv a_g.Round), (21, iv a_g.Year)], fun z => [box z.1 [(sl hn), (sl hn), (sl hn), (sl hn), iv 0, iv 0], box z.2.2 [], box z.2.1 [], box b2 [(sl hn), (sl hn), (sl hn), (sl hn), iv 0, iv 0], box b1 [(sl v0a), (sl v1a), (sl v2a), (sl v3a), iv a_g.Round, iv a_g.Year]]⟩, ⟨6, #[false, true, true, false, true, true, true, false, true, true, true, false, true, true, true, true, false, true, false], Nat × Nat × Nat, fun z => [(1, ptr b1 0), (2, ptr b2 0), (3, ptr z.1 0), (8, (sl v0a)), (10, (sl (⟨some ⟨z.2.1, 0, none⟩, 0, 0⟩ : Hd))), (12, (sl v1a)), (14, (sl (⟨some ⟨z.2.2, 0, none⟩, 0, 0⟩ : Hd))), (16, (sl v3a)), (19, iv a_g.Round), (21, iv a_g.Year)], fun z => [box z.1 [(sl hn), (sl hn), (sl hn), (sl hn), iv 0, iv 0], box z.2.2 [], box z.2.1 [], box b2 [(sl hn), (sl hn), (sl hn), (sl hn), iv 0, iv 0], box b1 [(sl v0a), (sl v1a), (sl v2a), (sl v3a), iv a_g.Round, iv a_g.Year]]⟩, ⟨5, #[true, true, true, true, true, true, true, true, false, true, true, false, true, true, true, true, false, false, false], Hd × Hd, fun z => [(1, ptr b1 0), (2, ptr b2 0), (9, (sl z.1)), (13, (sl z.2)), (16, (sl v3a)), (19, iv a_g.Round), (21, iv a_g.Year)], fun z => [ownF (sl z.2) (([] : List Int) ++ a_g.Stock), ownF (sl z.1) (([] : List GMember) ++ a_g.Members), box b2 [(sl hn), (sl hn), (sl hn), (sl hn), iv 0, iv 0], box b1 [(sl v0a), (sl v1a), (sl v2a), (sl v3a), iv a_g.Round, iv a_g.Year]]⟩, ⟨5, #[true, true, true, true, true, true, true, false, true, true, true, false, true, true, true, true, false, false, false], Hd × Nat × Nat, fun z => [(1, ptr b1 0), (2, ptr b2 0), (9, (sl z.1)), (10, (sl (⟨some ⟨z.2.1, 0, none⟩, 0, 0⟩ : Hd))), (12, (sl v1a)), (14, (sl (⟨some ⟨z.2.2, 0, none⟩, 0, 0⟩ : Hd))), (16, (sl v3a)), (19, iv a_g.Round), (21, iv a_g.Year)], fun z => [box z.2.2 [], box z.2.1 [], ownF (sl z.1) (([] : List GMember) ++ a_g.Members), box b2 [(sl hn), (sl hn), (sl hn), (sl hn), iv 0, iv 0], box b1 [(sl v0a), (sl v1a), (sl v2a), (sl v3a), iv a_g.Round, iv a_g.Year]]⟩, ⟨5, #[true, true, true, true, true, true, true, false, false, true, true, false, true, true, true, true, false, true, false], Nat × Hd × Nat, fun z => [(1, ptr b1 0), (2, ptr b2 0), (3, ptr z.1 0), (9, (sl z.2.1)), (10, (sl (⟨some ⟨z.2.2, 0, none⟩, 0, 0⟩ : Hd))), (12, (sl v1a)), (16, (sl v3a)), (19, iv a_g.Round), (21, iv a_g.Year)], fun z => [box z.1 [(sl hn), (sl hn), (sl hn), (sl hn), iv 0, iv 0], box z.2.2 [], ownF (sl z.2.1) (([] : List GMember) ++ a_g.Members), box b2 [(sl hn), (sl hn), (sl hn), (sl hn), iv 0, iv 0], box b1 [(sl v0a), (sl v1a), (sl v2a), (sl v3a), iv a_g.Round, iv a_g.Year]]⟩, ⟨5, #[true, true, true, true, false, true, true, false, true, true, true, false, true, true, true, true, false, true, false], Nat × Hd × Nat, fun z => [(1, ptr b1 0), (2, ptr b2 0), (3, ptr z.1 0), (9, (sl z.2.1)), (12, (sl v1a)), (14, (sl (⟨some ⟨z.2.2, 0, none⟩, 0, 0⟩ : Hd))), (16, (sl v3a)), (19, iv a_g.Round), (21, iv a_g.Year)], fun z => [box z.1 [(sl hn), (sl hn), (sl hn), (sl hn), iv 0, iv 0], box z.2.2 [], ownF (sl z.2.1) (([] : List GMember) ++ a_g.Members), box b2 [(sl hn), (sl hn), (sl hn), (sl hn), iv 0, iv 0], box b1 [(sl v0a), (sl v1a), (sl v2a), (sl v3a), iv a_g.Round, iv a_g.Year]]⟩, ⟨5, #[true, true, true, false, true, true, true, false, true, true, true, false, true, true, true, true, false, true, false], Nat × Nat × Nat × Nat, fun z => [(1, ptr b1 0), (2, ptr b2 0), (3, ptr z.1 0), (6, (sl (⟨some ⟨z.2.1, 0, none⟩, 0, 0⟩ : Hd))), (8, (sl v0a)), (10, (sl (⟨some ⟨z.2.2.1, 0, none⟩, 0, 0⟩ : Hd))), (12, (sl v1a)), (14, (sl (⟨some ⟨z.2.2.2, 0, none⟩, 0, 0⟩ : Hd))), (16, (sl v3a)), (19, iv a_g.Round), (21, iv a_g.Year)], fun z => [box z.1 [(sl hn), (sl hn), (sl hn), (sl hn), iv 0, iv 0], box z.2.2.2 [], box z.2.2.1 [], box z.2.1 [], box b2 [(sl hn), (sl hn), (sl hn), (sl hn), iv 0, iv 0], box b1 [(sl v0a), (sl v1a), (sl v2a), (sl v3a), iv a_g.Round, iv a_g.Year]]⟩, ⟨4, #[true, true, true, true, true, true, true, true, true, true, true, false, true, true, true, true, false, false, false], Hd × Hd × Nat, fun z => [(1, ptr b1 0), (2, ptr b2 0), (9, (sl z.1)), (13, (sl z.2.1)), (14, (sl (⟨some ⟨z.2.2, 0, none⟩, 0, 0⟩ : Hd))), (16, (sl v3a)), (19, iv a_g.Round), (21, iv a_g.Year)], fun z => [box z.2.2 [], ownF (sl z.2.1) (([] : List Int) ++ a_g.Stock), ownF (sl z.1) (([] : List GMember) ++ a_g.Members), box b2 [(sl hn), (sl hn), (sl hn), (sl hn), iv 0, iv 0], box b1 [(sl v0a), (sl v1a), (sl v2a), (sl v3a), iv a_g.Round, iv a_g.Year]]⟩, ⟨4, #[true, true, true, true, true, true, true, true, false, true, true, false, true, true, true, true, false, true, false], Nat × Hd × Hd, fun z => [(1, ptr b1 0), (2, ptr b2 0), (3, ptr z.1 0), (9, (sl z.2.1)), (13, (sl z.2.2)), (16, (sl v3a)), (19, iv a_g.Round), (21, iv a_g.Year)], fun z => [box z.1 [(sl hn), (sl hn), (sl hn), (sl hn), iv 0, iv 0], ownF (sl z.2.2) (([] : List Int) ++ a_g.Stock), ownF (sl z.2.1) (([] : List GMember) ++ a_g.Members), box b2 [(sl hn), (sl hn), (sl hn), (sl hn), iv 0, iv 0], box b1 [(sl v0a), (sl v1a), (sl v2a), (sl v3a), iv a_g.Round, iv a_g.Year]]⟩, ⟨4, #[true, true, true, true, true, true, true, false, true, true, true, false, true, true, true, true, false, true, false], Nat × Hd × Nat × Nat, fun z => [(1, ptr b1 0), (2, ptr b2 0), (3, ptr z.1 0), (9, (sl z.2.1)), (10, (sl (⟨some ⟨z.2.2.1, 0, none⟩, 0, 0⟩ : Hd))), (12, (sl v1a)), (14, (sl (⟨some ⟨z.2.2.2, 0, none⟩, 0, 0⟩ : Hd))), (16, (sl v3a)), (19, iv a_g.Round), (21, iv a_g.Year)], fun z => [box z.1 [(sl hn), (sl hn), (sl hn), (sl hn), iv 0, iv 0], box z.2.2.2 [], box z.2.2.1 [], ownF (sl z.2.1) (([] : List GMember) ++ a_g.Members), box b2 [(sl hn), (sl hn), (sl hn), (sl hn), iv 0, iv 0], box b1 [(sl v0a), (sl v1a), (sl v2a), (sl v3a), iv a_g.Round, iv a_g.Year]]⟩, ⟨2, #[true, true, true, true, true, true, true, true, true, true, true, true, true, true, true, true, true, false, false], Hd × Hd × Hd, fun z => [(1, ptr b1 0), (2, ptr b2 0), (22, .agg #[(sl z.1), (sl z.2.1), (sl hn), (sl z.2.2), iv a_g.Round, iv a_g.Year])], fun z => [ownF (sl z.2.2) (([] : List GBooking) ++ a_g.Books), ownF (sl z.2.1) (([] : List Int) ++ a_g.Stock), ownF (sl z.1) (([] : List GMember) ++ a_g.Members), box b2 [(sl hn), (sl hn), (sl hn), (sl hn), iv 0, iv 0], box b1 [(sl v0a), (sl v1a), (sl v2a), (sl v3a), iv a_g.Round, iv a_g.Year]]⟩, ⟨3, #[true, true, true, true, true, true, true, true, true, true, true, false, true, true, true, true, false, true, false], Nat × Hd × Hd × Nat, fun z => [(1, ptr b1 0), (2, ptr b2 0), (3, ptr z.1 0), (9, (sl z.2.1)), (13, (sl z.2.2.1)), (14, (sl (⟨some ⟨z.2.2.2, 0, none⟩, 0, 0⟩ : Hd))), (16, (sl v3a)), (19, iv a_g.Round), (21, iv a_g.Year)], fun z => [box z.1 [(sl hn), (sl hn), (sl hn), (sl hn), iv 0, iv 0], box z.2.2.2 [], ownF (sl z.2.2.1) (([] : List Int) ++ a_g.Stock), ownF (sl z.2.1) (([] : List GMember) ++ a_g.Members), box b2 [(sl hn), (sl hn), (sl hn), (sl hn), iv 0, iv 0], box b1 [(sl v0a), (sl v1a), (sl v2a), (sl v3a), iv a_g.Round, iv a_g.Year]]⟩, ⟨1, #[true, true, true, true, true, true, true, true, true, true, true, true, true, true, true, true, true, true, false], Nat × Hd × Hd × Hd, fun z => [(1, ptr b1 0), (2, ptr b2 0), (3, ptr z.1 0), (22, .agg #[(sl z.2.1), (sl z.2.2.1), (sl hn), (sl z.2.2.2), iv a_g.Round, iv a_g.Year])], fun z => [box z.1 [(sl hn), (sl hn), (sl hn), (sl hn), iv 0, iv 0], ownF (sl z.2.2.2) (([] : List GBooking) ++ a_g.Books), ownF (sl z.2.2.1) (([] : List Int) ++ a_g.Stock), ownF (sl z.2.1) (([] : List GMember) ++ a_g.Members), box b2 [(sl hn), (sl hn), (sl hn), (sl hn), iv 0, iv 0], box b1 [(sl v0a), (sl v1a), (sl v2a), (sl v3a), iv a_g.Round, iv a_g.Year]]⟩] ?_ fun H => ?_)
 refine List.forall_mem_cons.2 ⟨fun H => ?_, ?_⟩
 intro _
 dsimp only
 refine wa_4 (i := 0) (j := 4) (k := 8) (m := 17) (by kernel_rfl) ?_ ?_ ?_ ?_
 exact wse R (ebs R Zc4) (fun _ => (zt (zc pk1 (zc pk1 zn)))) R fun b0o => waj H 1 R (nl R) b0o R R (su8 R R R R R R R R) so3
 exact wse R (ebs R Zai) (fun _ => (zt (zc pk1 (zc pk1 zn)))) R fun b4o => waj H 2 R (nl R) b4o R R (su8 R R R R R R R R) so3
 exact wse R (ebs R ZaK) (fun _ => (zt (zc pk1 (zc pk1 zn)))) R fun b8o => waj H 3 R (nl R) b8o R R (su8 R R R R R R R R) so3
 exact wse R (eal (cs := [(sl hn), (sl hn), (sl hn), (sl hn), iv 0, iv 0]) ZE) (fun _ => (zt (zc pk1 (zc pk1 zn)))) R fun b17o => waj H 4 R (nl R) b17o R R (su8 R R R R R R R R) so3
 refine List.forall_mem_cons.2 ⟨fun H => ?_, ?_⟩
 intro z
 dsimp only
 refine wa_4 (i := 3) (j := 4) (k := 8) (m := 17) (by kernel_rfl) ?_ ?_ ?_ ?_
 refine wse R (Zf (xs := ([] : List GMember)) (ys := a_g.Members) Zd7 (pbo pz (n := 0) (xs := ([] : List GMember)) R R (by unfold maxLen; omega)) R R (Zi fun _ g => Rg.on (rga r0) g) g1) (fun _ => (zt (zc pk1 (zc pk1 zn)))) R fun x3o => ?_
 exact waj H 5 R (nl R) x3o R R (su7 R R R R R R R) so3
 exact wse R (ebs R Zai) (fun _ => (zt (zc pk2 (zc pk2 zn)))) R fun b4o => waj H 6 R (nl R) (z, b4o) R R (su9 R R R R R R R R R) so4
 exact wse R (ebs R ZaK) (fun _ => (zt (zc pk2 (zc pk2 zn)))) R fun b8o => waj H 7 R (nl R) (z, b8o) R R (su9 R R R R R R R R R) so4
 exact wse R (eal (cs := [(sl hn), (sl hn), (sl hn), (sl hn), iv 0, iv 0]) ZE) (fun _ => (zt (zc pk2 (zc pk2 zn)))) R fun b17o => waj H 8 R (nl R) (b17o, z) R R (su9 R R R R R R R R R) so4
 refine List.forall_mem_cons.2 ⟨fun H => ?_, ?_⟩
 intro z
 dsimp only
 refine wa_3 (i := 0) (j := 8) (k := 17) (by kernel_rfl) ?_ ?_ ?_
 exact wse R (ebs R Zc4) (fun _ => (zt (zc pk2 (zc pk2 zn)))) R fun b0o => waj H 6 R (nl R) (b0o, z) R R (su9 R R R R R R R R R) (zc pk1 so3)
 exact wse R (ebs R ZaK) (fun _ => (zt (zc pk2 (zc pk2 zn)))) R fun b8o => waj H 9 R (nl R) (z, b8o) R R (su9 R R R R R R R R R) so4
 exact wse R (eal (cs := [(sl hn), (sl hn), (sl hn), (sl hn), iv 0, iv 0]) ZE) (fun _ => (zt (zc pk2 (zc pk2 zn)))) R fun b17o => waj H 10 R (nl R) (b17o, z) R R (su9 R R R R R R R R R) so4
 refine List.forall_mem_cons.2 ⟨fun H => ?_, ?_⟩
 intro z
 dsimp only
 refine wa_3 (i := 0) (j := 4) (k := 17) (by kernel_rfl) ?_ ?_ ?_
 exact wse R (ebs R Zc4) (fun _ => (zt (zc pk2 (zc pk2 zn)))) R fun b0o => waj H 7 R (nl R) (b0o, z) R R (su9 R R R R R R R R R) (zc pk1 so3)
 exact wse R (ebs R Zai) (fun _ => (zt (zc pk2 (zc pk2 zn)))) R fun b4o => waj H 9 R (nl R) (b4o, z) R R (su9 R R R R R R R R R) (zc pk1 so3)
 exact wse R (eal (cs := [(sl hn), (sl hn), (sl hn), (sl hn), iv 0, iv 0]) ZE) (fun _ => (zt (zc pk2 (zc pk2 zn)))) R fun b17o => waj H 11 R (nl R) (b17o, z) R R (su9 R R R R R R R R R) so4
 refine List.forall_mem_cons.2 ⟨fun H => ?_, ?_⟩
 intro z
 dsimp only
 refine wa_3 (i := 0) (j := 4) (k := 8) (by kernel_rfl) ?_ ?_ ?_
 exact wse R (ebs R Zc4) (fun _ => (zt (zc pk2 (zc pk2 zn)))) R fun b0o => waj H 8 R (nl R) (z, b0o) R R (su9 R R R R R R R R R) (zc pk1 so3)
 exact wse R (ebs R Zai) (fun _ => (zt (zc pk2 (zc pk2 zn)))) R fun b4o => waj H 10 R (nl R) (z, b4o) R R (su9 R R R R R R R R R) (zc pk1 so3)
 exact wse R (ebs R ZaK) (fun _ => (zt (zc pk2 (zc pk2 zn)))) R fun b8o => waj H 11 R (nl R) (z, b8o) R R (su9 R R R R R R R R R) (zc pk1 so3)
 refine List.forall_mem_cons.2 ⟨fun H => ?_, ?_⟩
 intro z
 dsimp only
 refine wa_3 (i := 4) (j := 8) (k := 17) (by kernel_rfl) ?_ ?_ ?_
 exact wse R (ebs R Zai) (fun _ => (zt (zc pk2 (zc pk2 zn)))) R fun b4o => waj H 12 R (nl R) (z, b4o) R R (su8 R R R R R R R R) so4
 exact wse R (ebs R ZaK) (fun _ => (zt (zc pk2 (zc pk2 zn)))) R fun b8o => waj H 13 R (nl R) (z, b8o) R R (su8 R R R R R R R R) so4
 exact wse R (eal (cs := [(sl hn), (sl hn), (sl hn), (sl hn), iv 0, iv 0]) ZE) (fun _ => (zt (zc pk2 (zc pk2 zn)))) R fun b17o => waj H 14 R (nl R) (b17o, z) R R (su8 R R R R R R R R) so4
 refine List.forall_mem_cons.2 ⟨fun H => ?_, ?_⟩
 intro z
 dsimp only
 refine wa_3 (i := 3) (j := 8) (k := 17) (by kernel_rfl) ?_ ?_ ?_
 refine wse R (Zf (xs := ([] : List GMember)) (ys := a_g.Members) Zd7 (pbo pk1 (n := 0) (xs := ([] : List GMember)) R R (by unfold maxLen; omega)) R R (Zi fun _ g => Rg.on (rga r0) g) g1) (fun _ => (zt (zc pk2 (zc pk2 zn)))) R fun x3o => ?_
 exact waj H 12 R (nl R) (x3o, z.2) R R (su8 R R R R R R R R) (zc pk1 so3)
 exact wse R (ebs R ZaK) (fun _ => (zt (zc pk3 (zc pk3 zn)))) R fun b8o => waj H 15 R (nl R) (z.1, z.2, b8o) R R (su10 R R R R R R R R R R) so5
 exact wse R (eal (cs := [(sl hn), (sl hn), (sl hn), (sl hn), iv 0, iv 0]) ZE) (fun _ => (zt (zc pk3 (zc pk3 zn)))) R fun b17o => waj H 16 R (nl R) (b17o, z.1, z.2) R R (su10 R R R R R R R R R R) so5
 refine List.forall_mem_cons.2 ⟨fun H => ?_, ?_⟩
 intro z
 dsimp only
 refine wa_3 (i := 3) (j := 4) (k := 17) (by kernel_rfl) ?_ ?_ ?_
 refine wse R (Zf (xs := ([] : List GMember)) (ys := a_g.Members) Zd7 (pbo pk1 (n := 0) (xs := ([] : List GMember)) R R (by unfold maxLen; omega)) R R (Zi fun _ g => Rg.on (rga r0) g) g1) (fun _ => (zt (zc pk2 (zc pk2 zn)))) R fun x3o => ?_
 exact waj H 13 R (nl R) (x3o, z.2) R R (su8 R R R R R R R R) (zc pk1 so3)
 exact wse R (ebs R Zai) (fun _ => (zt (zc pk3 (zc pk3 zn)))) R fun b4o => waj H 15 R (nl R) (z.1, b4o, z.2) R R (su10 R R R R R R R R R R) (zc pk1 so4)
 exact wse R (eal (cs := [(sl hn), (sl hn), (sl hn), (sl hn), iv 0, iv 0]) ZE) (fun _ => (zt (zc pk3 (zc pk3 zn)))) R fun b17o => waj H 17 R (nl R) (b17o, z.1, z.2) R R (su10 R R R R R R R R R R) so5
 refine List.forall_mem_cons.2 ⟨fun H => ?_, ?_⟩
 intro z
 dsimp only
 refine wa_3 (i := 3) (j := 4) (k := 8) (by kernel_rfl) ?_ ?_ ?_
 refine wse R (Zf (xs := ([] : List GMember)) (ys := a_g.Members) Zd7 (pbo pk1 (n := 0) (xs := ([] : List GMember)) R R (by unfold maxLen; omega)) R R (Zi fun _ g => Rg.on (rga r0) g) g1) (fun _ => (zt (zc pk2 (zc pk2 zn)))) R fun x3o => ?_
 exact waj H 14 R (nl R) (z.1, x3o) R R (su8 R R R R R R R R) (zc pk1 so3)
 exact wse R (ebs R Zai) (fun _ => (zt (zc pk3 (zc pk3 zn)))) R fun b4o => waj H 16 R (nl R) (z.1, z.2, b4o) R R (su10 R R R R R R R R R R) (zc pk1 so4)
 exact wse R (ebs R ZaK) (fun _ => (zt (zc pk3 (zc pk3 zn)))) R fun b8o => waj H 17 R (nl R) (z.1, z.2, b8o) R R (su10 R R R R R R R R R R) (zc pk1 so4)
 refine List.forall_mem_cons.2 ⟨fun H => ?_, ?_⟩
 intro z
 dsimp only
 refine wa_2 (i := 0) (j := 17) (by kernel_rfl) ?_ ?_
 exact wse R (ebs R Zc4) (fun _ => (zt (zc pk3 (zc pk3 zn)))) R fun b0o => waj H 15 R (nl R) (b0o, z.1, z.2) R R (su10 R R R R R R R R R R) (zc pk1 (zc pk1 so3))
 exact wse R (eal (cs := [(sl hn), (sl hn), (sl hn), (sl hn), iv 0, iv 0]) ZE) (fun _ => (zt (zc pk3 (zc pk3 zn)))) R fun b17o => waj H 18 R (nl R) (b17o, z.1, z.2) R R (su10 R R R R R R R R R R) so5
 refine List.forall_mem_cons.2 ⟨fun H => ?_, ?_⟩
 intro z
 dsimp only
 refine wa_2 (i := 0) (j := 8) (by kernel_rfl) ?_ ?_
 exact wse R (ebs R Zc4) (fun _ => (zt (zc pk3 (zc pk3 zn)))) R fun b0o => waj H 16 R (nl R) (z.1, b0o, z.2) R R (su10 R R R R R R R R R R) (zc pk1 (zc pk1 so3))
 exact wse R (ebs R ZaK) (fun _ => (zt (zc pk3 (zc pk3 zn)))) R fun b8o => waj H 18 R (nl R) (z.1, z.2, b8o) R R (su10 R R R R R R R R R R) (zc pk1 so4)
 refine List.forall_mem_cons.2 ⟨fun H => ?_, ?_⟩
 intro z
 dsimp only
 refine wa_2 (i := 0) (j := 4) (by kernel_rfl) ?_ ?_
 exact wse R (ebs R Zc4) (fun _ => (zt (zc pk3 (zc pk3 zn)))) R fun b0o => waj H 17 R (nl R) (z.1, b0o, z.2) R R (su10 R R R R R R R R R R) (zc pk1 (zc pk1 so3))
 exact wse R (ebs R Zai) (fun _ => (zt (zc pk3 (zc pk3 zn)))) R fun b4o => waj H 18 R (nl R) (z.1, b4o, z.2) R R (su10 R R R R R R R R R R) (zc pk1 (zc pk1 so3))
 refine List.forall_mem_cons.2 ⟨fun H => ?_, ?_⟩
 intro z
 dsimp only
 refine wa_3 (i := 7) (j := 8) (k := 17) (by kernel_rfl) ?_ ?_ ?_
 refine wse R (Zf (xs := ([] : List Int)) (ys := a_g.Stock) Zbp (pbo pz (n := 0) (xs := ([] : List Int)) R R (by unfold maxLen; omega)) R R (Zi fun _ g => Rg.on (rga r1) g) g2) (fun _ => (zt (zc pk2 (zc pk2 zn)))) R fun x7o => ?_
 exact waj H 19 R (nl R) (z.1, x7o) R R (su7 R R R R R R R) so4
 exact wse R (ebs R ZaK) (fun _ => (zt (zc pk3 (zc pk3 zn)))) R fun b8o => waj H 20 R (nl R) (z.1, z.2, b8o) R R (su9 R R R R R R R R R) so5
 exact wse R (eal (cs := [(sl hn), (sl hn), (sl hn), (sl hn), iv 0, iv 0]) ZE) (fun _ => (zt (zc pk3 (zc pk3 zn)))) R fun b17o => waj H 21 R (nl R) (b17o, z.1, z.2) R R (su9 R R R R R R R R R) so5
 refine List.forall_mem_cons.2 ⟨fun H => ?_, ?_⟩
 intro z
 dsimp only
 refine wa_2 (i := 4) (j := 17) (by kernel_rfl) ?_ ?_
 exact wse R (ebs R Zai) (fun _ => (zt (zc pk3 (zc pk3 zn)))) R fun b4o => waj H 20 R (nl R) (z.1, b4o, z.2) R R (su9 R R R R R R R R R) (zc pk1 so4)
 exact wse R (eal (cs := [(sl hn), (sl hn), (sl hn), (sl hn), iv 0, iv 0]) ZE) (fun _ => (zt (zc pk3 (zc pk3 zn)))) R fun b17o => waj H 22 R (nl R) (b17o, z.1, z.2) R R (su9 R R R R R R R R R) so5
 refine List.forall_mem_cons.2 ⟨fun H => ?_, ?_⟩
 intro z
 dsimp only
 refine wa_2 (i := 4) (j := 8) (by kernel_rfl) ?_ ?_
 exact wse R (ebs R Zai) (fun _ => (zt (zc pk3 (zc pk3 zn)))) R fun b4o => waj H 21 R (nl R) (z.1, z.2, b4o) R R (su9 R R R R R R R R R) (zc pk1 so4)
 exact wse R (ebs R ZaK) (fun _ => (zt (zc pk3 (zc pk3 zn)))) R fun b8o => waj H 22 R (nl R) (z.1, z.2, b8o) R R (su9 R R R R R R R R R) (zc pk1 so4)
 refine List.forall_mem_cons.2 ⟨fun H => ?_, ?_⟩
 intro z
 dsimp only
 refine wa_2 (i := 3) (j := 17) (by kernel_rfl) ?_ ?_
 refine wse R (Zf (xs := ([] : List GMember)) (ys := a_g.Members) Zd7 (pbo pk2 (n := 0) (xs := ([] : List GMember)) R R (by unfold maxLen; omega)) R R (Zi fun _ g => Rg.on (rga r0) g) g1) (fun _ => (zt (zc pk3 (zc pk3 zn)))) R fun x3o => ?_
 exact waj H 20 R (nl R) (x3o, z.2.1, z.2.2) R R (su9 R R R R R R R R R) (zc pk1 (zc pk1 so3))
 exact wse R (eal (cs := [(sl hn), (sl hn), (sl hn), (sl hn), iv 0, iv 0]) ZE) (fun _ => (zt (zc pk4 (zc pk4 zn)))) R fun b17o => waj H 23 R (nl R) (b17o, z.1, z.2.1, z.2.2) R R (yc R (su10 R R R R R R R R R R)) so6
 refine List.forall_mem_cons.2 ⟨fun H => ?_, ?_⟩
 intro z
 dsimp only
 refine wa_2 (i := 3) (j := 8) (by kernel_rfl) ?_ ?_
 refine wse R (Zf (xs := ([] : List GMember)) (ys := a_g.Members) Zd7 (pbo pk2 (n := 0) (xs := ([] : List GMember)) R R (by unfold maxLen; omega)) R R (Zi fun _ g => Rg.on (rga r0) g) g1) (fun _ => (zt (zc pk3 (zc pk3 zn)))) R fun x3o => ?_
 exact waj H 21 R (nl R) (z.1, x3o, z.2.2) R R (su9 R R R R R R R R R) (zc pk1 (zc pk1 so3))
 exact wse R (ebs R ZaK) (fun _ => (zt (zc pk4 (zc pk4 zn)))) R fun b8o => waj H 23 R (nl R) (z.1, z.2.1, z.2.2, b8o) R R (yc R (su10 R R R R R R R R R R)) (zc pk1 so5)
 refine List.forall_mem_cons.2 ⟨fun H => ?_, ?_⟩
 intro z
 dsimp only
 refine wa_2 (i := 3) (j := 4) (by kernel_rfl) ?_ ?_
 refine wse R (Zf (xs := ([] : List GMember)) (ys := a_g.Members) Zd7 (pbo pk2 (n := 0) (xs := ([] : List GMember)) R R (by unfold maxLen; omega)) R R (Zi fun _ g => Rg.on (rga r0) g) g1) (fun _ => (zt (zc pk3 (zc pk3 zn)))) R fun x3o => ?_
 exact waj H 22 R (nl R) (z.1, x3o, z.2.2) R R (su9 R R R R R R R R R) (zc pk1 (zc pk1 so3))
 exact wse R (ebs R Zai) (fun _ => (zt (zc pk4 (zc pk4 zn)))) R fun b4o => waj H 23 R (nl R) (z.1, z.2.1, b4o, z.2.2) R R (yc R (su10 R R R R R R R R R R)) (zc pk1 (zc pk1 so4))
 refine List.forall_mem_cons.2 ⟨fun H => ?_, ?_⟩
 intro z
 dsimp only
 exact a1 0 (wse R (ebs R Zc4) (fun _ => (zt (zc pk4 (zc pk4 zn)))) R fun b0o => (waj H 23 R (nl R) (z.1, b0o, z.2.1, z.2.2) R R (yc R (su10 R R R R R R R R R R)) (zc pk1 (zc pk1 (zc pk1 so3)))))
 refine List.forall_mem_cons.2 ⟨fun H => ?_, ?_⟩
 intro z
 dsimp only
 refine wa_2 (i := 8) (j := 17) (by kernel_rfl) ?_ ?_
 exact wse R (ebs R ZaK) (fun _ => (zt (zc pk3 (zc pk3 zn)))) R fun b8o => waj H 24 R (nl R) (z.1, z.2, b8o) R R (su8 R R R R R R R R) so5
 exact wse R (eal (cs := [(sl hn), (sl hn), (sl hn), (sl hn), iv 0, iv 0]) ZE) (fun _ => (zt (zc pk3 (zc pk3 zn)))) R fun b17o => waj H 25 R (nl R) (b17o, z.1, z.2) R R (su8 R R R R R R R R) so5
 refine List.forall_mem_cons.2 ⟨fun H => ?_, ?_⟩
 intro z
 dsimp only
 refine wa_2 (i := 7) (j := 17) (by kernel_rfl) ?_ ?_
 refine wse R (Zf (xs := ([] : List Int)) (ys := a_g.Stock) Zbp (pbo pk1 (n := 0) (xs := ([] : List Int)) R R (by unfold maxLen; omega)) R R (Zi fun _ g => Rg.on (rga r1) g) g2) (fun _ => (zt (zc pk3 (zc pk3 zn)))) R fun x7o => ?_
 exact waj H 24 R (nl R) (z.1, x7o, z.2.2) R R (su8 R R R R R R R R) (zc pk1 so4)
 exact wse R (eal (cs := [(sl hn), (sl hn), (sl hn), (sl hn), iv 0, iv 0]) ZE) (fun _ => (zt (zc pk4 (zc pk4 zn)))) R fun b17o => waj H 26 R (nl R) (b17o, z.1, z.2.1, z.2.2) R R (su10 R R R R R R R R R R) so6
 refine List.forall_mem_cons.2 ⟨fun H => ?_, ?_⟩
 intro z
 dsimp only
 refine wa_2 (i := 7) (j := 8) (by kernel_rfl) ?_ ?_
 refine wse R (Zf (xs := ([] : List Int)) (ys := a_g.Stock) Zbp (pbo pk1 (n := 0) (xs := ([] : List Int)) R R (by unfold maxLen; omega)) R R (Zi fun _ g => Rg.on (rga r1) g) g2) (fun _ => (zt (zc pk3 (zc pk3 zn)))) R fun x7o => ?_
 exact waj H 25 R (nl R) (z.1, z.2.1, x7o) R R (su8 R R R R R R R R) (zc pk1 so4)
 exact wse R (ebs R ZaK) (fun _ => (zt (zc pk4 (zc pk4 zn)))) R fun b8o => waj H 26 R (nl R) (z.1, z.2.1, z.2.2, b8o) R R (su10 R R R R R R R R R R) (zc pk1 so5)
 refine List.forall_mem_cons.2 ⟨fun H => ?_, ?_⟩
 intro z
 dsimp only
 exact a1 4 (wse R (ebs R Zai) (fun _ => (zt (zc pk4 (zc pk4 zn)))) R fun b4o => (waj H 26 R (nl R) (z.1, z.2.1, b4o, z.2.2) R R (su10 R R R R R R R R R R) (zc pk1 (zc pk1 so4))))
 refine List.forall_mem_cons.2 ⟨fun H => ?_, ?_⟩
 intro z
 dsimp only
 refine a1 3 (wse R (Zf (xs := ([] : List GMember)) (ys := a_g.Members) Zd7 (pbo pk3 (n := 0) (xs := ([] : List GMember)) R R (by unfold maxLen; omega)) R R (Zi fun _ g => Rg.on (rga r0) g) g1) (fun _ => (zt (zc pk4 (zc pk4 zn)))) R fun x3o => ?_)
 exact waj H 26 R (nl R) (z.1, x3o, z.2.2.1, z.2.2.2) R R (su10 R R R R R R R R R R) (zc pk1 (zc pk1 (zc pk1 so3)))
 refine List.forall_mem_cons.2 ⟨fun H => ?_, ?_⟩
 intro z
 dsimp only
 refine wa_2 (i := 11) (j := 17) (by kernel_rfl) ?_ ?_
 refine wse R (Zf (xs := ([] : List GBooking)) (ys := a_g.Books) Zd5 (pbo pz (n := 0) (xs := ([] : List GBooking)) R R (by unfold maxLen; omega)) R R (Zi fun _ g => Rg.on (rga r3) g) g3) (fun _ => (zt (zc pk3 (zc pk3 zn)))) R fun x11o => ?_
 exact aq 16 R (Zl R (Zgs z.1 z.2.1 x11o a_g.Round a_g.Year)) (zc pk3 (zc pk3 zn)) R (waj H 27 R (nl R) (z.1, z.2.1, x11o) R R (su3 R R R) so5)
 exact wse R (eal (cs := [(sl hn), (sl hn), (sl hn), (sl hn), iv 0, iv 0]) ZE) (fun _ => (zt (zc pk4 (zc pk4 zn)))) R fun b17o => waj H 28 R (nl R) (b17o, z.1, z.2.1, z.2.2) R R (su9 R R R R R R R R R) so6
 refine List.forall_mem_cons.2 ⟨fun H => ?_, ?_⟩
 intro z
 dsimp only
 exact a1 8 (wse R (ebs R ZaK) (fun _ => (zt (zc pk4 (zc pk4 zn)))) R fun b8o => (waj H 28 R (nl R) (z.1, z.2.1, z.2.2, b8o) R R (su9 R R R R R R R R R) (zc pk1 so5)))
 refine List.forall_mem_cons.2 ⟨fun H => ?_, ?_⟩
 intro z
 dsimp only
 refine a1 7 (wse R (Zf (xs := ([] : List Int)) (ys := a_g.Stock) Zbp (pbo pk2 (n := 0) (xs := ([] : List Int)) R R (by unfold maxLen; omega)) R R (Zi fun _ g => Rg.on (rga r1) g) g2) (fun _ => (zt (zc pk4 (zc pk4 zn)))) R fun x7o => ?_)
 exact waj H 28 R (nl R) (z.1, z.2.1, x7o, z.2.2.2) R R (su9 R R R R R R R R R) (zc pk1 (zc pk1 so4))
 refine List.forall_mem_cons.2 ⟨fun H => ?_, ?_⟩
 intro z
 dsimp only
 exact a1 17 (wse R (eal (cs := [(sl hn), (sl hn), (sl hn), (sl hn), iv 0, iv 0]) ZE) (fun _ => (zt (zc pk4 (zc pk4 zn)))) R fun b17o => (waj H 29 R (nl R) (b17o, z.1, z.2.1, z.2.2) R R (su4 R R R R) so6))
 refine List.forall_mem_cons.2 ⟨fun H => ?_, ?_⟩
 intro z
 dsimp only
 refine a1 11 (wse R (Zf (xs := ([] : List GBooking)) (ys := a_g.Books) Zd5 (pbo pk1 (n := 0) (xs := ([] : List GBooking)) R R (by unfold maxLen; omega)) R R (Zi fun _ g => Rg.on (rga r3) g) g3) (fun _ => (zt (zc pk4 (zc pk4 zn)))) R fun x11o => ?_)
 exact aq 16 R (Zl R (Zgs z.2.1 z.2.2.1 x11o a_g.Round a_g.Year)) (zc pk4 (zc pk4 zn)) R (waj H 29 R (nl R) (z.1, z.2.1, z.2.2.1, x11o) R R (su4 R R R R) (zc pk1 so5))
 refine List.forall_mem_cons.2 ⟨fun H => ?_, ?_⟩
 intro z
 dsimp only
 refine a1 18 (ZR R (sbx (cs' := [(sl z.2.1), (sl z.2.2.1), (sl hn), (sl z.2.2.2), iv a_g.Round, iv a_g.Year]) Zb pz R R R R R R R) (Za2 (by kernel_rfl)) ?_)
 exact ae (wqm (z.1, z.2.1, z.2.2.1, z.2.2.2) trivial (su3 R R R) so6)
 exact fun _ h => nomatch h
 exact aq 1 R (pof Zct R) so2 R (aq (v := (sl v0a)) 2 R (plx ZeK pk1 R R) so2 R (aq 5 R (pof Zb1 R) so2 R (aq (v := (sl v1a)) 6 R (plx ZcA pk1 R R) so2 R (aq 9 R (pof ZdJ R) so2 R (aq (v := (sl v3a)) 10 R (plx Zhn pk1 R R) so2 R (aq 12 R (pof Zcs R) so2 R (aq (v := iv a_g.Round) 13 R (plx tk_3 pk1 R R) so2 R (aq 14 R (pof Zc3 R) so2 R (aq (v := iv a_g.Year) 15 R (plx tk_3 pk1 R R) so2 R (waj H 0 R (nl R) () R R (su7 R R R R R R R) so2))))))))))
 intro x1 _
 refine wqt (wcs (wcr (asg R R (wnt (gdO t0 fun g4 t0 => (Zn t0 fun y1 l1 t0 => (wj (J := List GEntry) (X := Hd × (List Value)) (fun z => y1 = z) (fun _ _ => [(2, ptr b2 0), (3, ptr x1.1 0)]) (fun z x => [box x1.1 [(sl x1.2.1), (sl x1.2.2.1), (sl x.1), (sl x1.2.2.2), iv a_g.Round, iv a_g.Year], ownF (sl x1.2.2.2) (([] : List GBooking) ++ a_g.Books), ownF (sl x1.2.2.1) (([] : List Int) ++ a_g.Stock), ownF (sl x1.2.1) (([] : List GMember) ++ a_g.Members), box b2 [(sl hn), (sl hn), (sl hn), (sl hn), iv 0, iv 0], own (sl x.1) x.2 z]) ?_ ?_)))))))
 refine wcb (wcf (X := Hd × (List Value)) l1 (fun k1 s1 x1l => [(1, ptr b1 0), (2, ptr b2 0), (3, ptr x1.1 0), (4, iv ((k1 : Nat) : Int))]) (fun k1 s1 x1l => [box x1.1 [(sl x1.2.1), (sl x1.2.2.1), (sl x1l.1), (sl x1.2.2.2), iv a_g.Round, iv a_g.Year], ownF (sl x1.2.2.2) (([] : List GBooking) ++ a_g.Books), ownF (sl x1.2.2.1) (([] : List Int) ++ a_g.Stock), ownF (sl x1.2.1) (([] : List GMember) ++ a_g.Members), box b2 [(sl hn), (sl hn), (sl hn), (sl hn), iv 0, iv 0], box b1 [(sl v0a), (sl v1a), (sl v2a), (sl v3a), iv a_g.Round, iv a_g.Year], own (sl x1l.1) x1l.2 s1]) (hn, []) (su4 R R R R) (zc pz (zc pz (zc pz (zc pz (zc pz (zc pz (zc ZC zn))))))) fun k1 s1 x1l hN1 l1 => ?_)
 by_cases hk1 : k1 < a_g.Entries.length
 refine fos l1 hk1 fun _ t1 l1 => ?_
 unfold Zgi at t1
 have c1 : (decide (((k1 : Nat) : Int) < ((a_g.Entries.length : Nat) : Int))) = true := ddt (by omega)
 refine wcs (wcr (mv R R (wlq (pof ZQ R) R (wlq (v := (sl v2a)) (plx Zas pk5 R R) R (wlq (pln (rga r2) ZaC R) R (wlq (pls R R) R (wnt (wft R c1 (wck (wqt (wcs (wcb (wcr (wlq (pof ZQ R) R (wlq (v := (sl v2a)) (plx Zas pk5 R R) R (mv R R (wlq (Zm (k := k1) (rga r2) ZaC R R hk1) R (ZdM (rga r2) hk1 ?_))))))))))))))))))
 rintro ⟨_, _, he1⟩
 obtain ⟨w1, hc1, _⟩ := ZaX.1 he1
 refine wlq (v := .agg #[iv ((gx a_g.Entries k1).Owner), iv ((gx a_g.Entries k1).Day), iv (((gx a_g.Entries k1).Block).Size), (sl w1)]) (Zb7 (rga r2) Za0 R hc1 R R R) R (wle (eal (cs := [iv 0, iv 0, iv 0, (sl hn)]) Zgl) R fun b3 => (wls (sbx (cs' := [iv ((gx a_g.Entries k1).Owner), iv ((gx a_g.Entries k1).Day), iv (((gx a_g.Entries k1).Block).Size), (sl w1)]) Za0 pz R R R R R R R) (wnt (wcr (wlq (pof ZaJ R) R (wlq (v := .agg #[iv (((gx a_g.Entries k1).Block).Size), (sl w1)]) (plb Zc pz R R R) R (bdO t1 fun v1 hv1 t1 => (wlc (cz1 Zq1 R fun w hw => Zg6 w ((gx a_g.Entries k1).Block) w1 (Rg.on (Zbg hc1 (rga r2) hk1) hw) hv1) R fun x3 => (wlq (pof ZaJ R) R (wls (sbx (cs' := [iv ((gx a_g.Entries k1).Owner), iv ((gx a_g.Entries k1).Day), iv v1.Size, (sl x3)]) Zc pk1 R R R R R R R) (wnt (wcg (wlq (pof ZQ R) R (wlq (v := (sl x1l.1)) (plx Zas pk2 R R) R (wlq (v := .agg #[iv ((gx a_g.Entries k1).Owner), iv ((gx a_g.Entries k1).Day), iv v1.Size, (sl x3)]) (plb Za0 pz R R R) R (wle (ebs R (ZmQ ((gx a_g.Entries k1).Owner) ((gx a_g.Entries k1).Day) v1.Size x3)) R fun b4 => (gdO t1 fun g5 t1 => (wle (Zdb (us := x1l.2) (xs := s1) ZqU pk9 (Zjt (x := (GEntry.mk ((gx a_g.Entries k1).Owner) ((gx a_g.Entries k1).Day) v1)) pk2) pz R R R g5) R fun x4 => (wlq (pof ZQ R) R (wls (sbx (cs' := [(sl x1.2.1), (sl x1.2.2.1), (sl x4), (sl x1.2.2.2), iv a_g.Round, iv a_g.Year]) Zas pk3 R R R R R R R) (wln (wqb (wqt (wcg (mv R R (wlq (Zj R R (by omega)) R ?_))))))))))))))))))))))))))
 exact asg R R (wln (Zk hk1 (stpN l1 t1) (x4, (x1l.2 ++ [iv ((gx a_g.Entries k1).Owner), iv ((gx a_g.Entries k1).Day), iv v1.Size, (sl x3)])) (su4 R R R R) (zc pz (zc pk3 (zc pk3 (zc pk3 (zc pk3 (zc pk3 so1))))))))
 have c1 : (decide (((k1 : Nat) : Int) < ((a_g.Entries.length : Nat) : Int))) = false := ddf (by omega)
 have en1 := foe l1 hk1
 exact wcs (wcr (mv R R (wlq (pof ZQ R) R (wlq (v := (sl v2a)) (plx Zas pk5 R R) R (wlq (pln (rga r2) ZaC R) R (wlq (pls R R) R (wnt (wff R c1 (wcx (wqe (wqe (wbx (wjm _ (x1l.1, x1l.2) (Sum.inl.inj en1) (su2 R R) (zc pz (zc pz (zc pz (zc pz (zc pz (zc pk1 zn)))))))))))))))))))
 intro e1 x2 hp
 obtain rfl : e1 = y1 := hp.symm
 refine wqt (wcr (wlq (v := .agg #[(sl x1.2.1), (sl x1.2.2.1), (sl x2.1), (sl x1.2.2.2), iv a_g.Round, iv a_g.Year]) (plb Zb pz R R R) R (wls (sbx (cs' := [(sl x1.2.1), (sl x1.2.2.1), (sl x2.1), (sl x1.2.2.2), iv a_g.Round, iv a_g.Year]) Zb pk4 R R R R R R R) (wnt (wct ?_)))))
 obtain rfl := oi t0
 exact wqc R Zb R pz R fun w hw => ⟨(x1.2.1, x1.2.2.1, x2.1, x2.2, x1.2.2.2), R, hw.weak (zc pk4 (zc pk3 (zc pk3 (zc pk2 zn))))⟩

theorem Zos (w : World) (a_list : List GMember) (v0a : Hd) (r0 : rdF w (dm w []) (sl v0a) a_list) (a_number : Int) (a_year : Int) {r : (List GMember) × Bool} (t0 : ZbA a_list a_number a_year = some r) : Calls Tryz.prog 64 #[(sl v0a), .int .i64 a_number, .int .i64 a_year] w fun e w' => ∃ x : Hd, e = .returned (.tuple #[(sl x), .bool r.2]) ∧ SH w [] [ownF (sl x) r.1] w' := by
 refine cwc (args := [_, _, _]) Tryz.func64 R Tryz.ntmps64 R ?_
 unfold ZbA at t0
 refine wcr (asg R R (asg R R (wnt (wcr (wle (ebs R Zc4) R fun b1 => (mv R R (gdO t0 fun g1 t0 => (wle (Zf (xs := ([] : List GMember)) (ys := a_list) Zd7 (pbo pz (n := 0) (xs := ([] : List GMember)) R R (by unfold maxLen; omega)) R R (Zi fun _ g => Rg.on (rga r0) g) g1) R fun x1 => ?_))))))))
 refine asg R R (wnt (wcs (wcs (bdO t0 fun y1 t1 t0 => (wj (J := Bool) (X := Unit) (fun z => y1 = z) (fun z _ => [(0, (sl v0a)), (1, iv a_number), (2, iv a_year), (8, (sl x1)), (21, .bool z)]) (fun _ _ => [ownF (sl x1) (([] : List GMember) ++ a_list)]) ?_ ?_)))))
 refine wcg (mv R R (bdO t1 fun v1 hv1 t1 => (wlc (cz0 ZmN R fun w hw => ZcR w a_list v0a (ra r0 hw) hv1) R fun _ => (wlq (Zd R) R (mv R R (wlo (t := 17) t1 R (fun h1 t1 => ?_) fun h1 t1 => ?_))))))
 exact wgf (j := 3) R R R R R (wgf (j := 3) R R R R R (wgf (j := 3) R R R R R (wlq (pit R R) R (wln (wjm _ () (mtE t1) (su5 R R R R R) so1)))))
 exact wgn (j := 3) R R R (mv R R (bdO t1 fun v2 hv2 t1 => (wgn (j := 3) R R R (wlc (cz0 Zbb R fun w hw => ZF w a_year 1900 2999 hv2) R (fun _ => (wgn (j := 3) R R R (wlq (Zd R) R (wlq (pif R R) R (wln (wjm _ () (mtE t1) (su5 R R R R R) so1))))))))))
 intro j1 _ hp
 obtain rfl : j1 = y1 := hp.symm
 refine wqt (wcO t0 R (fun h2 t0 => ?_) fun h2 t0 => ?_)
 refine wcr (mv R R (asg R R (asg R R (wnt (wct (wqr ?_))))))
 obtain rfl := oi t0
 exact ZJ R R R fun w hw => ⟨x1, R, hw.weak so1⟩
 refine wck (wqt (wcr (asg R R (wnt (wcs (ZmU t0 fun y1 l1 t0 => (wj (J := Int) (X := Unit) (fun z => y1 = z) (fun z _ => [(0, (sl v0a)), (1, iv a_number), (2, iv a_year), (8, (sl x1)), (9, iv z)]) (fun _ _ => [ownF (sl x1) (([] : List GMember) ++ a_list)]) ?_ ?_)))))))
 refine wcb (ZoL (X := Unit) l1 (fun s1 x1l => [(0, (sl v0a)), (1, iv a_number), (2, iv a_year), (8, (sl x1)), (9, iv s1)]) (fun s1 x1l => [ownF (sl x1) (([] : List GMember) ++ a_list)]) () (su5 R R R R R) so1 fun m1 s1 x1l l1 => (Zlv l1 fun _ t1 l1 => ?_))
 unfold ZaY at t1
 refine wcs (wcs (bdO t1 fun y2 t2 t1 => (wj (J := Bool) (X := Unit) (fun z => y2 = z) (fun z _ => [(0, (sl v0a)), (1, iv a_number), (2, iv a_year), (8, (sl x1)), (9, iv s1), (35, .bool z)]) (fun _ _ => [ownF (sl x1) (([] : List GMember) ++ a_list)]) ?_ ?_)))
 refine wcg (mv R R (mv R R (wlq (pln (rga r0) Zat R) R (wlq (pls R R) R (mv R R (wlo (t := 27) t2 R (fun h3 t2 => ?_) fun h3 t2 => ?_))))))
 exact wgn (j := 4) R R R (mv R R (wgn (j := 4) R R R (mv R R (gdO t2 fun g2 t2 => (wgn (j := 4) R R R (wlq (ZX (rga r0) Zat R R g2.1 g2.2) R (wgn (j := 4) R R R (wlq (Z5 (rga r0) (ZD g2) Zcq R) R (wgn (j := 4) R R R (wlq (v := iv ((gx a_list ((s1).toNat)).Number)) (Zw (rga r0) tk_3 R (ZD g2) R) R (wgn (j := 4) R R R (mv R R (wgn (j := 4) R R R (wlq (pls R R) R (wlq (pit R R) R (wln (wjm _ () (mtE t2) (su6 R R R R R R) so1)))))))))))))))))
 exact wgf (j := 4) R R R R R (wgf (j := 4) R R R R R (wgf (j := 4) R R R R R (wgf (j := 4) R R R R R (wgf (j := 4) R R R R R (wgf (j := 4) R R R R R (wgf (j := 4) R R R R R (wlq (pif R R) R (wln (wjm _ () (mtE t2) (su6 R R R R R R) so1)))))))))
 intro j2 _ hp
 obtain rfl : j2 = y2 := hp.symm
 refine wqt (wcO t1 R (fun h4 t1 => ?_) fun h4 t1 => ?_)
 exact wck (wqt (wcb (wcg (mv R R (wlq (Zaf R R) R (asg R R (wln (wqb (ZmR (stwN l1 t1) () (su5 R R R R R) so1)))))))))
 exact wcx (wqe (wqe (wbx (wjm _ () (Sum.inl.inj (stwB l1 t1)) (su5 R R R R R) so1))))
 intro e1 _ hp
 obtain rfl : e1 = y1 := hp.symm
 refine wqt (wcr (wle (ebs R Zc4) R fun b2 => (mv R R (mv R R (gdO t0 fun g3 t0 => (wlq (ZiB (l := 0) (h := (e1).toNat) (rga r0) Zat R (.inl ⟨R, R⟩) (.inr ⟨_, R, ixn g3.1⟩) g3.2.1 g3.2.2) R (gdO t0 fun g4 t0 => (wle (Zf (xs := ([] : List GMember)) (ys := ((a_list.drop 0).take ((e1).toNat - 0))) Zd7 (pbo pz (n := 0) (xs := ([] : List GMember)) R R (by unfold maxLen; omega)) R R (Zi fun _ g => Rg.on (Zg7 (rga r0) g3.2.1 g3.2.2) g) g4) R fun x5 => ?_))))))))
 refine asg R R (wnt (wcr (mv R R (mv R R (mv R R (mv R R (wlq (Zaa R R) R (wlq (Zl R (Znt a_number a_year (wr (a_year - 1)))) R (wle (ebs R (Zsz a_number a_year (wr (a_year - 1)))) R fun b3 => (gdO t0 fun g5 t0 => (wle (Zf (xs := (([] : List GMember) ++ ((a_list.drop 0).take ((e1).toNat - 0)))) (ys := ([(GMember.mk a_number a_year (wr (a_year - 1)))] : List GMember)) Zd7 pk1 R R (Zi fun _ g => Rg.on (rgo (pbo pz (n := 1) (xs := ([(GMember.mk a_number a_year (wr (a_year - 1)))] : List GMember)) R R (by unfold maxLen; omega))) g) g5) R fun x6 => ?_)))))))))))
 refine asg R R (wnt (wcr (mv R R (mv R R (mv R R (gdO t0 fun g6 t0 => (wlq (ZiB (l := (e1).toNat) (h := a_list.length) (rga r0) Zat R (.inr ⟨_, R, ixn g6.1⟩) (.inl ⟨R, R⟩) g6.2.1 g6.2.2) R (gdO t0 fun g7 t0 => (wle (Zf (xs := ((([] : List GMember) ++ ((a_list.drop 0).take ((e1).toNat - 0))) ++ [(GMember.mk a_number a_year (wr (a_year - 1)))])) (ys := ((a_list.drop ((e1).toNat)).take (a_list.length - ((e1).toNat)))) Zd7 pz R R (Zi fun _ g => Rg.on (Zg7 (rga r0) g6.2.1 g6.2.2) g) g7) R fun x7 => (asg R R (wnt (wcs (wcr (mv R R (bdO t0 fun v3 hv3 t0 => (wlc (cz0 ZmN R fun w hw => ZcR w (((([] : List GMember) ++ ((a_list.drop 0).take ((e1).toNat - 0))) ++ [(GMember.mk a_number a_year (wr (a_year - 1)))]) ++ ((a_list.drop ((e1).toNat)).take (a_list.length - ((e1).toNat)))) x7 (Rg.on (rgo pz) hw) hv3) R fun _ => (wlq (Zd R) R (wnt (wcO t0 R (fun h5 t0 => ?_) fun h5 t0 => ?_)))))))))))))))))))
 refine wcr (mv R R (asg R R (asg R R (wnt (wct (wqr ?_))))))
 obtain rfl := oi t0
 exact ZJ R R R fun w hw => ⟨x1, R, hw.weak (zc pk2 zn)⟩
 refine wck (wqt (wcr (mv R R (asg R R (asg R R (wnt (wct ?_)))))))
 obtain rfl := oi t0
 exact ZJ R R R fun w hw => ⟨x7, R, hw.weak so1⟩

theorem Zqd (w : World) (a_list : List GMember) (v0a : Hd) (r0 : rdF w (dm w []) (sl v0a) a_list) (a_number : Int) (a_years : Int) {r : (List GMember) × Bool} (t0 : ZgD a_list a_number a_years = some r) : Calls Tryz.prog 65 #[(sl v0a), .int .i64 a_number, .int .i64 a_years] w fun e w' => ∃ x : Hd, e = .returned (.tuple #[(sl x), .bool r.2]) ∧ SH w [] [ownF (sl x) r.1] w' := by
 refine cwc (args := [_, _, _]) Tryz.func65 R Tryz.ntmps65 R ?_
 unfold ZgD at t0
 refine wcr (asg R R (asg R R (wnt (wcr (wle (ebs R Zc4) R fun b1 => (mv R R (gdO t0 fun g1 t0 => (wle (Zf (xs := ([] : List GMember)) (ys := a_list) Zd7 (pbo pz (n := 0) (xs := ([] : List GMember)) R R (by unfold maxLen; omega)) R R (Zi fun _ g => Rg.on (rga r0) g) g1) R fun x1 => ?_))))))))
 refine asg R R (wnt (wcr (asg R R (wnt (wcs (wcr (asg R R (wnt (gdO t0 fun g2 t0 => (Zn t0 fun y1 l1 t0 => (wj (J := (List GMember) × Bool) (X := Unit) (fun z => y1 = z) (fun z _ => [(0, (sl v0a)), (8, (sl x1)), (9, .bool z.2)]) (fun z _ => [ownF (sl x1) z.1]) ?_ ?_)))))))))))
 refine wcb (wcf (X := Unit) l1 (fun k1 s1 x1l => [(0, (sl v0a)), (1, iv a_number), (2, iv a_years), (8, (sl x1)), (9, .bool s1.2), (10, iv ((k1 : Nat) : Int))]) (fun k1 s1 x1l => [ownF (sl x1) s1.1]) () (su6 R R R R R R) so1 fun k1 s1 x1l hN1 l1 => ?_)
 by_cases hk1 : k1 < a_list.length
 refine fos l1 hk1 fun _ t1 l1 => ?_
 unfold Zgy at t1
 have c1 : (decide (((k1 : Nat) : Int) < ((a_list.length : Nat) : Int))) = true := ddt (by omega)
 refine wcs (wcr (mv R R (mv R R (wlq (pln (rga r0) Zat R) R (wlq (pls R R) R (mv R R (Zef (t := 18) R c1 (wgn (j := 4) R R R (mv R R (bdO t1 fun v1 hv1 t1 => (wgn (j := 4) R R R (wlc (cz0 Zbb R fun w hw => ZF w a_years 1 10 hv1) R (fun _ => (wlq (pit R R) R (wnt (wcO t1 R (fun h1 t1 => ?_) fun h1 t1 => ?_))))))))))))))))
 refine wck (wqt (wcs (wcb (wcr (mv R R (mv R R (wlq (Zm (k := k1) (rga r0) Zat R R hk1) R (wlq (Z5 (rga r0) hk1 Zcq R) R (wlq (v := iv ((gx a_list k1).Number)) (Zw (rga r0) tk_3 R hk1 R) R (mv R R (wlq (pol R R) R (wnt (bdO t1 fun y2 t2 t1 => (wj (J := (List GMember) × Bool) (X := Unit) (fun z => y2 = z) (fun z _ => [(0, (sl v0a)), (1, iv a_number), (2, iv a_years), (8, (sl x1)), (9, .bool z.2), (10, iv ((k1 : Nat) : Int)), (19, iv a_years), (20, .bool v1)]) (fun z _ => [ownF (sl x1) z.1]) ?_ ?_))))))))))))))
 refine wcO t2 R (fun h2 t2 => ?_) fun h2 t2 => ?_
 exact wcr (mv R R (mv R R (mv R R (mv R R (wlq (Zm (k := k1) (rga r0) Zat R R hk1) R (wlq (Z5 (rga r0) hk1 Zg5 R) R (wlq (v := iv ((gx a_list k1).Paid)) (Zw (rga r0) tk_3 R hk1 R) R (mv R R (wlq (Zaf R R) R (gdO t2 fun g3 t2 => (wlq (Zm (k := k1) (rgo pz) Zat R R g3) R (wlq (Z5 (rgo pz) g3 Zg5 R) R (wls (Zhx (x' := (GMember.mk ((gx s1.1 k1).Number) ((gx s1.1 k1).Since) (wr ((gx a_list k1).Paid + a_years)))) tk_3 pz R R R R R R g3 R) (wnt (wcg (asg R R (wln (wjm _ () (mtE t2) (su8 R R R R R R R R) so1))))))))))))))))))
 exact wck (wjm _ () (mtE t2) (su8 R R R R R R R R) so1)
 intro j1 _ hp
 obtain rfl : j1 = y2 := hp.symm
 refine wqb (wqt (wcg (mv R R (wlq (Zj R R (by omega)) R ?_))))
 exact asg R R (wln (Zk hk1 (stpN l1 t1) () (su6 R R R R R R) so1))
 exact wcx (wqe (wqe (wbx (wjm _ () (Sum.inl.inj (stpB l1 t1)) (su3 R R R) so1))))
 have c1 : (decide (((k1 : Nat) : Int) < ((a_list.length : Nat) : Int))) = false := ddf (by omega)
 have en1 := foe l1 hk1
 exact wcs (wcr (mv R R (mv R R (wlq (pln (rga r0) Zat R) R (wlq (pls R R) R (mv R R (Zef (t := 18) R c1 (wgf (j := 4) R R R R R (wgf (j := 4) R R R R R (wlq (pif R R) R (wnt (wff R R (wcx (wqe (wqe (wbx (wjm _ () (Sum.inl.inj en1) (su3 R R R) so1)))))))))))))))))
 intro e1 _ hp
 obtain rfl : e1 = y1 := hp.symm
 refine wqt (wcs (wcs (bdO t0 fun y1 t1 t0 => (wj (J := Bool) (X := Unit) (fun z => y1 = z) (fun z _ => [(0, (sl v0a)), (8, (sl x1)), (53, .bool z)]) (fun _ _ => [ownF (sl x1) e1.1]) ?_ ?_))))
 refine wcg (mv R R (bdO t1 fun v2 hv2 t1 => (wlc (cz0 ZmN R fun w hw => ZcR w a_list v0a (ra r0 hw) hv2) R fun _ => (wlq (Zd R) R (mv R R (wlo (t := 45) t1 R (fun h3 t1 => ?_) fun h3 t1 => ?_))))))
 exact wgf (j := 3) R R R R R (wgf (j := 3) R R R R R (wlq (pit R R) R (mv R R (wgf (j := 7) R R R R R (wgf (j := 7) R R R R R (wgf (j := 7) R R R R R (wlq (pit R R) R (wln (wjm _ () (mtE t1) (su3 R R R) so1)))))))))
 refine wgn (j := 3) R R R (mv R R (wgn (j := 3) R R R (wlq (Zd R) R (wlq (pif R R) R (mv R R (wlo (t := 49) t1 R (fun h4 t1 => ?_) fun h4 t1 => ?_))))))
 exact wgf (j := 7) R R R R R (wgf (j := 7) R R R R R (wgf (j := 7) R R R R R (wlq (pit R R) R (wln (wjm _ () (mtE t1) (su3 R R R) so1)))))
 exact wgn (j := 7) R R R (mv R R (bdO t1 fun v3 hv3 t1 => (wgn (j := 7) R R R (wlc (cz0 ZmN R fun w hw => ZcR w e1.1 x1 (Rg.on (rgo pz) hw) hv3) R (fun _ => (wgn (j := 7) R R R (wlq (Zd R) R (wlq (pif R R) R (wln (wjm _ () (mtE t1) (su3 R R R) so1))))))))))
 intro j2 _ hp
 obtain rfl : j2 = y1 := hp.symm
 refine wqt (wcO t0 R (fun h5 t0 => ?_) fun h5 t0 => ?_)
 refine wcr (wle (ebs R Zc4) R fun b2 => (mv R R (wle (Zf (xs := ([] : List GMember)) (ys := a_list) Zd7 (pbo pz (n := 0) (xs := ([] : List GMember)) R R (by unfold maxLen; omega)) R R (Zi fun _ g => Rg.on (rga r0) g) g1) R fun x5 => ?_)))
 refine asg R R (asg R R (wnt (wct (wqr ?_))))
 obtain rfl := oi t0
 exact ZJ R R R fun w hw => ⟨x5, R, hw.weak so1⟩
 refine wck (wqt (wcr (mv R R (asg R R (asg R R (wnt (wct ?_)))))))
 obtain rfl := oi t0
 exact ZJ R R R fun w hw => ⟨x1, R, hw.weak so1⟩

theorem ZpN (w : World) (a_list : List GBooking) (v0a : Hd) (r0 : rdF w (dm w []) (sl v0a) a_list) (a_b : GBooking) {r : (List GBooking) × Bool} (t0 : ZgI a_list a_b = some r) : Calls Tryz.prog 66 #[(sl v0a), .agg #[.int .i64 a_b.Day, .int .i64 a_b.From, .int .i64 a_b.To, .int .i64 a_b.Sum]] w fun e w' => ∃ x : Hd, e = .returned (.tuple #[(sl x), .bool r.2]) ∧ SH w [] [ownF (sl x) r.1] w' := by
 refine cwc (args := [_, _]) Tryz.func66 R Tryz.ntmps66 R ?_
 unfold ZgI at t0
 refine wcr (wle (Zg R R) R fun b1 => (asg R R (asg R R (wnt (wcs (gdO t0 fun g1 t0 => (gdO t0 fun g2 t0 => (wcj (X := Hd) (fun _ => True) (fun z => [(0, (sl v0a)), (6, (sl z))]) (fun z => [ownF (sl z) ((([] : List GBooking) ++ a_list) ++ [a_b])]) ?_ ?_))))))))
 refine wcd [box b1 [iv a_b.Day, iv a_b.From, iv a_b.To, iv a_b.Sum]] 7 mixed (aq 1 R (pom R) so1 R (aq (v := .agg #[iv a_b.Day, iv a_b.From, iv a_b.To, iv a_b.Sum]) 3 R (plb ZmJ pz R R R) so1 R (wa_2 (i := 0) (j := 4) (by kernel_rfl) ?_ ?_)))
 refine wse R (ebs R ZaK) (fun _ => (zt (zc pk1 zn))) R fun b2 => wa_2 (i := 2) (j := 4) (by kernel_rfl) ?_ ?_
 refine wse R (Zf (xs := ([] : List GBooking)) (ys := a_list) Zd5 (pbo pz (n := 0) (xs := ([] : List GBooking)) R R (by unfold maxLen; omega)) R R (Zi fun _ g => Rg.on (rga r0) g) g1) (fun _ => (zt (zc pk1 zn))) R fun x1 => ?_
 refine a1 4 (wse R (ebs R (Zjw a_b.Day a_b.From a_b.To a_b.Sum)) (fun _ => (zt (zc pk2 zn))) R fun b3 => (a1 5 (wse R (Zf (xs := (([] : List GBooking) ++ a_list)) (ys := ([a_b] : List GBooking)) Zd5 pk1 R R (Zi fun _ g => Rg.on (rgo (pbo pz (n := 1) (xs := ([a_b] : List GBooking)) R R (by unfold maxLen; omega))) g) g2) (fun _ => (zt (zc pk2 zn))) R fun x2 => ?_)))
 exact aq 6 R (Zp R) (zc pk2 zn) R (ae (wqm x2 trivial (su2 R R) so1))
 refine wse R (ebs R (Zjw a_b.Day a_b.From a_b.To a_b.Sum)) (fun _ => (zt (zc pk2 zn))) R fun b4 => a1 2 (wse R (Zf (xs := ([] : List GBooking)) (ys := a_list) Zd5 (pbo pk1 (n := 0) (xs := ([] : List GBooking)) R R (by unfold maxLen; omega)) R R (Zi fun _ g => Rg.on (rga r0) g) g1) (fun _ => (zt (zc pk2 zn))) R fun x3 => ?_)
 refine a1 5 (wse R (Zf (xs := (([] : List GBooking) ++ a_list)) (ys := ([a_b] : List GBooking)) Zd5 pz R R (Zi fun _ g => Rg.on (rgo (pbo pk1 (n := 1) (xs := ([a_b] : List GBooking)) R R (by unfold maxLen; omega))) g) g2) (fun _ => (zt (zc pk2 zn))) R fun x4 => ?_)
 exact aq 6 R (Zp R) (zc pk2 zn) R (ae (wqm x4 trivial (su2 R R) so1))
 refine wse R (ebs R (Zjw a_b.Day a_b.From a_b.To a_b.Sum)) (fun _ => (zt (zc pk1 zn))) R fun b5 => a1 0 (wse R (ebs R ZaK) (fun _ => (zt (zc pk2 zn))) R fun b6 => (a1 2 (wse R (Zf (xs := ([] : List GBooking)) (ys := a_list) Zd5 (pbo pz (n := 0) (xs := ([] : List GBooking)) R R (by unfold maxLen; omega)) R R (Zi fun _ g => Rg.on (rga r0) g) g1) (fun _ => (zt (zc pk2 zn))) R fun x5 => ?_)))
 refine a1 5 (wse R (Zf (xs := (([] : List GBooking) ++ a_list)) (ys := ([a_b] : List GBooking)) Zd5 pz R R (Zi fun _ g => Rg.on (rgo (pbo pk1 (n := 1) (xs := ([a_b] : List GBooking)) R R (by unfold maxLen; omega))) g) g2) (fun _ => (zt (zc pk2 zn))) R fun x6 => ?_)
 exact aq 6 R (Zp R) (zc pk2 zn) R (ae (wqm x6 trivial (su2 R R) so1))
 intro x7 _
 refine wqt (wcs (wcs (bdO t0 fun y1 t1 t0 => (wj (J := Bool) (X := Unit) (fun z => y1 = z) (fun z _ => [(0, (sl v0a)), (6, (sl x7)), (20, .bool z)]) (fun _ _ => [ownF (sl x7) ((([] : List GBooking) ++ a_list) ++ [a_b])]) ?_ ?_))))
 refine wcg (mv R R (bdO t1 fun v1 hv1 t1 => (wlc (cz0 Zs6 R fun w hw => Zh9 w a_list v0a (ra r0 hw) hv1) R fun _ => (wlq (Zd R) R (mv R R (wlo (t := 16) t1 R (fun h1 t1 => ?_) fun h1 t1 => ?_))))))
 exact wgf (j := 3) R R R R R (wgf (j := 3) R R R R R (wgf (j := 3) R R R R R (wlq (pit R R) R (wln (wjm _ () (mtE t1) (su3 R R R) so1)))))
 exact wgn (j := 3) R R R (mv R R (bdO t1 fun v2 hv2 t1 => (wgn (j := 3) R R R (wlc (cz0 Zs6 R fun w hw => Zh9 w ((([] : List GBooking) ++ a_list) ++ [a_b]) x7 (Rg.on (rgo pz) hw) hv2) R (fun _ => (wgn (j := 3) R R R (wlq (Zd R) R (wlq (pif R R) R (wln (wjm _ () (mtE t1) (su3 R R R) so1))))))))))
 intro j1 _ hp
 obtain rfl : j1 = y1 := hp.symm
 refine wqt (wcO t0 R (fun h2 t0 => ?_) fun h2 t0 => ?_)
 refine wcr (wle (ebs R ZaK) R fun b7 => (mv R R (wle (Zf (xs := ([] : List GBooking)) (ys := a_list) Zd5 (pbo pz (n := 0) (xs := ([] : List GBooking)) R R (by unfold maxLen; omega)) R R (Zi fun _ g => Rg.on (rga r0) g) g1) R fun x9 => ?_)))
 refine asg R R (asg R R (wnt (wct (wqr ?_))))
 obtain rfl := oi t0
 exact ZJ R R R fun w hw => ⟨x9, R, hw.weak so1⟩
 refine wck (wqt (wcr (mv R R (asg R R (asg R R (wnt (wct ?_)))))))
 obtain rfl := oi t0
 exact ZJ R R R fun w hw => ⟨x7, R, hw.weak so1⟩

theorem Zmr (w : World) (a_g : GGuild) (v0a : Hd) (r0 : rdF w (dm w []) (sl v0a) a_g.Members) (v1a : Hd) (r1 : rdF w (dm w []) (sl v1a) a_g.Stock) (v2a : Hd) (u2a : List Value) (r2 : RdL w (dm w []) (sl v2a) u2a a_g.Entries) (v3a : Hd) (r3 : rdF w (dm w []) (sl v3a) a_g.Books) (a_number : Int) {r : GGuild × Bool} (t0 : Zdx a_g a_number = some r) : Calls Tryz.prog 30 #[.agg #[(sl v0a), (sl v1a), (sl v2a), (sl v3a), .int .i64 a_g.Round, .int .i64 a_g.Year], .int .i64 a_number] w fun e w' => ∃ x : Hd × Hd × Hd × (List Value) × Hd, e = .returned (.tuple #[.agg #[(sl x.1), (sl x.2.1), (sl x.2.2.1), (sl x.2.2.2.2), .int .i64 r.1.Round, .int .i64 r.1.Year], .bool r.2]) ∧ SH w [] [ownF (sl x.1) r.1.Members, ownF (sl x.2.1) r.1.Stock, own (sl x.2.2.1) x.2.2.2.1 r.1.Entries, ownF (sl x.2.2.2.2) r.1.Books] w' := by
 refine cwc (args := [_, _]) Tryz.func30 R Tryz.ntmps30 R ?_
 unfold Zdx at t0
 refine wcr (wle (Zg R R) R fun b1 => (wle (eal (cs := [(sl hn), (sl hn), (sl hn), (sl hn), iv 0, iv 0]) ZE) R fun b2 => (asg R R (wnt (wcr (wlq (v := .agg #[(sl v0a), (sl v1a), (sl v2a), (sl v3a), iv a_g.Round, iv a_g.Year]) (plb Zb pk1 R R R) R (bdO t0 fun v1 hv1 t0 => (wlc (Zan Zia R fun w hw => Za1 w a_g v0a (ra r0 hw) v1a (ra r1 hw) v2a u2a (ra r2 hw) v3a (ra r3 hw) hv1) R fun x1 => (wle (eal (cs := [(sl hn), (sl hn), (sl hn), (sl hn), iv 0, iv 0]) ZE) R fun b3 => (wls (sbx (cs' := [(sl x1.1), (sl x1.2.1), (sl x1.2.2.1), (sl x1.2.2.2.2), iv v1.Round, iv v1.Year]) Zb pz R R R R R R R) (wnt (wcs (wcs (bdO t0 fun y1 t1 t0 => (wj (J := Bool) (X := Unit) (fun z => y1 = z) (fun z _ => [(1, iv a_number), (2, ptr b1 0), (4, ptr b2 0), (6, ptr b3 0), (24, .bool z)]) (fun _ _ => [box b3 [(sl x1.1), (sl x1.2.1), (sl x1.2.2.1), (sl x1.2.2.2.2), iv v1.Round, iv v1.Year], box b2 [(sl hn), (sl hn), (sl hn), (sl hn), iv 0, iv 0], box b1 [(sl v0a), (sl v1a), (sl v2a), (sl v3a), iv a_g.Round, iv a_g.Year], ownF (sl x1.1) v1.Members, ownF (sl x1.2.1) v1.Stock, own (sl x1.2.2.1) x1.2.2.2.1 v1.Entries, ownF (sl x1.2.2.2.2) v1.Books]) ?_ ?_)))))))))))))))
 refine wcg (wlq (v := .agg #[(sl v0a), (sl v1a), (sl v2a), (sl v3a), iv a_g.Round, iv a_g.Year]) (plb Zb pk6 R R R) R (bdO t1 fun v2 hv2 t1 => (wlc (cz0 Zhb R fun w hw => ZaB w a_g v0a (ra r0 hw) v1a (ra r1 hw) v2a u2a (ra r2 hw) v3a (ra r3 hw) hv2) R fun _ => (wlq (Zd R) R (mv R R (wlo (t := 20) t1 R (fun h1 t1 => ?_) fun h1 t1 => ?_))))))
 exact wgf (j := 3) R R R R R (wgf (j := 3) R R R R R (wgf (j := 3) R R R R R (wlq (pit R R) R (wln (wjm _ () (mtE t1) (su5 R R R R R) (zc pz (zc pk4 (zc pk4 so4))))))))
 exact wgn (j := 3) R R R (wlq (pof Zcs R) R (wgn (j := 3) R R R (wlq (v := iv a_g.Round) (plx tk_3 pk6 R R) R (wgn (j := 3) R R R (wlq (ZcD R R) R (wlq (pif R R) R (wln (wjm _ () (mtE t1) (su5 R R R R R) (zc pz (zc pk4 (zc pk4 so4)))))))))))
 intro j1 _ hp
 obtain rfl : j1 = y1 := hp.symm
 refine wqt (wcO t0 R (fun h2 t0 => ?_) fun h2 t0 => ?_)
 refine wcr (wlq (v := .agg #[(sl x1.1), (sl x1.2.1), (sl x1.2.2.1), (sl x1.2.2.2.2), iv v1.Round, iv v1.Year]) (plb Zb pz R R R) R (wls (sbx (cs' := [(sl x1.1), (sl x1.2.1), (sl x1.2.2.1), (sl x1.2.2.2.2), iv v1.Round, iv v1.Year]) Zb pk1 R R R R R R R) (asg R R (wnt (wct (wqr ?_))))))
 obtain rfl := oi t0
 exact Zx R Zb R R pz R fun w hw => ⟨(x1.1, x1.2.1, x1.2.2.1, x1.2.2.2.1, x1.2.2.2.2), R, hw.weak (zc pk3 (zc pk3 (zc pk3 (zc pk3 zn))))⟩
 refine wck (wqt (wcr (asg R R (wnt (wcs (wcr (wlq (pof ZdJ R) R (wlq (v := (sl v3a)) (plx Zhn pk2 R R) R (wlq (pln (rga r3) Zgx R) R (wlq (Zad R R) R (wnt (bdO t0 fun y1 t1 t0 => (wj (J := Int) (X := Unit) (fun z => y1 = z) (fun z _ => [(1, iv a_number), (2, ptr b1 0), (4, ptr b2 0), (6, ptr b3 0), (7, iv z)]) (fun _ _ => [box b3 [(sl x1.1), (sl x1.2.1), (sl x1.2.2.1), (sl x1.2.2.2.2), iv v1.Round, iv v1.Year], box b2 [(sl hn), (sl hn), (sl hn), (sl hn), iv 0, iv 0], box b1 [(sl v0a), (sl v1a), (sl v2a), (sl v3a), iv a_g.Round, iv a_g.Year], ownF (sl x1.1) v1.Members, ownF (sl x1.2.1) v1.Stock, own (sl x1.2.2.1) x1.2.2.2.1 v1.Entries, ownF (sl x1.2.2.2.2) v1.Books]) ?_ ?_)))))))))))))
 refine wcO t1 R (fun h3 t1 => ?_) fun h3 t1 => ?_
 exact wcg (wlq (pof ZdJ R) R (wlq (v := (sl v3a)) (plx Zhn pk2 R R) R (wlq (pof ZdJ R) R (wlq (v := (sl v3a)) (plx Zhn pk2 R R) R (wlq (pln (rga r3) Zgx R) R (wlq (Zaa R R) R (gdO t1 fun g1 t1 => (wlq (ZX (rga r3) Zgx R R g1.1 g1.2) R (wlq (Z5 (rga r3) (ZD g1) Zh0 R) R (wlq (v := iv ((gx a_g.Books (((wr (((a_g.Books.length : Nat) : Int) - 1))).toNat)).Day)) (Zw (rga r3) tk_3 R (ZD g1) R) R (asg R R (wln (wjm _ () (mtE t1) (su5 R R R R R) so7)))))))))))))
 exact wck (wjm _ () (mtE t1) (su5 R R R R R) so7)
 intro j2 _ hp
 obtain rfl : j2 = y1 := hp.symm
 refine wqt (wcr (wlq (pof Zct R) R (wlq (v := (sl v0a)) (plx ZeK pk2 R R) R (mv R R (wlq (pof Zc3 R) R (wlq (v := iv a_g.Year) (plx tk_3 pk2 R R) R (bdO t0 fun v3 hv3 t0 => (wlc (cz1 Zxt R fun w hw => Zos w a_g.Members v0a (ra r0 hw) a_number a_g.Year hv3) R fun x4 => (mv R R (wlq (pex R R) R (wlq (pex R R) R (asg R R (asg R R (wnt (wcr (mv R R (mv R R (bdO t0 fun v4 hv4 t0 => (wlc (cz1 Zxz R fun w hw => Zqd w v3.1 x4 (Rg.on (rgo pz) hw) a_number 1 hv4) R fun x5 => (mv R R (wlq (pex R R) R (wlq (pex R R) R (asg R R (asg R R (wnt (wcr (wlq (pof ZdJ R) R (wlq (v := (sl v3a)) (plx Zhn pk4 R R) R (mv R R (wlq (Zl R (ZlT j2 0 1 20)) R (bdO t0 fun v5 hv5 t0 => (wlc (cz1 Zxn R fun w hw => ZpN w a_g.Books v3a (ra r3 hw) (GBooking.mk j2 0 1 20) hv5) R fun x6 => (mv R R (wlq (pex R R) R (wlq (pex R R) R (asg R R (asg R R (wnt (wcs ?_)))))))))))))))))))))))))))))))))))))))
 refine wcs (wcj (X := Unit) (fun _ => True) (fun _ => [(2, ptr b1 0), (4, ptr b2 0), (6, ptr b3 0), (10, (sl x5)), (12, (sl x6)), (71, .bool ((!v3.2) || ((!v4.2) || (!v5.2))))]) (fun _ => [box b3 [(sl x1.1), (sl x1.2.1), (sl x1.2.2.1), (sl x1.2.2.2.2), iv v1.Round, iv v1.Year], box b2 [(sl hn), (sl hn), (sl hn), (sl hn), iv 0, iv 0], box b1 [(sl v0a), (sl v1a), (sl v2a), (sl v3a), iv a_g.Round, iv a_g.Year], ownF (sl x5) v4.1, ownF (sl x6) v5.1, ownF (sl x1.1) v1.Members, ownF (sl x1.2.1) v1.Stock, own (sl x1.2.2.1) x1.2.2.2.1 v1.Entries, ownF (sl x1.2.2.2.2) v1.Books]) ?_ ?_)
 refine wcg (mv R R (wlq (Zd R) R (mv R R (Zae (t := 64) R (fun h4 => ?_) fun h4 => ?_))))
 exact wgf (j := 2) R R R R R (wgf (j := 2) R R R R R (wlq (pit R R) R (mv R R (wgf (j := 6) R R R R R (wgf (j := 6) R R R R R (wlq (pit R R) R (wln (wqm () trivial (yc R (yc R (yc R (yc R (yc R (ZS R (by rw [h4]; rfl) yn)))))) (zc pk3 (zc pk3 (zc pk3 (zc pk1 (zc pz (zc pk1 (zc pk1 (zc pk1 (zc pk1 zn)))))))))))))))))
 refine wgn (j := 2) R R R (mv R R (wgn (j := 2) R R R (wlq (Zd R) R (wlq (pif R R) R (mv R R (Zae (t := 68) R (fun h5 => ?_) fun h5 => ?_))))))
 exact wgf (j := 6) R R R R R (wgf (j := 6) R R R R R (wlq (pit R R) R (wln (wqm () trivial (yc R (yc R (yc R (yc R (yc R (ZS R (by rw [h4, h5]; rfl) yn)))))) (zc pk3 (zc pk3 (zc pk3 (zc pk1 (zc pz (zc pk1 (zc pk1 (zc pk1 (zc pk1 zn)))))))))))))
 exact wgn (j := 6) R R R (mv R R (wgn (j := 6) R R R (wlq (Zd R) R (wlq (pif R R) R (wln (wqm () trivial (yc R (yc R (yc R (yc R (yc R (ZS R (by rw [h4, h5]; rfl) yn)))))) (zc pk3 (zc pk3 (zc pk3 (zc pk1 (zc pz (zc pk1 (zc pk1 (zc pk1 (zc pk1 zn)))))))))))))))
 intro _ _
 refine wqt (wcO t0 R (fun h6 t0 => ?_) fun h6 t0 => ?_)
 refine wcr (wlq (v := .agg #[(sl x1.1), (sl x1.2.1), (sl x1.2.2.1), (sl x1.2.2.2.2), iv v1.Round, iv v1.Year]) (plb Zb pz R R R) R (wls (sbx (cs' := [(sl x1.1), (sl x1.2.1), (sl x1.2.2.1), (sl x1.2.2.2.2), iv v1.Round, iv v1.Year]) Zb pk1 R R R R R R R) (asg R R (wnt (wct (wqr ?_))))))
 obtain rfl := oi t0
 exact Zx R Zb R R pz R fun w hw => ⟨(x1.1, x1.2.1, x1.2.2.1, x1.2.2.2.1, x1.2.2.2.2), R, hw.weak (zc pk5 (zc pk5 (zc pk5 (zc pk5 zn))))⟩
 refine wck (wqt (wcr (wlq (v := .agg #[(sl v0a), (sl v1a), (sl v2a), (sl v3a), iv a_g.Round, iv a_g.Year]) (plb Zb pk2 R R R) R (bdO t0 fun v6 hv6 t0 => (wlc (Zan Zia R fun w hw => Za1 w a_g v0a (ra r0 hw) v1a (ra r1 hw) v2a u2a (ra r2 hw) v3a (ra r3 hw) hv6) R fun x8 => (wle (eal (cs := [(sl hn), (sl hn), (sl hn), (sl hn), iv 0, iv 0]) ZE) R fun b4 => (wls (sbx (cs' := [(sl x8.1), (sl x8.2.1), (sl x8.2.2.1), (sl x8.2.2.2.2), iv v6.Round, iv v6.Year]) Zb pz R R R R R R R) (wnt (wcr (mv R R (wlq (pof Zct R) R (wls (sbx (cs' := [(sl x5), (sl x8.2.1), (sl x8.2.2.1), (sl x8.2.2.2.2), iv v6.Round, iv v6.Year]) ZeK pz R R R R R R R) (wnt (wcr (mv R R (wlq (pof ZdJ R) R (wls (sbx (cs' := [(sl x5), (sl x8.2.1), (sl x8.2.2.1), (sl x6), iv v6.Round, iv v6.Year]) Zhn pz R R R R R R R) (wnt (wcs (wcr (wlq (v := .agg #[(sl x5), (sl x8.2.1), (sl x8.2.2.1), (sl x6), iv v6.Round, iv v6.Year]) (plb Zb pz R R R) R (bdO t0 fun v7 hv7 t0 => (wlc (cz0 Zhb R fun w hw => ZaB w (GGuild.mk v4.1 v6.Stock v6.Entries v5.1 v6.Round v6.Year) x5 (Rg.on (rgo pk8) hw) x8.2.1 (Rg.on (rgo pk2) hw) x8.2.2.1 x8.2.2.2.1 (Rg.on (rgo pk3) hw) x6 (Rg.on (rgo pk9) hw) hv7) R fun _ => (wlq (Zd R) R (wnt (wcO t0 R (fun h7 t0 => ?_) fun h7 t0 => ?_))))))))))))))))))))))))))
 refine wcr (wlq (v := .agg #[(sl x1.1), (sl x1.2.1), (sl x1.2.2.1), (sl x1.2.2.2.2), iv v1.Round, iv v1.Year]) (plb Zb pk5 R R R) R (wls (sbx (cs' := [(sl x1.1), (sl x1.2.1), (sl x1.2.2.1), (sl x1.2.2.2.2), iv v1.Round, iv v1.Year]) Zb pk6 R R R R R R R) (asg R R (wnt (wct (wqr ?_))))))
 obtain rfl := oi t0
 exact Zx R Zb R R pz R fun w hw => ⟨(x1.1, x1.2.1, x1.2.2.1, x1.2.2.2.1, x1.2.2.2.2), R, hw.weak (zc pk10 (zc pk10 (zc pk10 (zc pk10 zn))))⟩
 refine wck (wqt (wcr (wlq (v := .agg #[(sl x5), (sl x8.2.1), (sl x8.2.2.1), (sl x6), iv v6.Round, iv v6.Year]) (plb Zb pz R R R) R (wls (sbx (cs' := [(sl x5), (sl x8.2.1), (sl x8.2.2.1), (sl x6), iv v6.Round, iv v6.Year]) Zb pk6 R R R R R R R) (asg R R (wnt (wct ?_)))))))
 obtain rfl := oi t0
 exact Zx R Zb R R pz R fun w hw => ⟨(x5, x8.2.1, x8.2.2.1, x8.2.2.2.1, x6), R, hw.weak (zc pk8 (zc pk3 (zc pk3 (zc pk6 zn))))⟩

theorem Zmd (w : World)  {r : GGuild} (t0 : ZcN = some r) : Calls Tryz.prog 12 #[] w fun e w' => ∃ x : Hd × Hd × Hd × (List Value) × Hd, e = .returned (.agg #[(sl x.1), (sl x.2.1), (sl x.2.2.1), (sl x.2.2.2.2), .int .i64 r.Round, .int .i64 r.Year]) ∧ SH w [] [ownF (sl x.1) r.Members, ownF (sl x.2.1) r.Stock, own (sl x.2.2.1) x.2.2.2.1 r.Entries, ownF (sl x.2.2.2.2) r.Books] w' := by
 refine cwc (args := []) Tryz.func12 R Tryz.ntmps12 R ?_
 unfold ZcN at t0
 refine wcr (wle (eal (cs := [(sl hn), (sl hn), (sl hn), (sl hn), iv 0, iv 0]) ZE) R fun b1 => (wnt (wcr (bdO t0 fun v1 hv1 t0 => (wlc (Zan ZwX R fun w hw => Zo8 w 2020 hv1) R fun x1 => (mv R R (wlq (pex R R) R (wlq (pex R R) R (wle (eal (cs := [(sl hn), (sl hn), (sl hn), (sl hn), iv 0, iv 0]) ZE) R fun b2 => (wls (sbx (cs' := [(sl x1.1), (sl x1.2.1), (sl x1.2.2.1), (sl x1.2.2.2.2), iv v1.1.Round, iv v1.1.Year]) Zb pz R R R R R R R) (asg R R (wnt (wcs (wcr (asg R R (wnt (Zn t0 fun y1 l1 t0 => (wj (J := (List GMember) × (List Int) × (List GEntry) × (List GBooking) × Int × Int) (X := Hd × Hd × Hd × (List Value) × Hd) (fun z => y1 = z) (fun _ _ => [(0, ptr b1 0), (1, ptr b2 0)]) (fun z x => [box b2 [(sl x.1), (sl x.2.1), (sl x.2.2.1), (sl x.2.2.2.2), iv z.2.2.2.2.1, iv z.2.2.2.2.2], ownF (sl x.1) z.1, ownF (sl x.2.1) z.2.1, own (sl x.2.2.1) x.2.2.2.1 z.2.2.1, ownF (sl x.2.2.2.2) z.2.2.2.1, box b1 [(sl hn), (sl hn), (sl hn), (sl hn), iv 0, iv 0]]) ?_ ?_))))))))))))))))))
 refine wcb (wcf (X := Hd × Hd × Hd × (List Value) × Hd) l1 (fun k1 s1 x1l => [(0, ptr b1 0), (1, ptr b2 0), (3, iv (((k1 + 1) : Nat) : Int))]) (fun k1 s1 x1l => [box b2 [(sl x1l.1), (sl x1l.2.1), (sl x1l.2.2.1), (sl x1l.2.2.2.2), iv s1.2.2.2.2.1, iv s1.2.2.2.2.2], ownF (sl x1l.1) s1.1, ownF (sl x1l.2.1) s1.2.1, own (sl x1l.2.2.1) x1l.2.2.2.1 s1.2.2.1, ownF (sl x1l.2.2.2.2) s1.2.2.2.1, box b1 [(sl hn), (sl hn), (sl hn), (sl hn), iv 0, iv 0]]) (x1.1, x1.2.1, x1.2.2.1, x1.2.2.2.1, x1.2.2.2.2) (su3 R R R) so6 fun k1 s1 x1l hN1 l1 => ?_)
 by_cases hk1 : k1 < 3
 refine fos l1 hk1 fun _ t1 l1 => ?_
 unfold Zgf at t1
 have c1 : (decide ((((k1 + 1) : Nat) : Int) ≤ 3)) = true := ddt (by omega)
 refine wcs (wcr (mv R R (wlq (ZbQ R R) R (wnt (wft R c1 (wck (wqt (wcs (wcb (wcg (wlq (v := .agg #[(sl x1l.1), (sl x1l.2.1), (sl x1l.2.2.1), (sl x1l.2.2.2.2), iv s1.2.2.2.2.1, iv s1.2.2.2.2.2]) (plb Zb pz R R R) R (mv R R (bdO t1 fun v2 hv2 t1 => (wlc (Zan Zu4 R fun w hw => Zmr w (GGuild.mk s1.1 s1.2.1 s1.2.2.1 s1.2.2.2.1 s1.2.2.2.2.1 s1.2.2.2.2.2) x1l.1 (Rg.on (rgo pk1) hw) x1l.2.1 (Rg.on (rgo pk2) hw) x1l.2.2.1 x1l.2.2.2.1 (Rg.on (rgo pk3) hw) x1l.2.2.2.2 (Rg.on (rgo pk4) hw) (((k1 + 1) : Nat) : Int) hv2) R fun x3 => (mv R R (wlq (pex R R) R (wlq (pex R R) R (wls (sbx (cs' := [(sl x3.1), (sl x3.2.1), (sl x3.2.2.1), (sl x3.2.2.2.2), iv v2.1.Round, iv v2.1.Year]) Zb pk4 R R R R R R R) (wln (wqb (wqt (wcg (mv R R (wlq (Zj R R (by omega)) R ?_))))))))))))))))))))))))
 exact asg R R (wln (Zk hk1 (stpN l1 t1) (x3.1, x3.2.1, x3.2.2.1, x3.2.2.2.1, x3.2.2.2.2) (su3 R R R) (zc pz (zc pz (zc pz (zc pz (zc pz (zc pk4 zn))))))))
 have c1 : (decide ((((k1 + 1) : Nat) : Int) ≤ 3)) = false := ddf (by omega)
 have en1 := foe l1 hk1
 exact wcs (wcr (mv R R (wlq (ZbQ R R) R (wnt (wff R c1 (wcx (wqe (wqe (wbx (wjm _ (x1l.1, x1l.2.1, x1l.2.2.1, x1l.2.2.2.1, x1l.2.2.2.2) (Sum.inl.inj en1) (su2 R R) so6))))))))))
 intro e1 x2 hp
 obtain rfl : e1 = y1 := hp.symm
 refine wqt (wcr (wlq (v := .agg #[(sl x2.1), (sl x2.2.1), (sl x2.2.2.1), (sl x2.2.2.2.2), iv e1.2.2.2.2.1, iv e1.2.2.2.2.2]) (plb Zb pz R R R) R (wls (sbx (cs' := [(sl x2.1), (sl x2.2.1), (sl x2.2.2.1), (sl x2.2.2.2.2), iv e1.2.2.2.2.1, iv e1.2.2.2.2.2]) Zb pk5 R R R R R R R) (wnt (wct ?_)))))
 obtain rfl := oi t0
 exact wqc R Zb R pz R fun w hw => ⟨(x2.1, x2.2.1, x2.2.2.1, x2.2.2.2.1, x2.2.2.2.2), R, hw.weak (zc pk2 (zc pk2 (zc pk2 (zc pk2 zn))))⟩

theorem ZhQ (w : World) (a_a : Int) {r : GCell} (t0 : ZcV a_a = some r) : Calls Tryz.prog 103 #[.int .i64 a_a] w fun e w' => e = .returned (.agg #[.int .i64 r.Split, .int .i64 r.A, .int .i64 r.B]) ∧ SH w [] [] w' := by
 refine cwc (args := [_]) Tryz.func103 R Tryz.ntmps103 R ?_
 unfold ZcV at t0
 refine wcr (wle (eal (cs := [iv 0, iv 0, iv 0]) Zb8) R fun b1 => (wnt (wcs (wcr (mv R R (bdO t0 fun v1 hv1 t0 => (wlc (cz0 Zbb R fun w hw => ZF w a_a 0 5 hv1) R fun _ => (wlq (Zd R) R (wnt (wcO t0 R (fun h1 t0 => ?_) fun h1 t0 => ?_))))))))))
 refine wcr (wlq (Zl R Ziq) R (wls (sbx (cs' := [iv 0, iv 0, iv 0]) Zh pz R R R R R R R) (wnt (wct (wqr ?_)))))
 obtain rfl := oi t0
 exact wqc R Zh R pz R fun w hw => ⟨R, hw.weak zn⟩
 refine wck (wqt (wcr (mv R R (mv R R (wlq (Zl R (Zqx a_a a_a)) R (wls (sbx (cs' := [iv 0, iv a_a, iv a_a]) Zh pz R R R R R R R) (wnt (wct ?_))))))))
 obtain rfl := oi t0
 exact wqc R Zh R pz R fun w hw => ⟨R, hw.weak zn⟩

theorem ZnS (w : World)  {r : GBlock} (t0 : Zhl = some r) : Calls Tryz.prog 102 #[] w fun e w' => ∃ x : Hd, e = .returned (.agg #[.int .i64 r.Size, (sl x)]) ∧ SH w [] [ownF (sl x) r.Cells] w' := by
 refine cwc (args := []) Tryz.func102 R Tryz.ntmps102 R ?_
 unfold Zhl at t0
 refine wcr (wle (eal (cs := [iv 0, (sl hn)]) Zau) R fun b1 => (wnt (wcr (bdO t0 fun v1 hv1 t0 => (wlc (cz0 Zrh R fun w hw => ZhQ w 1 hv1) R fun _ => (wle (eal (cs := [iv 0, iv 0, iv 0]) Zb8) R fun b2 => (wls (sbx (cs' := [iv v1.Split, iv v1.A, iv v1.B]) Zh pz R R R R R R R) (wnt (wcr (wlq (Zl R (Zbx 1 0 1)) R (wlq (v := .agg #[iv v1.Split, iv v1.A, iv v1.B]) (plb Zh pz R R R) R (wlq (Zl R (Zbx 2 1 0)) R (wlq (v := .agg #[iv v1.Split, iv v1.A, iv v1.B]) (plb Zh pz R R R) R (wlq (v := .agg #[iv v1.Split, iv v1.A, iv v1.B]) (plb Zh pz R R R) R (wlq (v := .agg #[iv v1.Split, iv v1.A, iv v1.B]) (plb Zh pz R R R) R (wlq (Zl R (Zbx 2 0 1)) R (wlq (v := .agg #[iv v1.Split, iv v1.A, iv v1.B]) (plb Zh pz R R R) R (wlq (Zl R (Zbx 1 1 0)) R (wle (ebs (qs := [(0, .agg #[iv 1, iv 0, iv 1]), (1, .agg #[iv v1.Split, iv v1.A, iv v1.B]), (2, .agg #[iv 2, iv 1, iv 0]), (3, .agg #[iv v1.Split, iv v1.A, iv v1.B]), (4, .agg #[iv v1.Split, iv v1.A, iv v1.B]), (5, .agg #[iv v1.Split, iv v1.A, iv v1.B]), (6, .agg #[iv 2, iv 0, iv 1]), (7, .agg #[iv v1.Split, iv v1.A, iv v1.B]), (8, .agg #[iv 1, iv 1, iv 0])]) R (Zsv 1 0 1 v1.Split v1.A v1.B 2 1 0 v1.Split v1.A v1.B v1.Split v1.A v1.B v1.Split v1.A v1.B 2 0 1 v1.Split v1.A v1.B 1 1 0)) R fun b3 => (wlq (Zl R (Zkh 3 (⟨some ⟨b3, 0, none⟩, 9, 9⟩ : Hd))) R (wls (sbx (cs' := [iv 3, (sl (⟨some ⟨b3, 0, none⟩, 9, 9⟩ : Hd))]) Zc pk2 R R R R R R R) (wnt (wct ?_)))))))))))))))))))))))
 obtain rfl := oi t0
 exact wqc R Zc R pz R fun w hw => ⟨(⟨some ⟨b3, 0, none⟩, 9, 9⟩ : Hd), R, hw.weak (zc (pbo pk1 (n := 9) (xs := ([(GCell.mk 1 0 1), v1, (GCell.mk 2 1 0), v1, v1, v1, (GCell.mk 2 0 1), v1, (GCell.mk 1 1 0)] : List GCell)) R R (by unfold maxLen; omega)) zn)⟩

theorem ZjJ (w : World) (a_split : Int) (a_a : Int) (a_b : Int) {r : GCell} (t0 : ZdH a_split a_a a_b = some r) : Calls Tryz.prog 104 #[.int .i64 a_split, .int .i64 a_a, .int .i64 a_b] w fun e w' => e = .returned (.agg #[.int .i64 r.Split, .int .i64 r.A, .int .i64 r.B]) ∧ SH w [] [] w' := by
 refine cwc (args := [_, _, _]) Tryz.func104 R Tryz.ntmps104 R ?_
 unfold ZdH at t0
 refine wcr (wle (eal (cs := [iv 0, iv 0, iv 0]) Zb8) R fun b1 => (wnt (wcs (wcr (mv R R (mv R R (wlq (pol R R) R (wnt (wcO t0 R (fun h1 t0 => ?_) fun h1 t0 => ?_)))))))))
 refine wcr (mv R R (bdO t0 fun v1 hv1 t0 => (wlc (cz0 Zrh R fun w hw => ZhQ w a_a hv1) R fun _ => (wls (sbx (cs' := [iv v1.Split, iv v1.A, iv v1.B]) Zh pz R R R R R R R) (wnt (wct (wqr ?_)))))))
 obtain rfl := oi t0
 exact wqc R Zh R pz R fun w hw => ⟨R, hw.weak zn⟩
 refine wck (wqt (wcr (mv R R (mv R R (mv R R (wlq (Zl R (Zbx a_split a_a a_b)) R (wle (eal (cs := [iv 0, iv 0, iv 0]) Zb8) R fun b2 => (wls (sbx (cs' := [iv a_split, iv a_a, iv a_b]) Zh pz R R R R R R R) (wnt (wcs (wcr (wlq (v := .agg #[iv a_split, iv a_a, iv a_b]) (plb Zh pz R R R) R (bdO t0 fun v2 hv2 t0 => (wlc (cz0 ZiV R fun w hw => Zcy w (GCell.mk a_split a_a a_b) hv2) R fun _ => (wlq (Zd R) R (wnt (wcO t0 R (fun h2 t0 => ?_) fun h2 t0 => ?_)))))))))))))))))
 refine wcr (wlq (Zl R Ziq) R (wls (sbx (cs' := [iv 0, iv 0, iv 0]) Zh pk1 R R R R R R R) (wnt (wct (wqr ?_)))))
 obtain rfl := oi t0
 exact wqc R Zh R pz R fun w hw => ⟨R, hw.weak zn⟩
 refine wck (wqt (wcr (wlq (v := .agg #[iv a_split, iv a_a, iv a_b]) (plb Zh pz R R R) R (wls (sbx (cs' := [iv a_split, iv a_a, iv a_b]) Zh pk1 R R R R R R R) (wnt (wct ?_))))))
 obtain rfl := oi t0
 exact wqc R Zh R pz R fun w hw => ⟨R, hw.weak zn⟩

theorem Zmc (w : World) (a_n : Int) {r : GBlock} (t0 : ZdQ a_n = some r) : Calls Tryz.prog 57 #[.int .i64 a_n] w fun e w' => ∃ x : Hd, e = .returned (.agg #[.int .i64 r.Size, (sl x)]) ∧ SH w [] [ownF (sl x) r.Cells] w' := by
 refine cwc (args := [_]) Tryz.func57 R Tryz.ntmps57 R ?_
 unfold ZdQ at t0
 refine wcr (wle (eal (cs := [iv 0, (sl hn)]) Zau) R fun b1 => (wnt (wcs (wcr (mv R R (wlq (pol R R) R (wnt (wcO t0 R (fun h1 t0 => ?_) fun h1 t0 => ?_))))))))
 refine wcr (bdO t0 fun v1 hv1 t0 => (wlc (cz1 ZvQ R fun w hw => ZnS w hv1) R fun x1 => (wls (sbx (cs' := [iv v1.Size, (sl x1)]) Zc pk1 R R R R R R R) (wnt (wct (wqr ?_))))))
 obtain rfl := oi t0
 exact wqc R Zc R pz R fun w hw => ⟨x1, R, hw.weak (zc pk1 zn)⟩
 refine wck (wqt (wcs (wcr (mv R R (bdO t0 fun v2 hv2 t0 => (wlc (cz0 Zbb R fun w hw => ZF w a_n 1 9 hv2) R fun _ => (wlq (Zd R) R (wnt (wcO t0 R (fun h2 t0 => ?_) fun h2 t0 => ?_)))))))))
 refine wcr (wlq (Zl R Zik) R (wls (sbx (cs' := [iv 0, (sl hn)]) Zc pz R R R R R R R) (wnt (wct (wqr ?_)))))
 obtain rfl := oi t0
 exact wqc R Zc R pz R fun w hw => ⟨hn, R, hw.weak (zc ZC zn)⟩
 refine wck (wqt (wcr (wlq (Zl R (ZkK 2)) R (wle (eal (cs := [iv 0, (sl hn)]) Zau) R fun b2 => (wls (sbx (cs' := [iv 2, (sl hn)]) Zc pz R R R R R R R) (wnt (wcs (wcr (asg R R (wnt (Zn t0 fun y1 l1 t0 => (wj (J := List GCell) (X := Hd) (fun z => y1 = z) (fun _ _ => [(2, ptr b1 0), (3, ptr b2 0)]) (fun z x => [box b2 [iv 2, (sl x)], box b1 [iv 0, (sl hn)], ownF (sl x) z]) ?_ ?_))))))))))))
 refine wcb (wcf (X := Hd) l1 (fun k1 s1 x1l => [(0, iv a_n), (2, ptr b1 0), (3, ptr b2 0), (4, iv ((k1 : Nat) : Int))]) (fun k1 s1 x1l => [box b2 [iv 2, (sl x1l)], box b1 [iv 0, (sl hn)], ownF (sl x1l) s1]) hn (su4 R R R R) (zc pz (zc pz (zc ZC zn))) fun k1 s1 x1l hN1 l1 => ?_)
 by_cases hk1 : k1 < 4
 refine fos l1 hk1 fun _ t1 l1 => ?_
 unfold Ziy at t1
 have c1 : (decide (((k1 : Nat) : Int) < 4)) = true := ddt (by omega)
 refine wcs (wcr (mv R R (wlq (pls R R) R (wnt (wft R c1 (wck (wqt (wcs (wcb (wcr (mv R R (wlq (Zi1 R R (by decide)) R ?_))))))))))))
 refine wlq (Zaf R R) R (bdO t1 fun v3 hv3 t1 => (wlc (cz0 Zrh R fun w hw => ZhQ w (wr ((wr (a_n.tdiv 5)) + 1)) hv3) R fun _ => (wle (eal (cs := [iv 0, iv 0, iv 0]) Zb8) R fun b3 => (wls (sbx (cs' := [iv v3.Split, iv v3.A, iv v3.B]) Zh pz R R R R R R R) (wnt (wcs (wcr (mv R R (mv R R (wlq (ZhA R R (by decide)) R ?_))))))))))
 refine wlq (pls R R) R (wnt (bdO t1 fun y2 t2 t1 => (wj (J := GCell) (X := Unit) (fun z => y2 = z) (fun _ _ => [(0, iv a_n), (2, ptr b1 0), (3, ptr b2 0), (4, iv ((k1 : Nat) : Int)), (5, ptr b3 0)]) (fun z _ => [box b3 [iv ((z).Split), iv ((z).A), iv ((z).B)], box b2 [iv 2, (sl x1l)], box b1 [iv 0, (sl hn)], ownF (sl x1l) s1]) ?_ ?_)))
 refine wcO t2 R (fun h3 t2 => ?_) fun h3 t2 => ?_
 exact wcg (bdO t2 fun v4 hv4 t2 => (wlc (cz0 ZtW R fun w hw => ZjJ w 1 0 1 hv4) R fun _ => (wls (sbx (cs' := [iv v4.Split, iv v4.A, iv v4.B]) Zh pz R R R R R R R) (wln (wjm _ () (mtE t2) (su5 R R R R R) so4)))))
 exact wck (wjm _ () (mtE t2) (su5 R R R R R) so4)
 intro j1 _ hp
 obtain rfl : j1 = y2 := hp.symm
 refine wqt (wcg (wlq (pof Zv R) R (wlq (v := (sl x1l)) (plx ZN pk1 R R) R (wlq (v := .agg #[iv ((j1).Split), iv ((j1).A), iv ((j1).B)]) (plb Zh pz R R R) R (wle (ebs R (ZkW ((j1).Split) ((j1).A) ((j1).B))) R fun b4 => (gdO t1 fun g1 t1 => (wle (Zf (xs := s1) (ys := ([(j1)] : List GCell)) Zk8 pk4 R R (Zi fun _ g => Rg.on (rgo (pbo pz (n := 1) (xs := ([(j1)] : List GCell)) R R (by unfold maxLen; omega))) g) g1) R fun x4 => ?_)))))))
 refine wlq (pof Zv R) R (wls (sbx (cs' := [iv 2, (sl x4)]) ZN pk3 R R R R R R R) (wln (wqb (wqt (wcg (mv R R (wlq (Zj R R (by omega)) R ?_)))))))
 exact asg R R (wln (Zk hk1 (stpN l1 t1) x4 (su4 R R R R) (zc pz (zc pk3 so1))))
 have c1 : (decide (((k1 : Nat) : Int) < 4)) = false := ddf (by omega)
 have en1 := foe l1 hk1
 exact wcs (wcr (mv R R (wlq (pls R R) R (wnt (wff R c1 (wcx (wqe (wqe (wbx (wjm _ x1l (Sum.inl.inj en1) (su2 R R) so3))))))))))
 intro e1 x2 hp
 obtain rfl : e1 = y1 := hp.symm
 refine wqt (wcr (wlq (v := .agg #[iv 2, (sl x2)]) (plb Zc pz R R R) R (wls (sbx (cs' := [iv 2, (sl x2)]) Zc pk1 R R R R R R R) (wnt (wct ?_)))))
 obtain rfl := oi t0
 exact wqc R Zc R pz R fun w hw => ⟨x2, R, hw.weak (zc pk2 zn)⟩

theorem Zj9 (w : World) (a_b : GBlock) (v0a : Hd) (r0 : rdF w (dm w []) (sl v0a) a_b.Cells) {r : List Int} (t0 : ZfK a_b = some r) : Calls Tryz.prog 196 #[.agg #[.int .i64 a_b.Size, (sl v0a)]] w fun e w' => ∃ x : Hd, e = .returned ((sl x)) ∧ SH w [] [ownF (sl x) r] w' := by
 refine cwc (args := [_]) Tryz.func196 R Tryz.ntmps196 R ?_
 unfold ZfK at t0
 refine wcr (wle (Zg R R) R fun b1 => (asg R R (wnt (wcs (wcr (wlq (v := .agg #[iv a_b.Size, (sl v0a)]) (plb Zc pz R R R) R (bdO t0 fun v1 hv1 t0 => (wlc (cz0 ZeH R fun w hw => Zag w a_b v0a (ra r0 hw) hv1) R fun _ => (wlq (Zd R) R (wnt (wcO t0 R (fun h1 t0 => ?_) fun h1 t0 => ?_)))))))))))
 refine wcr (wle (ebs R Zai) R fun b2 => (asg R R (wnt (wct (wqr ?_)))))
 obtain rfl := oi t0
 exact wq1 R R fun w hw => ⟨(⟨some ⟨b2, 0, none⟩, 0, 0⟩ : Hd), R, hw.weak (zc (pbo pz (n := 0) (xs := ([] : List Int)) R R (by unfold maxLen; omega)) zn)⟩
 refine wck (wqt (wcr (wle (ebs R Zai) R fun b3 => (asg R R (wnt (wcs (wcr (asg R R (wnt (Zn t0 fun y1 l1 t0 => (wj (J := List Int) (X := Hd) (fun z => y1 = z) (fun _ x => [(1, ptr b1 0), (3, (sl x))]) (fun z x => [box b1 [iv a_b.Size, (sl v0a)], ownF (sl x) z]) ?_ ?_)))))))))))
 refine wcb (wcf (X := Hd) l1 (fun k1 s1 x1l => [(1, ptr b1 0), (3, (sl x1l)), (4, iv ((k1 : Nat) : Int))]) (fun k1 s1 x1l => [box b1 [iv a_b.Size, (sl v0a)], ownF (sl x1l) s1]) (⟨some ⟨b3, 0, none⟩, 0, 0⟩ : Hd) (su3 R R R) (zc pk1 (zc (pbo pz (n := 0) (xs := ([] : List Int)) R R (by unfold maxLen; omega)) zn)) fun k1 s1 x1l hN1 l1 => ?_)
 by_cases hk1 : k1 < 6
 refine fos l1 hk1 fun _ t1 l1 => ?_
 unfold ZhJ at t1
 have c1 : (decide (((k1 : Nat) : Int) < 6)) = true := ddt (by omega)
 refine wcs (wcr (mv R R (wlq (pls R R) R (wnt (wft R c1 (wck (wqt (wcs (wcb (wcg (mv R R (wle (ebs R (ZaA (-1))) R fun b4 => (gdO t1 fun g1 t1 => (wle (Zf (xs := s1) (ys := ([(-1)] : List Int)) Zbp pk2 R R (Zi fun _ g => Rg.on (rgo (pbo pz (n := 1) (xs := ([(-1)] : List Int)) R R (by unfold maxLen; omega))) g) g1) R fun x2 => ?_))))))))))))))
 refine asg R R (wln (wqb (wqt (wcg (mv R R (wlq (Zj R R (by omega)) R ?_))))))
 exact asg R R (wln (Zk hk1 (stpN l1 t1) x2 (su3 R R R) (zc pk2 so1)))
 have c1 : (decide (((k1 : Nat) : Int) < 6)) = false := ddf (by omega)
 have en1 := foe l1 hk1
 exact wcs (wcr (mv R R (wlq (pls R R) R (wnt (wff R c1 (wcx (wqe (wqe (wbx (wjm _ x1l (Sum.inl.inj en1) (su2 R R) so2))))))))))
 intro e1 x1 hp
 obtain rfl : e1 = y1 := hp.symm
 refine wqt (wcr (asg R R (wnt (wcs (wcr (asg R R (wnt (gdO t0 fun g2 t0 => (Zn t0 fun y1 l1 t0 => (wj (J := (List Int) × Int) (X := Unit) (fun z => y1 = z) (fun z _ => [(3, (sl x1)), (5, iv z.2)]) (fun z _ => [ownF (sl x1) z.1]) ?_ ?_))))))))))
 refine wcb (wcf (X := Unit) l1 (fun k2 s2 x2l => [(1, ptr b1 0), (3, (sl x1)), (5, iv s2.2), (6, iv ((k2 : Nat) : Int))]) (fun k2 s2 x2l => [box b1 [iv a_b.Size, (sl v0a)], ownF (sl x1) s2.1]) () (su4 R R R R) so2 fun k2 s2 x2l hN2 l1 => ?_)
 by_cases hk2 : k2 < ((wr (2 * ((a_b.Cells.length : Nat) : Int)))).toNat
 refine fos l1 hk2 fun _ t1 l1 => ?_
 unfold Zfw at t1
 have c2 : (decide (((k2 : Nat) : Int) < (wr (2 * ((a_b.Cells.length : Nat) : Int))))) = true := ddt (by omega)
 refine wcs (wcr (mv R R (wlq (pof Zv R) R (wlq (v := (sl v0a)) (plx ZN pz R R) R (wlq (pln (rga r0) ZU R) R (wlq (Zex R R) R (wlq (pls R R) R (wnt (wft R c2 (wck (wqt (wcs (wcb (wcr (wlq (pof Zv R) R (wlq (v := (sl v0a)) (plx ZN pz R R) R (mv R R (wlq (Zi1 R R (by decide)) R ?_))))))))))))))))))
 refine gdO t1 fun g3 t1 => wlq (ZX (rga r0) ZU R R g3.1 g3.2) R (wlq (Z5 (rga r0) (ZD g3) ZaT R) R (wlq (v := iv ((gx a_b.Cells (((wr (((k2 : Nat) : Int).tdiv 2))).toNat)).A)) (Zw (rga r0) tk_3 R (ZD g3) R) R (asg R R (wnt (wcs (wcr (mv R R (wlq (ZhA R R (by decide)) R ?_))))))))
 refine wlq (pol R R) R (wnt (wcj (X := Unit) (fun _ => True) (fun _ => [(1, ptr b1 0), (3, (sl x1)), (5, iv s2.2), (6, iv ((k2 : Nat) : Int)), (7, iv (bif ((((k2 : Nat) : Int).tmod 2) == 1) then (gx a_b.Cells (((wr (((k2 : Nat) : Int).tdiv 2))).toNat)).B else (gx a_b.Cells (((wr (((k2 : Nat) : Int).tdiv 2))).toNat)).A))]) (fun _ => [box b1 [iv a_b.Size, (sl v0a)], ownF (sl x1) s2.1]) ?_ ?_))
 refine Zbn R (fun h2 => ?_) fun h2 => ?_
 refine wcg (wlq (pof Zv R) R (wlq (v := (sl v0a)) (plx ZN pz R R) R (mv R R (wlq (Zi1 R R (by decide)) R ?_))))
 exact wlq (ZX (rga r0) ZU R R g3.1 g3.2) R (wlq (Z5 (rga r0) (ZD g3) Za6 R) R (wlq (v := iv ((gx a_b.Cells (((wr (((k2 : Nat) : Int).tdiv 2))).toNat)).B)) (Zw (rga r0) tk_3 R (ZD g3) R) R (asg R R (wln (wqm () trivial (yc R (yc R (yc R (yc R (Zee R (by simp only [h2, cond_true]) yn))))) so2)))))
 exact wck (wqm () trivial (yc R (yc R (yc R (yc R (Zee R (by simp only [h2, cond_false]) yn))))) so2)
 intro _ _
 refine wqt (wcr (mv R R (mv R R (gdO t1 fun g4 t1 => (wlq (ZX (rgo pk1) Zy R R g4.1 g4.2) R (wlq (v := iv (gx s2.1 (((bif ((((k2 : Nat) : Int).tmod 2) == 1) then (gx a_b.Cells (((wr (((k2 : Nat) : Int).tdiv 2))).toNat)).B else (gx a_b.Cells (((wr (((k2 : Nat) : Int).tdiv 2))).toNat)).A)).toNat))) (Zw (rgo pk1) tk_3 R (ZD g4) R) R (wlq (pls R R) R (wnt (wcj (X := Unit) (fun _ => True) (fun _ => [(1, ptr b1 0), (3, (sl x1)), (5, iv (bif (decide ((gx s2.1 (((bif ((((k2 : Nat) : Int).tmod 2) == 1) then (gx a_b.Cells (((wr (((k2 : Nat) : Int).tdiv 2))).toNat)).B else (gx a_b.Cells (((wr (((k2 : Nat) : Int).tdiv 2))).toNat)).A)).toNat)) < 0)) then (wr (s2.2 + 1)) else s2.2)), (6, iv ((k2 : Nat) : Int))]) (fun _ => [box b1 [iv a_b.Size, (sl v0a)], ownF (sl x1) (bif (decide ((gx s2.1 (((bif ((((k2 : Nat) : Int).tmod 2) == 1) then (gx a_b.Cells (((wr (((k2 : Nat) : Int).tdiv 2))).toNat)).B else (gx a_b.Cells (((wr (((k2 : Nat) : Int).tdiv 2))).toNat)).A)).toNat)) < 0)) then (s2.1.set (((bif ((((k2 : Nat) : Int).tmod 2) == 1) then (gx a_b.Cells (((wr (((k2 : Nat) : Int).tdiv 2))).toNat)).B else (gx a_b.Cells (((wr (((k2 : Nat) : Int).tdiv 2))).toNat)).A)).toNat) s2.2) else s2.1)]) ?_ ?_)))))))))
 refine Zbn R (fun h3 => ?_) fun h3 => ?_
 exact wcr (mv R R (mv R R (mv R R (wlq (ZX (rgo pk1) Zy R R g4.1 g4.2) R (wls (Zhx (x' := s2.2) tk_3 pk1 R R R R R R (ZD g4) R) (wnt (wcg (mv R R (wlq (Zaf R R) R (asg R R (wln (wqm () trivial (yc R (yc R (Zee R (by simp only [h3, cond_true]) (su1 R)))) (zc pk1 (zc (by simp only [h3, cond_true]; exact pz) zn))))))))))))))
 exact wck (wqm () trivial (yc R (yc R (Zee R (by simp only [h3, cond_false]) (su1 R)))) (zc pz (zc (by simp only [h3, cond_false]; exact pz) zn)))
 intro _ _
 refine wqb (wqt (wcg (mv R R (wlq (Zj R R (by omega)) R ?_))))
 exact asg R R (wln (Zk hk2 (stpN l1 t1) () (su4 R R R R) so2))
 have c2 : (decide (((k2 : Nat) : Int) < (wr (2 * ((a_b.Cells.length : Nat) : Int))))) = false := ddf (by omega)
 have en2 := foe l1 hk2
 exact wcs (wcr (mv R R (wlq (pof Zv R) R (wlq (v := (sl v0a)) (plx ZN pz R R) R (wlq (pln (rga r0) ZU R) R (wlq (Zex R R) R (wlq (pls R R) R (wnt (wff R c2 (wcx (wqe (wqe (wbx (wjm _ () (Sum.inl.inj en2) (su2 R R) (zc pk1 zn)))))))))))))))
 intro e2 _ hp
 obtain rfl : e2 = y1 := hp.symm
 refine wqt (wcs (wcr (asg R R (wnt (Zn t0 fun y1 l1 t0 => (wj (J := (List Int) × Int) (X := Unit) (fun z => y1 = z) (fun _ _ => [(3, (sl x1))]) (fun z _ => [ownF (sl x1) z.1]) ?_ ?_))))))
 refine wcb (wcf (X := Unit) l1 (fun k3 s3 x3l => [(3, (sl x1)), (5, iv s3.2), (8, iv ((k3 : Nat) : Int))]) (fun k3 s3 x3l => [ownF (sl x1) s3.1]) () (su3 R R R) so1 fun k3 s3 x3l hN3 l1 => ?_)
 by_cases hk3 : k3 < 6
 refine fos l1 hk3 fun _ t1 l1 => ?_
 unfold ZfE at t1
 have c3 : (decide (((k3 : Nat) : Int) < 6)) = true := ddt (by omega)
 refine wcs (wcr (mv R R (wlq (pls R R) R (wnt (wft R c3 (wck (wqt (wcs (wcb (wcr (mv R R (mv R R (gdO t1 fun g5 t1 => (wlq (Zm (k := k3) (rgo pz) Zy R R g5) R (wlq (v := iv (gx s3.1 k3)) (Zw (rgo pz) tk_3 R g5 R) R (wlq (pls R R) R (wnt (wcj (X := Unit) (fun _ => True) (fun _ => [(3, (sl x1)), (5, iv (bif (decide ((gx s3.1 k3) < 0)) then (wr (s3.2 + 1)) else s3.2)), (8, iv ((k3 : Nat) : Int))]) (fun _ => [ownF (sl x1) (bif (decide ((gx s3.1 k3) < 0)) then (s3.1.set k3 s3.2) else s3.1)]) ?_ ?_))))))))))))))))))
 refine Zbn R (fun h4 => ?_) fun h4 => ?_
 exact wcr (mv R R (mv R R (mv R R (wlq (Zm (k := k3) (rgo pz) Zy R R g5) R (wls (Zhx (x' := s3.2) tk_3 pz R R R R R R g5 R) (wnt (wcg (mv R R (wlq (Zaf R R) R (asg R R (wln (wqm () trivial (yc R (Zee R (by simp only [h4, cond_true]) (su1 R))) (zc (by simp only [h4, cond_true]; exact pz) zn)))))))))))))
 exact wck (wqm () trivial (yc R (Zee R (by simp only [h4, cond_false]) (su1 R))) (zc (by simp only [h4, cond_false]; exact pz) zn))
 intro _ _
 refine wqb (wqt (wcg (mv R R (wlq (Zj R R (by omega)) R ?_))))
 exact asg R R (wln (Zk hk3 (stpN l1 t1) () (su3 R R R) so1))
 have c3 : (decide (((k3 : Nat) : Int) < 6)) = false := ddf (by omega)
 have en3 := foe l1 hk3
 exact wcs (wcr (mv R R (wlq (pls R R) R (wnt (wff R c3 (wcx (wqe (wqe (wbx (wjm _ () (Sum.inl.inj en3) (su1 R) so1))))))))))
 intro e3 _ hp
 obtain rfl : e3 = y1 := hp.symm
 refine wqt (wcr (mv R R (asg R R (wnt (wct ?_)))))
 obtain rfl := oi t0
 exact wq1 R R fun w hw => ⟨x1, R, hw.weak so1⟩

theorem ZlR (w : World) (a_l : List Int) (v0a : Hd) (r0 : rdF w (dm w []) (sl v0a) a_l) {r : Bool} (t0 : Zf5 a_l = some r) : Calls Tryz.prog 206 #[(sl v0a)] w fun e w' => e = .returned (.bool r) ∧ SH w [] [] w' := by
 refine cwc (args := [_]) Tryz.func206 R Tryz.ntmps206 R ?_
 unfold Zf5 at t0
 refine wcr (asg R R (wnt (wcs (wcr (asg R R (wnt (gdO t0 fun g1 t0 => (sqO t0 fun y1 l1 t0 => (wj (J := Unit) (X := Unit) (fun z => y1 = .inl z) (fun _ _ => [(0, (sl v0a))]) (fun _ _ => []) ?_ ?_)))))))))
 refine wcb (wcf (X := Unit) l1 (fun k1 s1 x1l => [(0, (sl v0a)), (3, iv ((k1 : Nat) : Int))]) (fun k1 s1 x1l => []) () (su2 R R) zn fun k1 s1 x1l hN1 l1 => ?_)
 by_cases hk1 : k1 < a_l.length
 refine fos l1 hk1 fun _ t1 l1 => ?_
 unfold Zha at t1
 have c1 : (decide (((k1 : Nat) : Int) < ((a_l.length : Nat) : Int))) = true := ddt (by omega)
 refine wcs (wcr (mv R R (mv R R (wlq (pln (rga r0) Zy R) R (wlq (pls R R) R (wnt (wft R c1 (wck (wqt (wcs (wcb (wcr (mv R R (mv R R (wlq (Zm (k := k1) (rga r0) Zy R R hk1) R (wlq (v := iv (gx a_l k1)) (Zw (rga r0) tk_3 R hk1 R) R (bdO t1 fun v1 hv1 t1 => (wlc (cz0 Zbb R fun w hw => ZF w (gx a_l k1) 0 5 hv1) R fun _ => (wlq (Zd R) R (wnt (wcO t1 R (fun h1 t1 => ?_) fun h1 t1 => ?_)))))))))))))))))))))
 refine wcr (asg R R (wnt (wct (wbr (wqr (wqr (wbr (wqr (wqr ?_)))))))))
 replace t0 := lpR t0 l1 t1
 obtain rfl := oi t0
 exact wq1 R R fun w hw => ⟨R, hw.weak zn⟩
 refine wck (wqb (wqt (wcg (mv R R (wlq (Zj R R (by omega)) R ?_)))))
 exact asg R R (wln (Zk hk1 (stpN l1 t1) () (su2 R R) zn))
 have c1 : (decide (((k1 : Nat) : Int) < ((a_l.length : Nat) : Int))) = false := ddf (by omega)
 have en1 := foe l1 hk1
 exact wcs (wcr (mv R R (mv R R (wlq (pln (rga r0) Zy R) R (wlq (pls R R) R (wnt (wff R c1 (wcx (wqe (wqe (wbx (wjm _ () en1 (su1 R) zn))))))))))))
 intro e1 _ hp
 replace t0 := sqE (j := e1) t0 hp
 refine wqt (wcr (mv R R (wlq (pln (rga r0) Zy R) R (wlq (pol R R) R (asg R R (wnt (wct ?_)))))))
 obtain rfl := oi t0
 exact wq1 R R fun w hw => ⟨R, hw.weak zn⟩

theorem Zl2 (w : World) (a_c : GCell) (a_l : List Int) (v0a : Hd) (r0 : rdF w (dm w []) (sl v0a) a_l) {r : GCell} (t0 : Zdp a_c a_l = some r) : Calls Tryz.prog 207 #[.agg #[.int .i64 a_c.Split, .int .i64 a_c.A, .int .i64 a_c.B], (sl v0a)] w fun e w' => e = .returned (.agg #[.int .i64 r.Split, .int .i64 r.A, .int .i64 r.B]) ∧ SH w [] [] w' := by
 refine cwc (args := [_, _]) Tryz.func207 R Tryz.ntmps207 R ?_
 unfold Zdp at t0
 refine wcr (wle (Zg R R) R fun b1 => (wle (eal (cs := [iv 0, iv 0, iv 0]) Zb8) R fun b2 => (wnt (wcs (wcs (bdO t0 fun y1 t1 t0 => (wj (J := Bool) (X := Unit) (fun z => y1 = z) (fun z _ => [(1, (sl v0a)), (2, ptr b1 0), (4, ptr b2 0), (12, .bool z)]) (fun _ _ => [box b2 [iv 0, iv 0, iv 0], box b1 [iv a_c.Split, iv a_c.A, iv a_c.B]]) ?_ ?_)))))))
 refine wcg (wlq (v := .agg #[iv a_c.Split, iv a_c.A, iv a_c.B]) (plb Zh pk1 R R R) R (bdO t1 fun v1 hv1 t1 => (wlc (cz0 ZiV R fun w hw => Zcy w a_c hv1) R fun _ => (wlq (Zd R) R (mv R R (wlo (t := 8) t1 R (fun h1 t1 => ?_) fun h1 t1 => ?_))))))
 exact wgf (j := 3) R R R R R (wgf (j := 3) R R R R R (wgf (j := 3) R R R R R (wlq (pit R R) R (wln (wjm _ () (mtE t1) (su4 R R R R) so2)))))
 exact wgn (j := 3) R R R (mv R R (bdO t1 fun v2 hv2 t1 => (wgn (j := 3) R R R (wlc (cz0 Zt4 R fun w hw => ZlR w a_l v0a (ra r0 hw) hv2) R (fun _ => (wgn (j := 3) R R R (wlq (Zd R) R (wlq (pif R R) R (wln (wjm _ () (mtE t1) (su4 R R R R) so2))))))))))
 intro j1 _ hp
 obtain rfl : j1 = y1 := hp.symm
 refine wqt (wcO t0 R (fun h2 t0 => ?_) fun h2 t0 => ?_)
 refine wcr (wlq (Zl R Ziq) R (wls (sbx (cs' := [iv 0, iv 0, iv 0]) Zh pz R R R R R R R) (wnt (wct (wqr ?_)))))
 obtain rfl := oi t0
 exact wqc R Zh R pz R fun w hw => ⟨R, hw.weak zn⟩
 refine wck (wqt (wcs (wcd [box b2 [iv 0, iv 0, iv 0], box b1 [iv a_c.Split, iv a_c.A, iv a_c.B]] 13 mixed (aq 0 R (pof Zbc R) so2 R (aq (v := iv a_c.Split) 1 R (plx tk_3 pk1 R R) so2 R (aq 2 R (pom R) so2 R (aq 3 R (pof ZaT R) so2 R (aq (v := iv a_c.A) 4 R (plx tk_3 pk1 R R) so2 R (gdO t0 fun g1 t0 => (aq 5 R (ZX (rga r0) Zy R R g1.1 g1.2) so2 R (aq (v := iv (gx a_l ((a_c.A).toNat))) 6 R (Zw (rga r0) tk_3 R (ZD g1) R) so2 R (aq 7 R (pom R) so2 R (aq 8 R (pof Za6 R) so2 R (aq (v := iv a_c.B) 9 R (plx tk_3 pk1 R R) so2 R (gdO t0 fun g2 t0 => (aq 10 R (ZX (rga r0) Zy R R g2.1 g2.2) so2 R (aq (v := iv (gx a_l ((a_c.B).toNat))) 11 R (Zw (rga r0) tk_3 R (ZD g2) R) so2 R (a1 12 (bdO t0 fun v3 hv3 t0 => (wsc R (cz0 ZtW R fun w hw => ZjJ w a_c.Split (gx a_l ((a_c.A).toNat)) (gx a_l ((a_c.B).toNat)) hv3) (fun _ => (zt so2)) R fun _ => (a1 13 (ZR R (sbx (cs' := [iv v3.Split, iv v3.A, iv v3.B]) Zh pz R R R R R R R) (Za2 (by kernel_rfl)) ?_))))))))))))))))))))))
 refine ae (wqt (wct ?_))
 obtain rfl := oi t0
 exact wqc R Zh R pz R fun w hw => ⟨R, hw.weak zn⟩

theorem ZfI (w : World) (a_b : GBlock) (v0a : Hd) (r0 : rdF w (dm w []) (sl v0a) a_b.Cells) (a_l : List Int) (v1a : Hd) (r1 : rdF w (dm w []) (sl v1a) a_l) {r : GBlock × Bool} (t0 : Zc1 a_b a_l = some r) : Calls Tryz.prog 195 #[.agg #[.int .i64 a_b.Size, (sl v0a)], (sl v1a)] w fun e w' => ∃ x : Hd, e = .returned (.tuple #[.agg #[.int .i64 r.1.Size, (sl x)], .bool r.2]) ∧ SH w [] [ownF (sl x) r.1.Cells] w' := by
 refine cwc (args := [_, _]) Tryz.func195 R Tryz.ntmps195 R ?_
 unfold Zc1 at t0
 refine wcr (wle (Zg R R) R fun b1 => (wle (eal (cs := [iv 0, (sl hn)]) Zau) R fun b2 => (asg R R (wnt (wcs (wcs (bdO t0 fun y1 t1 t0 => (wj (J := Bool) (X := Unit) (fun z => y1 = z) (fun z _ => [(1, (sl v1a)), (2, ptr b1 0), (4, ptr b2 0), (15, .bool z)]) (fun _ _ => [box b2 [iv 0, (sl hn)], box b1 [iv a_b.Size, (sl v0a)]]) ?_ ?_))))))))
 refine wcg (wlq (v := .agg #[iv a_b.Size, (sl v0a)]) (plb Zc pk1 R R R) R (bdO t1 fun v1 hv1 t1 => (wlc (cz0 ZeH R fun w hw => Zag w a_b v0a (ra r0 hw) hv1) R fun _ => (wlq (Zd R) R (mv R R (wlo (t := 11) t1 R (fun h1 t1 => ?_) fun h1 t1 => ?_))))))
 exact wgf (j := 3) R R R R R (wgf (j := 3) R R R R R (wgf (j := 3) R R R R R (wlq (pit R R) R (wln (wjm _ () (mtE t1) (su4 R R R R) so2)))))
 exact wgn (j := 3) R R R (mv R R (bdO t1 fun v2 hv2 t1 => (wgn (j := 3) R R R (wlc (cz0 Zt4 R fun w hw => ZlR w a_l v1a (ra r1 hw) hv2) R (fun _ => (wgn (j := 3) R R R (wlq (Zd R) R (wlq (pif R R) R (wln (wjm _ () (mtE t1) (su4 R R R R) so2))))))))))
 intro j1 _ hp
 obtain rfl : j1 = y1 := hp.symm
 refine wqt (wcO t0 R (fun h2 t0 => ?_) fun h2 t0 => ?_)
 refine wcr (wlq (v := .agg #[iv a_b.Size, (sl v0a)]) (plb Zc pk1 R R R) R (bdO t0 fun v3 hv3 t0 => (wlc (cz1 Zq1 R fun w hw => Zg6 w a_b v0a (ra r0 hw) hv3) R fun x2 => (wls (sbx (cs' := [iv v3.Size, (sl x2)]) Zc pk1 R R R R R R R) (asg R R (wnt (wct (wqr ?_))))))))
 obtain rfl := oi t0
 exact Zx R Zc R R pz R fun w hw => ⟨x2, R, hw.weak (zc pk1 zn)⟩
 refine wck (wqt (wcr (wlq (pof ZM R) R (wlq (v := iv a_b.Size) (plx tk_3 pk1 R R) R (wlq (Zl R (ZkK a_b.Size)) R (wle (eal (cs := [iv 0, (sl hn)]) Zau) R fun b3 => (wls (sbx (cs' := [iv a_b.Size, (sl hn)]) Zc pz R R R R R R R) (wnt (wcs (wcr (asg R R (wnt (gdO t0 fun g1 t0 => (Zn t0 fun y1 l1 t0 => (wj (J := List GCell) (X := Hd) (fun z => y1 = z) (fun _ _ => [(4, ptr b2 0), (6, ptr b3 0)]) (fun z x => [box b3 [iv a_b.Size, (sl x)], box b2 [iv 0, (sl hn)], ownF (sl x) z]) ?_ ?_)))))))))))))))
 refine wcb (wcf (X := Hd) l1 (fun k1 s1 x1l => [(1, (sl v1a)), (2, ptr b1 0), (4, ptr b2 0), (6, ptr b3 0), (7, iv ((k1 : Nat) : Int))]) (fun k1 s1 x1l => [box b3 [iv a_b.Size, (sl x1l)], box b2 [iv 0, (sl hn)], box b1 [iv a_b.Size, (sl v0a)], ownF (sl x1l) s1]) hn (su5 R R R R R) (zc pz (zc pz (zc pz (zc ZC zn)))) fun k1 s1 x1l hN1 l1 => ?_)
 by_cases hk1 : k1 < a_b.Cells.length
 refine fos l1 hk1 fun _ t1 l1 => ?_
 unfold Zc7 at t1
 have c1 : (decide (((k1 : Nat) : Int) < ((a_b.Cells.length : Nat) : Int))) = true := ddt (by omega)
 refine wcs (wcr (mv R R (wlq (pof Zv R) R (wlq (v := (sl v0a)) (plx ZN pk2 R R) R (wlq (pln (rga r0) ZU R) R (wlq (pls R R) R (wnt (wft R c1 (wck (wqt (wcs (wcb (wcd [box b3 [iv a_b.Size, (sl x1l)], box b2 [iv 0, (sl hn)], box b1 [iv a_b.Size, (sl v0a)]] 12 mixed (aq 0 R (pof Zv R) so3 R (aq (v := (sl x1l)) 1 R (plx ZN pz R R) so3 R (aq 2 R (pof Zv R) so3 R (aq (v := (sl v0a)) 3 R (plx ZN pk2 R R) so3 R (aq 4 R (pom R) so3 R (aq 5 R (Zm (k := k1) (rga r0) ZU R R hk1) so3 R (aq (v := .agg #[iv ((gx a_b.Cells k1).Split), iv ((gx a_b.Cells k1).A), iv ((gx a_b.Cells k1).B)]) 6 R (Zaw (rga r0) Zh R hk1 R R R) so3 R (aq 7 R (pom R) so3 R (a1 8 (bdO t1 fun v4 hv4 t1 => (wsc R (cz0 ZvG R fun w hw => Zl2 w (gx a_b.Cells k1) a_l v1a (ra r1 hw) hv4) (fun _ => (zt so3)) R fun _ => (a1 9 (wse R (ebs R (ZkW v4.Split v4.A v4.B)) (fun _ => (zt (zc pk1 (zc pk1 (zc pk1 zn))))) R fun b4 => (a1 10 (gdO t1 fun g2 t1 => (wse R (Zf (xs := s1) (ys := ([v4] : List GCell)) Zk8 pk4 R R (Zi fun _ g => Rg.on (rgo (pbo pz (n := 1) (xs := ([v4] : List GCell)) R R (by unfold maxLen; omega))) g) g2) (fun _ => (zt (zc pk2 (zc pk2 (zc pk2 zn))))) R fun x4 => ?_)))))))))))))))))))))))))))))
 refine aq 11 R (pof Zv R) (zc pk2 (zc pk2 (zc pk2 zn))) R (a1 12 (ZR R (sbx (cs' := [iv a_b.Size, (sl x4)]) ZN pk2 R R R R R R R) (Za2 (by kernel_rfl)) ?_))
 refine ae (wqb (wqt (wcg (mv R R (wlq (Zj R R (by omega)) R ?_)))))
 exact asg R R (wln (Zk hk1 (stpN l1 t1) x4 (su5 R R R R R) (zc pz (zc pk2 (zc pk2 so1)))))
 have c1 : (decide (((k1 : Nat) : Int) < ((a_b.Cells.length : Nat) : Int))) = false := ddf (by omega)
 have en1 := foe l1 hk1
 exact wcs (wcr (mv R R (wlq (pof Zv R) R (wlq (v := (sl v0a)) (plx ZN pk2 R R) R (wlq (pln (rga r0) ZU R) R (wlq (pls R R) R (wnt (wff R c1 (wcx (wqe (wqe (wbx (wjm _ x1l (Sum.inl.inj en1) (su2 R R) (zc pz (zc pz (zc pk1 zn))))))))))))))))
 intro e1 x3 hp
 obtain rfl : e1 = y1 := hp.symm
 refine wqt (wcr (wlq (v := .agg #[iv a_b.Size, (sl x3)]) (plb Zc pz R R R) R (wls (sbx (cs' := [iv a_b.Size, (sl x3)]) Zc pk1 R R R R R R R) (asg R R (wnt (wct ?_))))))
 obtain rfl := oi t0
 exact Zx R Zc R R pz R fun w hw => ⟨x3, R, hw.weak (zc pk2 zn)⟩

theorem Zkk (w : World) (a_b : GBlock) (v0a : Hd) (r0 : rdF w (dm w []) (sl v0a) a_b.Cells) {r : GBlock} (t0 : Zej a_b = some r) : Calls Tryz.prog 183 #[.agg #[.int .i64 a_b.Size, (sl v0a)]] w fun e w' => ∃ x : Hd, e = .returned (.agg #[.int .i64 r.Size, (sl x)]) ∧ SH w [] [ownF (sl x) r.Cells] w' := by
 refine cwc (args := [_]) Tryz.func183 R Tryz.ntmps183 R ?_
 unfold Zej at t0
 refine wcr (wle (Zg R R) R fun b1 => (wle (eal (cs := [iv 0, (sl hn)]) Zau) R fun b2 => (wnt (wcs (bdO t0 fun v1 hv1 t0 => (bdO t0 fun v2 hv2 t0 => (wcj (X := Nat × Hd) (fun _ => True) (fun z => [(2, ptr b2 0), (3, ptr z.1 0)]) (fun z => [box z.1 [iv v2.1.Size, (sl z.2)], ownF (sl z.2) v2.1.Cells, box b2 [iv 0, (sl hn)]]) ?_ ?_)))))))
 refine wcd [box b2 [iv 0, (sl hn)], box b1 [iv a_b.Size, (sl v0a)]] 10 mixed (aq (v := .agg #[iv a_b.Size, (sl v0a)]) 0 R (plb Zc pk1 R R R) so2 R (aq (v := .agg #[iv a_b.Size, (sl v0a)]) 1 R (plb Zc pk1 R R R) so2 R (wa_2 (i := 2) (j := 7) (by kernel_rfl) ?_ ?_)))
 refine wsc R (cz1 ZtZ R fun w hw => Zj9 w a_b v0a (ra r0 hw) hv1) (fun _ => (zt (zc pk1 (zc pk1 zn)))) R fun x1 => wa_2 (i := 3) (j := 7) (by kernel_rfl) ?_ ?_
 exact wsc R (cz1 ZrC R fun w hw => ZfI w a_b v0a (ra r0 hw) v1 x1 (Rg.on (rgo pz) hw) hv2) (fun _ => (zt (zc pk2 (zc pk2 zn)))) R fun x2 => aq 4 R (pom R) (zc pk2 (zc pk2 zn)) R (aq 5 R (pex R R) (zc pk2 (zc pk2 zn)) R (aq 6 R (pex R R) (zc pk2 (zc pk2 zn)) R (a1 7 (wse R (eal (cs := [iv 0, (sl hn)]) Zau) (fun _ => (zt (zc pk3 (zc pk3 zn)))) R fun b3 => (a1 8 (ZR R (sbx (cs' := [iv v2.1.Size, (sl x2)]) Zc pz R R R R R R R) (zt (zc pk3 (zc pk3 zn))) (aq 9 R (Zp R) (zc pk3 (zc pk3 zn)) R (ae (wqm (b3, x2) trivial (su2 R R) (zc pz (zc pz (zc pk1 zn))))))))))))
 exact wse R (eal (cs := [iv 0, (sl hn)]) Zau) (fun _ => (zt (zc pk2 (zc pk2 zn)))) R fun b4 => a1 3 (wsc R (cz1 ZrC R fun w hw => ZfI w a_b v0a (ra r0 hw) v1 x1 (Rg.on (rgo pk1) hw) hv2) (fun _ => (zt (zc pk3 (zc pk3 zn)))) R fun x3 => (aq 4 R (pom R) (zc pk3 (zc pk3 zn)) R (aq 5 R (pex R R) (zc pk3 (zc pk3 zn)) R (aq 6 R (pex R R) (zc pk3 (zc pk3 zn)) R (a1 8 (ZR R (sbx (cs' := [iv v2.1.Size, (sl x3)]) Zc pk1 R R R R R R R) (zt (zc pk3 (zc pk3 zn))) (aq 9 R (Zp R) (zc pk3 (zc pk3 zn)) R (ae (wqm (b4, x3) trivial (su2 R R) (zc pz (zc pz (zc pk1 zn))))))))))))
 exact wse R (eal (cs := [iv 0, (sl hn)]) Zau) (fun _ => (zt (zc pk1 (zc pk1 zn)))) R fun b5 => a1 2 (wsc R (cz1 ZtZ R fun w hw => Zj9 w a_b v0a (ra r0 hw) hv1) (fun _ => (zt (zc pk2 (zc pk2 zn)))) R fun x4 => (a1 3 (wsc R (cz1 ZrC R fun w hw => ZfI w a_b v0a (ra r0 hw) v1 x4 (Rg.on (rgo pz) hw) hv2) (fun _ => (zt (zc pk3 (zc pk3 zn)))) R fun x5 => (aq 4 R (pom R) (zc pk3 (zc pk3 zn)) R (aq 5 R (pex R R) (zc pk3 (zc pk3 zn)) R (aq 6 R (pex R R) (zc pk3 (zc pk3 zn)) R (a1 8 (ZR R (sbx (cs' := [iv v2.1.Size, (sl x5)]) Zc pk2 R R R R R R R) (zt (zc pk3 (zc pk3 zn))) (aq 9 R (Zp R) (zc pk3 (zc pk3 zn)) R (ae (wqm (b5, x5) trivial (su2 R R) (zc pz (zc pz (zc pk1 zn))))))))))))))
 intro x6 _
 refine wqt (wcr (wlq (v := .agg #[iv v2.1.Size, (sl x6.2)]) (plb Zc pz R R R) R (wls (sbx (cs' := [iv v2.1.Size, (sl x6.2)]) Zc pk2 R R R R R R R) (wnt (wct ?_)))))
 obtain rfl := oi t0
 exact wqc R Zc R pz R fun w hw => ⟨x6.2, R, hw.weak (zc pk2 zn)⟩

theorem Zm4 (w : World) (a_c : GCell) {r : GCell} (t0 : Zes a_c = some r) : Calls Tryz.prog 197 #[.agg #[.int .i64 a_c.Split, .int .i64 a_c.A, .int .i64 a_c.B]] w fun e w' => e = .returned (.agg #[.int .i64 r.Split, .int .i64 r.A, .int .i64 r.B]) ∧ SH w [] [] w' := by
 refine cwc (args := [_]) Tryz.func197 R Tryz.ntmps197 R ?_
 unfold Zes at t0
 refine wcr (wle (Zg R R) R fun b1 => (wle (eal (cs := [iv 0, iv 0, iv 0]) Zb8) R fun b2 => (wnt (wcs (wcr (wlq (v := .agg #[iv a_c.Split, iv a_c.A, iv a_c.B]) (plb Zh pk1 R R R) R (bdO t0 fun v1 hv1 t0 => (wlc (cz0 ZiV R fun w hw => Zcy w a_c hv1) R fun _ => (wlq (Zd R) R (wnt (wcO t0 R (fun h1 t0 => ?_) fun h1 t0 => ?_)))))))))))
 refine wcr (wlq (Zl R Ziq) R (wls (sbx (cs' := [iv 0, iv 0, iv 0]) Zh pz R R R R R R R) (wnt (wct (wqr ?_)))))
 obtain rfl := oi t0
 exact wqc R Zh R pz R fun w hw => ⟨R, hw.weak zn⟩
 refine wck (wqt (wcs (wcr (wlq (pof Zbc R) R (wlq (v := iv a_c.Split) (plx tk_3 pk1 R R) R (wlq (pol R R) R (wnt (wcO t0 R (fun h2 t0 => ?_) fun h2 t0 => ?_))))))))
 refine wcr (wlq (v := .agg #[iv a_c.Split, iv a_c.A, iv a_c.B]) (plb Zh pk1 R R R) R (wls (sbx (cs' := [iv a_c.Split, iv a_c.A, iv a_c.B]) Zh pz R R R R R R R) (wnt (wct (wqr ?_)))))
 obtain rfl := oi t0
 exact wqc R Zh R pz R fun w hw => ⟨R, hw.weak zn⟩
 refine wck (wqt (wcr (wlq (pof Zbc R) R (wlq (v := iv a_c.Split) (plx tk_3 pk1 R R) R (wlq (Zaa R R) R (wlq (pof Za6 R) R (wlq (v := iv a_c.B) (plx tk_3 pk1 R R) R (wlq (pof ZaT R) R (wlq (v := iv a_c.A) (plx tk_3 pk1 R R) R (wlq (Zl R (Zbx (wr (3 - a_c.Split)) a_c.B a_c.A)) R (wls (sbx (cs' := [iv (wr (3 - a_c.Split)), iv a_c.B, iv a_c.A]) Zh pz R R R R R R R) (wnt (wct ?_)))))))))))))
 obtain rfl := oi t0
 exact wqc R Zh R pz R fun w hw => ⟨R, hw.weak zn⟩

theorem Zmv (w : World) (a_b : GBlock) (v0a : Hd) (r0 : rdF w (dm w []) (sl v0a) a_b.Cells) {r : GBlock} (t0 : ZdV a_b = some r) : Calls Tryz.prog 186 #[.agg #[.int .i64 a_b.Size, (sl v0a)]] w fun e w' => ∃ x : Hd, e = .returned (.agg #[.int .i64 r.Size, (sl x)]) ∧ SH w [] [ownF (sl x) r.Cells] w' := by
 refine cwc (args := [_]) Tryz.func186 R Tryz.ntmps186 R ?_
 unfold ZdV at t0
 refine wcr (wle (Zg R R) R fun b1 => (wle (eal (cs := [iv 0, (sl hn)]) Zau) R fun b2 => (wnt (wcs (wcr (wlq (v := .agg #[iv a_b.Size, (sl v0a)]) (plb Zc pk1 R R R) R (bdO t0 fun v1 hv1 t0 => (wlc (cz0 ZeH R fun w hw => Zag w a_b v0a (ra r0 hw) hv1) R fun _ => (wlq (Zd R) R (wnt (wcO t0 R (fun h1 t0 => ?_) fun h1 t0 => ?_)))))))))))
 refine wcr (wlq (Zl R Zik) R (wls (sbx (cs' := [iv 0, (sl hn)]) Zc pz R R R R R R R) (wnt (wct (wqr ?_)))))
 obtain rfl := oi t0
 exact wqc R Zc R pz R fun w hw => ⟨hn, R, hw.weak (zc ZC zn)⟩
 refine wck (wqt (wcr (wlq (pof ZM R) R (wlq (v := iv a_b.Size) (plx tk_3 pk1 R R) R (wlq (Zl R (ZkK a_b.Size)) R (wle (eal (cs := [iv 0, (sl hn)]) Zau) R fun b3 => (wls (sbx (cs' := [iv a_b.Size, (sl hn)]) Zc pz R R R R R R R) (wnt (wcs (wcr (asg R R (wnt (gdO t0 fun g1 t0 => (Zn t0 fun y1 l1 t0 => (wj (J := List GCell) (X := Hd) (fun z => y1 = z) (fun _ _ => [(2, ptr b2 0), (3, ptr b3 0)]) (fun z x => [box b3 [iv a_b.Size, (sl x)], box b2 [iv 0, (sl hn)], ownF (sl x) z]) ?_ ?_)))))))))))))))
 refine wcb (wcf (X := Hd) l1 (fun k1 s1 x1l => [(1, ptr b1 0), (2, ptr b2 0), (3, ptr b3 0), (4, iv ((k1 : Nat) : Int))]) (fun k1 s1 x1l => [box b3 [iv a_b.Size, (sl x1l)], box b2 [iv 0, (sl hn)], box b1 [iv a_b.Size, (sl v0a)], ownF (sl x1l) s1]) hn (su4 R R R R) (zc pz (zc pz (zc pz (zc ZC zn)))) fun k1 s1 x1l hN1 l1 => ?_)
 by_cases hk1 : k1 < (a_b.Size).toNat
 refine fos l1 hk1 fun _ t1 l1 => ?_
 unfold Zd0 at t1
 have c1 : (decide (((k1 : Nat) : Int) < a_b.Size)) = true := ddt (by omega)
 refine wcs (wcr (mv R R (wlq (pof ZM R) R (wlq (v := iv a_b.Size) (plx tk_3 pk2 R R) R (wlq (pls R R) R (wnt (wft R c1 (wck (wqt (wcs (wcb (wcr (asg R R (wnt (Zn t1 fun y2 l2 t1 => (wj (J := List GCell) (X := Hd) (fun z => y2 = z) (fun _ _ => [(1, ptr b1 0), (2, ptr b2 0), (3, ptr b3 0), (4, iv ((k1 : Nat) : Int))]) (fun z x => [box b3 [iv a_b.Size, (sl x)], box b2 [iv 0, (sl hn)], box b1 [iv a_b.Size, (sl v0a)], ownF (sl x) z]) ?_ ?_))))))))))))))))
 refine wcb (wcf (X := Hd) l2 (fun k2 s2 x2l => [(1, ptr b1 0), (2, ptr b2 0), (3, ptr b3 0), (4, iv ((k1 : Nat) : Int)), (5, iv ((k2 : Nat) : Int))]) (fun k2 s2 x2l => [box b3 [iv a_b.Size, (sl x2l)], box b2 [iv 0, (sl hn)], box b1 [iv a_b.Size, (sl v0a)], ownF (sl x2l) s2]) x1l (su5 R R R R R) so4 fun k2 s2 x2l hN2 l2 => ?_)
 by_cases hk2 : k2 < (a_b.Size).toNat
 refine fos l2 hk2 fun _ t2 l2 => ?_
 unfold Zd6 at t2
 have c2 : (decide (((k2 : Nat) : Int) < a_b.Size)) = true := ddt (by omega)
 refine wcs (wcr (mv R R (wlq (pof ZM R) R (wlq (v := iv a_b.Size) (plx tk_3 pk2 R R) R (wlq (pls R R) R (wnt (wft R c2 (wck (wqt (wcs (wcb (wcd [box b3 [iv a_b.Size, (sl x2l)], box b2 [iv 0, (sl hn)], box b1 [iv a_b.Size, (sl v0a)]] 20 mixed (aq 0 R (pof Zv R) so3 R (aq (v := (sl x2l)) 1 R (plx ZN pz R R) so3 R (aq 2 R (pof Zv R) so3 R (aq (v := (sl v0a)) 3 R (plx ZN pk2 R R) so3 R (aq 4 R (pom R) so3 R (aq 5 R (pof ZM R) so3 R (aq (v := iv a_b.Size) 6 R (plx tk_3 pk2 R R) so3 R (aq 7 R (Zex R R) so3 R (aq 8 R (pof ZM R) so3 R (aq (v := iv a_b.Size) 9 R (plx tk_3 pk2 R R) so3 R (aq 10 R (Zaf R R) so3 R (aq 11 R (Zaa R R) so3 R (aq 12 R (pom R) so3 R (aq 13 R (Zaa R R) so3 R (gdO t2 fun g2 t2 => (aq 14 R (ZX (rga r0) ZU R R g2.1 g2.2) so3 R (aq (v := .agg #[iv ((gx a_b.Cells (((wr ((wr ((wr ((wr (((k1 : Nat) : Int) * a_b.Size)) + a_b.Size)) - 1)) - ((k2 : Nat) : Int)))).toNat)).Split), iv ((gx a_b.Cells (((wr ((wr ((wr ((wr (((k1 : Nat) : Int) * a_b.Size)) + a_b.Size)) - 1)) - ((k2 : Nat) : Int)))).toNat)).A), iv ((gx a_b.Cells (((wr ((wr ((wr ((wr (((k1 : Nat) : Int) * a_b.Size)) + a_b.Size)) - 1)) - ((k2 : Nat) : Int)))).toNat)).B)]) 15 R (Zaw (rga r0) Zh R (ZD g2) R R R) so3 R (a1 16 (bdO t2 fun v2 hv2 t2 => (wsc R (cz0 ZvE R fun w hw => Zm4 w (gx a_b.Cells (((wr ((wr ((wr ((wr (((k1 : Nat) : Int) * a_b.Size)) + a_b.Size)) - 1)) - ((k2 : Nat) : Int)))).toNat)) hv2) (fun _ => (zt so3)) R fun _ => (a1 17 (wse R (ebs R (ZkW v2.Split v2.A v2.B)) (fun _ => (zt (zc pk1 (zc pk1 (zc pk1 zn))))) R fun b4 => (a1 18 (gdO t2 fun g3 t2 => (wse R (Zf (xs := s2) (ys := ([v2] : List GCell)) Zk8 pk4 R R (Zi fun _ g => Rg.on (rgo (pbo pz (n := 1) (xs := ([v2] : List GCell)) R R (by unfold maxLen; omega))) g) g3) (fun _ => (zt (zc pk2 (zc pk2 (zc pk2 zn))))) R fun x3 => ?_)))))))))))))))))))))))))))))))))))))
 refine aq 19 R (pof Zv R) (zc pk2 (zc pk2 (zc pk2 zn))) R (a1 20 (ZR R (sbx (cs' := [iv a_b.Size, (sl x3)]) ZN pk2 R R R R R R R) (Za2 (by kernel_rfl)) ?_))
 refine ae (wqb (wqt (wcg (mv R R (wlq (Zj R R (by omega)) R ?_)))))
 exact asg R R (wln (Zk hk2 (stpN l2 t2) x3 (su5 R R R R R) (zc pz (zc pk2 (zc pk2 so1)))))
 have c2 : (decide (((k2 : Nat) : Int) < a_b.Size)) = false := ddf (by omega)
 have en1 := foe l2 hk2
 exact wcs (wcr (mv R R (wlq (pof ZM R) R (wlq (v := iv a_b.Size) (plx tk_3 pk2 R R) R (wlq (pls R R) R (wnt (wff R c2 (wcx (wqe (wqe (wbx (wjm _ x2l (Sum.inl.inj en1) (su4 R R R R) so4))))))))))))
 intro e2 x2 hp
 obtain rfl : e2 = y2 := hp.symm
 refine wqb (wqt (wcg (mv R R (wlq (Zj R R (by omega)) R ?_))))
 exact asg R R (wln (Zk hk1 (stpN l1 t1) x2 (su4 R R R R) so4))
 have c1 : (decide (((k1 : Nat) : Int) < a_b.Size)) = false := ddf (by omega)
 have en2 := foe l1 hk1
 exact wcs (wcr (mv R R (wlq (pof ZM R) R (wlq (v := iv a_b.Size) (plx tk_3 pk2 R R) R (wlq (pls R R) R (wnt (wff R c1 (wcx (wqe (wqe (wbx (wjm _ x1l (Sum.inl.inj en2) (su2 R R) (zc pz (zc pz (zc pk1 zn)))))))))))))))
 intro e1 x1 hp
 obtain rfl : e1 = y1 := hp.symm
 refine wqt (wcr (wlq (v := .agg #[iv a_b.Size, (sl x1)]) (plb Zc pz R R R) R (wls (sbx (cs' := [iv a_b.Size, (sl x1)]) Zc pk1 R R R R R R R) (wnt (wct ?_)))))
 obtain rfl := oi t0
 exact wqc R Zc R pz R fun w hw => ⟨x1, R, hw.weak (zc pk2 zn)⟩

theorem ZpB (w : World) (a_c : GCell) {r : GCell} (t0 : ZfJ a_c = some r) : Calls Tryz.prog 198 #[.agg #[.int .i64 a_c.Split, .int .i64 a_c.A, .int .i64 a_c.B]] w fun e w' => e = .returned (.agg #[.int .i64 r.Split, .int .i64 r.A, .int .i64 r.B]) ∧ SH w [] [] w' := by
 refine cwc (args := [_]) Tryz.func198 R Tryz.ntmps198 R ?_
 unfold ZfJ at t0
 refine wcr (wle (Zg R R) R fun b1 => (wle (eal (cs := [iv 0, iv 0, iv 0]) Zb8) R fun b2 => (wnt (wcs (wcr (wlq (v := .agg #[iv a_c.Split, iv a_c.A, iv a_c.B]) (plb Zh pk1 R R R) R (bdO t0 fun v1 hv1 t0 => (wlc (cz0 ZiV R fun w hw => Zcy w a_c hv1) R fun _ => (wlq (Zd R) R (wnt (wcO t0 R (fun h1 t0 => ?_) fun h1 t0 => ?_)))))))))))
 refine wcr (wlq (Zl R Ziq) R (wls (sbx (cs' := [iv 0, iv 0, iv 0]) Zh pz R R R R R R R) (wnt (wct (wqr ?_)))))
 obtain rfl := oi t0
 exact wqc R Zh R pz R fun w hw => ⟨R, hw.weak zn⟩
 refine wck (wqt (wcs (wcr (wlq (pof Zbc R) R (wlq (v := iv a_c.Split) (plx tk_3 pk1 R R) R (wnt (wcb (wcr (wlq (pol R R) R (asg R R (wnt (wcO t0 R (fun h2 t0 => ?_) fun h2 t0 => ?_))))))))))))
 refine wcr (wlq (pof Za6 R) R (wlq (v := iv a_c.B) (plx tk_3 pk1 R R) R (wlq (pof ZaT R) R (wlq (v := iv a_c.A) (plx tk_3 pk1 R R) R (wlq (Zl R (Zbx 2 a_c.B a_c.A)) R (wls (sbx (cs' := [iv 2, iv a_c.B, iv a_c.A]) Zh pz R R R R R R R) (wnt (wct (wbr (wqr ?_))))))))))
 obtain rfl := oi t0
 exact wqc R Zh R pz R fun w hw => ⟨R, hw.weak zn⟩
 refine wcr (wlq (pol R R) R (asg R R (wnt (wcO t0 R (fun h3 t0 => ?_) fun h3 t0 => ?_))))
 refine wcr (wlq (pof ZaT R) R (wlq (v := iv a_c.A) (plx tk_3 pk1 R R) R (wlq (pof Za6 R) R (wlq (v := iv a_c.B) (plx tk_3 pk1 R R) R (wlq (Zl R (Zbx 1 a_c.A a_c.B)) R (wls (sbx (cs' := [iv 1, iv a_c.A, iv a_c.B]) Zh pz R R R R R R R) (wnt (wct (wbr (wqr ?_))))))))))
 obtain rfl := oi t0
 exact wqc R Zh R pz R fun w hw => ⟨R, hw.weak zn⟩
 refine wck (wqb (wqt (wcr (wlq (v := .agg #[iv a_c.Split, iv a_c.A, iv a_c.B]) (plb Zh pk1 R R R) R (wls (sbx (cs' := [iv a_c.Split, iv a_c.A, iv a_c.B]) Zh pz R R R R R R R) (wnt (wct ?_)))))))
 obtain rfl := oi t0
 exact wqc R Zh R pz R fun w hw => ⟨R, hw.weak zn⟩

theorem Zoi (w : World) (a_b : GBlock) (v0a : Hd) (r0 : rdF w (dm w []) (sl v0a) a_b.Cells) {r : GBlock} (t0 : Ze3 a_b = some r) : Calls Tryz.prog 187 #[.agg #[.int .i64 a_b.Size, (sl v0a)]] w fun e w' => ∃ x : Hd, e = .returned (.agg #[.int .i64 r.Size, (sl x)]) ∧ SH w [] [ownF (sl x) r.Cells] w' := by
 refine cwc (args := [_]) Tryz.func187 R Tryz.ntmps187 R ?_
 unfold Ze3 at t0
 refine wcr (wle (Zg R R) R fun b1 => (wle (eal (cs := [iv 0, (sl hn)]) Zau) R fun b2 => (wnt (wcs (wcr (wlq (v := .agg #[iv a_b.Size, (sl v0a)]) (plb Zc pk1 R R R) R (bdO t0 fun v1 hv1 t0 => (wlc (cz0 ZeH R fun w hw => Zag w a_b v0a (ra r0 hw) hv1) R fun _ => (wlq (Zd R) R (wnt (wcO t0 R (fun h1 t0 => ?_) fun h1 t0 => ?_)))))))))))
 refine wcr (wlq (Zl R Zik) R (wls (sbx (cs' := [iv 0, (sl hn)]) Zc pz R R R R R R R) (wnt (wct (wqr ?_)))))
 obtain rfl := oi t0
 exact wqc R Zc R pz R fun w hw => ⟨hn, R, hw.weak (zc ZC zn)⟩
 refine wck (wqt (wcr (wlq (pof ZM R) R (wlq (v := iv a_b.Size) (plx tk_3 pk1 R R) R (wlq (Zl R (ZkK a_b.Size)) R (wle (eal (cs := [iv 0, (sl hn)]) Zau) R fun b3 => (wls (sbx (cs' := [iv a_b.Size, (sl hn)]) Zc pz R R R R R R R) (wnt (wcs (wcr (asg R R (wnt (gdO t0 fun g1 t0 => (Zn t0 fun y1 l1 t0 => (wj (J := List GCell) (X := Hd) (fun z => y1 = z) (fun _ _ => [(2, ptr b2 0), (3, ptr b3 0)]) (fun z x => [box b3 [iv a_b.Size, (sl x)], box b2 [iv 0, (sl hn)], ownF (sl x) z]) ?_ ?_)))))))))))))))
 refine wcb (wcf (X := Hd) l1 (fun k1 s1 x1l => [(1, ptr b1 0), (2, ptr b2 0), (3, ptr b3 0), (4, iv ((k1 : Nat) : Int))]) (fun k1 s1 x1l => [box b3 [iv a_b.Size, (sl x1l)], box b2 [iv 0, (sl hn)], box b1 [iv a_b.Size, (sl v0a)], ownF (sl x1l) s1]) hn (su4 R R R R) (zc pz (zc pz (zc pz (zc ZC zn)))) fun k1 s1 x1l hN1 l1 => ?_)
 by_cases hk1 : k1 < (a_b.Size).toNat
 refine fos l1 hk1 fun _ t1 l1 => ?_
 unfold ZeM at t1
 have c1 : (decide (((k1 : Nat) : Int) < a_b.Size)) = true := ddt (by omega)
 refine wcs (wcr (mv R R (wlq (pof ZM R) R (wlq (v := iv a_b.Size) (plx tk_3 pk2 R R) R (wlq (pls R R) R (wnt (wft R c1 (wck (wqt (wcs (wcb (wcr (asg R R (wnt (Zn t1 fun y2 l2 t1 => (wj (J := List GCell) (X := Hd) (fun z => y2 = z) (fun _ _ => [(1, ptr b1 0), (2, ptr b2 0), (3, ptr b3 0), (4, iv ((k1 : Nat) : Int))]) (fun z x => [box b3 [iv a_b.Size, (sl x)], box b2 [iv 0, (sl hn)], box b1 [iv a_b.Size, (sl v0a)], ownF (sl x) z]) ?_ ?_))))))))))))))))
 refine wcb (wcf (X := Hd) l2 (fun k2 s2 x2l => [(1, ptr b1 0), (2, ptr b2 0), (3, ptr b3 0), (4, iv ((k1 : Nat) : Int)), (5, iv ((k2 : Nat) : Int))]) (fun k2 s2 x2l => [box b3 [iv a_b.Size, (sl x2l)], box b2 [iv 0, (sl hn)], box b1 [iv a_b.Size, (sl v0a)], ownF (sl x2l) s2]) x1l (su5 R R R R R) so4 fun k2 s2 x2l hN2 l2 => ?_)
 by_cases hk2 : k2 < (a_b.Size).toNat
 refine fos l2 hk2 fun _ t2 l2 => ?_
 unfold ZeA at t2
 have c2 : (decide (((k2 : Nat) : Int) < a_b.Size)) = true := ddt (by omega)
 refine wcs (wcr (mv R R (wlq (pof ZM R) R (wlq (v := iv a_b.Size) (plx tk_3 pk2 R R) R (wlq (pls R R) R (wnt (wft R c2 (wck (wqt (wcs (wcb (wcd [box b3 [iv a_b.Size, (sl x2l)], box b2 [iv 0, (sl hn)], box b1 [iv a_b.Size, (sl v0a)]] 20 mixed (aq 0 R (pof Zv R) so3 R (aq (v := (sl x2l)) 1 R (plx ZN pz R R) so3 R (aq 2 R (pof Zv R) so3 R (aq (v := (sl v0a)) 3 R (plx ZN pk2 R R) so3 R (aq 4 R (pof ZM R) so3 R (aq (v := iv a_b.Size) 5 R (plx tk_3 pk2 R R) so3 R (aq 6 R (Zaa R R) so3 R (aq 7 R (pom R) so3 R (aq 8 R (Zaa R R) so3 R (aq 9 R (pof ZM R) so3 R (aq (v := iv a_b.Size) 10 R (plx tk_3 pk2 R R) so3 R (aq 11 R (Zex R R) so3 R (aq 12 R (pom R) so3 R (aq 13 R (Zaf R R) so3 R (gdO t2 fun g2 t2 => (aq 14 R (ZX (rga r0) ZU R R g2.1 g2.2) so3 R (aq (v := .agg #[iv ((gx a_b.Cells (((wr ((wr ((wr ((wr (a_b.Size - 1)) - ((k2 : Nat) : Int))) * a_b.Size)) + ((k1 : Nat) : Int)))).toNat)).Split), iv ((gx a_b.Cells (((wr ((wr ((wr ((wr (a_b.Size - 1)) - ((k2 : Nat) : Int))) * a_b.Size)) + ((k1 : Nat) : Int)))).toNat)).A), iv ((gx a_b.Cells (((wr ((wr ((wr ((wr (a_b.Size - 1)) - ((k2 : Nat) : Int))) * a_b.Size)) + ((k1 : Nat) : Int)))).toNat)).B)]) 15 R (Zaw (rga r0) Zh R (ZD g2) R R R) so3 R (a1 16 (bdO t2 fun v2 hv2 t2 => (wsc R (cz0 ZvX R fun w hw => ZpB w (gx a_b.Cells (((wr ((wr ((wr ((wr (a_b.Size - 1)) - ((k2 : Nat) : Int))) * a_b.Size)) + ((k1 : Nat) : Int)))).toNat)) hv2) (fun _ => (zt so3)) R fun _ => (a1 17 (wse R (ebs R (ZkW v2.Split v2.A v2.B)) (fun _ => (zt (zc pk1 (zc pk1 (zc pk1 zn))))) R fun b4 => (a1 18 (gdO t2 fun g3 t2 => (wse R (Zf (xs := s2) (ys := ([v2] : List GCell)) Zk8 pk4 R R (Zi fun _ g => Rg.on (rgo (pbo pz (n := 1) (xs := ([v2] : List GCell)) R R (by unfold maxLen; omega))) g) g3) (fun _ => (zt (zc pk2 (zc pk2 (zc pk2 zn))))) R fun x3 => ?_)))))))))))))))))))))))))))))))))))))
 refine aq 19 R (pof Zv R) (zc pk2 (zc pk2 (zc pk2 zn))) R (a1 20 (ZR R (sbx (cs' := [iv a_b.Size, (sl x3)]) ZN pk2 R R R R R R R) (Za2 (by kernel_rfl)) ?_))
 refine ae (wqb (wqt (wcg (mv R R (wlq (Zj R R (by omega)) R ?_)))))
 exact asg R R (wln (Zk hk2 (stpN l2 t2) x3 (su5 R R R R R) (zc pz (zc pk2 (zc pk2 so1)))))
 have c2 : (decide (((k2 : Nat) : Int) < a_b.Size)) = false := ddf (by omega)
 have en1 := foe l2 hk2
 exact wcs (wcr (mv R R (wlq (pof ZM R) R (wlq (v := iv a_b.Size) (plx tk_3 pk2 R R) R (wlq (pls R R) R (wnt (wff R c2 (wcx (wqe (wqe (wbx (wjm _ x2l (Sum.inl.inj en1) (su4 R R R R) so4))))))))))))
 intro e2 x2 hp
 obtain rfl : e2 = y2 := hp.symm
 refine wqb (wqt (wcg (mv R R (wlq (Zj R R (by omega)) R ?_))))
 exact asg R R (wln (Zk hk1 (stpN l1 t1) x2 (su4 R R R R) so4))
 have c1 : (decide (((k1 : Nat) : Int) < a_b.Size)) = false := ddf (by omega)
 have en2 := foe l1 hk1
 exact wcs (wcr (mv R R (wlq (pof ZM R) R (wlq (v := iv a_b.Size) (plx tk_3 pk2 R R) R (wlq (pls R R) R (wnt (wff R c1 (wcx (wqe (wqe (wbx (wjm _ x1l (Sum.inl.inj en2) (su2 R R) (zc pz (zc pz (zc pk1 zn)))))))))))))))
 intro e1 x1 hp
 obtain rfl : e1 = y1 := hp.symm
 refine wqt (wcr (wlq (v := .agg #[iv a_b.Size, (sl x1)]) (plb Zc pz R R R) R (wls (sbx (cs' := [iv a_b.Size, (sl x1)]) Zc pk1 R R R R R R R) (wnt (wct ?_)))))
 obtain rfl := oi t0
 exact wqc R Zc R pz R fun w hw => ⟨x1, R, hw.weak (zc pk2 zn)⟩

theorem Zkr (w : World) (a_b : GBlock) (v0a : Hd) (r0 : rdF w (dm w []) (sl v0a) a_b.Cells) (a_k : Int) {r : GBlock} (t0 : Zel a_b a_k = some r) : Calls Tryz.prog 171 #[.agg #[.int .i64 a_b.Size, (sl v0a)], .int .i64 a_k] w fun e w' => ∃ x : Hd, e = .returned (.agg #[.int .i64 r.Size, (sl x)]) ∧ SH w [] [ownF (sl x) r.Cells] w' := by
 refine cwc (args := [_, _]) Tryz.func171 R Tryz.ntmps171 R ?_
 unfold Zel at t0
 refine wcr (wle (Zg R R) R fun b1 => (wle (eal (cs := [iv 0, (sl hn)]) Zau) R fun b2 => (wnt (wcs (wcs (bdO t0 fun y1 t1 t0 => (wj (J := Bool) (X := Unit) (fun z => y1 = z) (fun z _ => [(1, iv a_k), (2, ptr b1 0), (4, ptr b2 0), (14, .bool z)]) (fun _ _ => [box b2 [iv 0, (sl hn)], box b1 [iv a_b.Size, (sl v0a)]]) ?_ ?_)))))))
 refine wcg (wlq (v := .agg #[iv a_b.Size, (sl v0a)]) (plb Zc pk1 R R R) R (bdO t1 fun v1 hv1 t1 => (wlc (cz0 ZeH R fun w hw => Zag w a_b v0a (ra r0 hw) hv1) R fun _ => (wlq (Zd R) R (mv R R (wlo (t := 10) t1 R (fun h1 t1 => ?_) fun h1 t1 => ?_))))))
 exact wgf (j := 3) R R R R R (wgf (j := 3) R R R R R (wgf (j := 3) R R R R R (wlq (pit R R) R (wln (wjm _ () (mtE t1) (su4 R R R R) so2)))))
 exact wgn (j := 3) R R R (mv R R (bdO t1 fun v2 hv2 t1 => (wgn (j := 3) R R R (wlc (cz0 Zbb R fun w hw => ZF w a_k 0 7 hv2) R (fun _ => (wgn (j := 3) R R R (wlq (Zd R) R (wlq (pif R R) R (wln (wjm _ () (mtE t1) (su4 R R R R) so2))))))))))
 intro j1 _ hp
 obtain rfl : j1 = y1 := hp.symm
 refine wqt (wcO t0 R (fun h2 t0 => ?_) fun h2 t0 => ?_)
 refine wcr (wlq (Zl R Zik) R (wls (sbx (cs' := [iv 0, (sl hn)]) Zc pz R R R R R R R) (wnt (wct (wqr ?_)))))
 obtain rfl := oi t0
 exact wqc R Zc R pz R fun w hw => ⟨hn, R, hw.weak (zc ZC zn)⟩
 refine wck (wqt (wcr (wlq (v := .agg #[iv a_b.Size, (sl v0a)]) (plb Zc pk1 R R R) R (bdO t0 fun v3 hv3 t0 => (wlc (cz1 Zq1 R fun w hw => Zg6 w a_b v0a (ra r0 hw) hv3) R fun x2 => (wle (eal (cs := [iv 0, (sl hn)]) Zau) R fun b3 => (wls (sbx (cs' := [iv v3.Size, (sl x2)]) Zc pz R R R R R R R) (wnt (wcs (wcr (mv R R (wlq (ZeS R R) R (wnt (bdO t0 fun y1 t1 t0 => (wj (J := GBlock) (X := Hd) (fun z => y1 = z) (fun _ _ => [(1, iv a_k), (4, ptr b2 0), (5, ptr b3 0)]) (fun z x => [box b3 [iv ((z).Size), (sl x)], box b2 [iv 0, (sl hn)], ownF (sl x) ((z).Cells)]) ?_ ?_)))))))))))))))
 refine wcO t1 R (fun h3 t1 => ?_) fun h3 t1 => ?_
 exact wcg (wlq (v := .agg #[iv a_b.Size, (sl v0a)]) (plb Zc pk3 R R R) R (bdO t1 fun v4 hv4 t1 => (wlc (cz1 Zv0 R fun w hw => Zmv w a_b v0a (ra r0 hw) hv4) R fun x4 => (wls (sbx (cs' := [iv v4.Size, (sl x4)]) Zc pk1 R R R R R R R) (wln (wjm _ x4 (mtE t1) (su3 R R R) (zc pz (zc pk2 so1))))))))
 exact wck (wjm _ x2 (mtE t1) (su3 R R R) (zc pz (zc pk1 so1)))
 intro j2 x3 hp
 obtain rfl : j2 = y1 := hp.symm
 refine wqt (wcs (wcr (asg R R (wnt (gdO t0 fun g1 t0 => (Zn t0 fun y1 l1 t0 => (wj (J := Int × (List GCell)) (X := Hd) (fun z => y1 = z) (fun _ _ => [(4, ptr b2 0), (5, ptr b3 0)]) (fun z x => [box b3 [iv z.1, (sl x)], box b2 [iv 0, (sl hn)], ownF (sl x) z.2]) ?_ ?_)))))))
 refine wcb (wcf (X := Hd) l1 (fun k1 s1 x1l => [(1, iv a_k), (4, ptr b2 0), (5, ptr b3 0), (6, iv ((k1 : Nat) : Int))]) (fun k1 s1 x1l => [box b3 [iv s1.1, (sl x1l)], box b2 [iv 0, (sl hn)], ownF (sl x1l) s1.2]) x3 (su4 R R R R) so3 fun k1 s1 x1l hN1 l1 => ?_)
 by_cases hk1 : k1 < ((a_k.tmod 4)).toNat
 refine fos l1 hk1 fun _ t1 l1 => ?_
 unfold Zfo at t1
 have c1 : (decide (((k1 : Nat) : Int) < (a_k.tmod 4))) = true := ddt (by omega)
 refine wcs (wcr (mv R R (mv R R (wlq (ZhA R R (by decide)) R ?_))))
 refine wlq (pls R R) R (wnt (wft R c1 (wck (wqt (wcs (wcb (wcg (wlq (v := .agg #[iv s1.1, (sl x1l)]) (plb Zc pz R R R) R (bdO t1 fun v5 hv5 t1 => (wlc (cz1 Zwd R fun w hw => Zoi w (GBlock.mk s1.1 s1.2) x1l (Rg.on (rgo pk2) hw) hv5) R fun x6 => (wls (sbx (cs' := [iv v5.Size, (sl x6)]) Zc pk1 R R R R R R R) (wln (wqb (wqt (wcg (mv R R (wlq (Zj R R (by omega)) R ?_)))))))))))))))))
 exact asg R R (wln (Zk hk1 (stpN l1 t1) x6 (su4 R R R R) (zc pz (zc pk1 so1))))
 have c1 : (decide (((k1 : Nat) : Int) < (a_k.tmod 4))) = false := ddf (by omega)
 have en1 := foe l1 hk1
 refine wcs (wcr (mv R R (mv R R (wlq (ZhA R R (by decide)) R ?_))))
 exact wlq (pls R R) R (wnt (wff R c1 (wcx (wqe (wqe (wbx (wjm _ x1l (Sum.inl.inj en1) (su2 R R) so3)))))))
 intro e1 x5 hp
 obtain rfl : e1 = y1 := hp.symm
 refine wqt (wcr (wlq (v := .agg #[iv e1.1, (sl x5)]) (plb Zc pz R R R) R (wls (sbx (cs' := [iv e1.1, (sl x5)]) Zc pk1 R R R R R R R) (wnt (wct ?_)))))
 obtain rfl := oi t0
 exact wqc R Zc R pz R fun w hw => ⟨x5, R, hw.weak (zc pk2 zn)⟩

theorem Zkt (w : World) (a_c : GCell) {r : Str} (t0 : Zeh a_c = some r) : Calls Tryz.prog 68 #[.agg #[.int .i64 a_c.Split, .int .i64 a_c.A, .int .i64 a_c.B]] w fun e w' => e = .returned (bs r) ∧ SH w [] [] w' := by
 refine cwc (args := [_]) Tryz.func68 R Tryz.ntmps68 R ?_
 unfold Zeh at t0
 refine wcr (wle (Zg R R) R fun b1 => (asg R R (wnt (wcs (wcr (wlq (v := .agg #[iv a_c.Split, iv a_c.A, iv a_c.B]) (plb Zh pz R R R) R (bdO t0 fun v1 hv1 t0 => (wlc (cz0 ZiV R fun w hw => Zcy w a_c hv1) R fun _ => (wlq (Zd R) R (wnt (wcO t0 R (fun h1 t0 => ?_) fun h1 t0 => ?_)))))))))))
 refine wcr (asg R R (wnt (wct (wqr ?_))))
 obtain rfl := oi t0
 exact wq1 R R fun w hw => ⟨R, hw.weak zn⟩
 refine wck (wqt (wcs (wcr (wlq (pof Zbc R) R (wlq (v := iv a_c.Split) (plx tk_3 pz R R) R (wnt (wcb (wcr (wlq (pol R R) R (asg R R (wnt (wcO t0 R (fun h2 t0 => ?_) fun h2 t0 => ?_))))))))))))
 refine wcs (wcd [box b1 [iv a_c.Split, iv a_c.A, iv a_c.B]] 9 mixed (aq 0 R (pof ZaT R) so1 R (aq (v := iv a_c.A) 1 R (plx tk_3 pz R R) so1 R (aq 4 R (pof Za6 R) so1 R (aq (v := iv a_c.B) 5 R (plx tk_3 pz R R) so1 R (a1 2 (bdO t0 fun v2 hv2 t0 => (wsc R (cz0 Zfq R fun w hw => Z4 w a_c.A hv2) (fun _ => (zt so1)) R fun _ => (gdO t0 fun g1 t0 => (aq 3 R (ZO R R g1) so1 R (a1 6 (bdO t0 fun v3 hv3 t0 => (wsc R (cz0 Zfq R fun w hw => Z4 w a_c.B hv3) (fun _ => (zt so1)) R fun _ => (gdO t0 fun g2 t0 => (aq 7 R (ZO R R g2) so1 R (aq 8 R (Zp R) so1 R (ae (wqt (wct (wbr (wqr ?_)))))))))))))))))))))
 obtain rfl := oi t0
 exact wq1 R R fun w hw => ⟨R, hw.weak zn⟩
 refine wcr (wlq (pol R R) R (asg R R (wnt (wcO t0 R (fun h3 t0 => ?_) fun h3 t0 => ?_))))
 refine wcs (wcd [box b1 [iv a_c.Split, iv a_c.A, iv a_c.B]] 9 mixed (aq 0 R (pof ZaT R) so1 R (aq (v := iv a_c.A) 1 R (plx tk_3 pz R R) so1 R (aq 4 R (pof Za6 R) so1 R (aq (v := iv a_c.B) 5 R (plx tk_3 pz R R) so1 R (a1 2 (bdO t0 fun v4 hv4 t0 => (wsc R (cz0 Zfq R fun w hw => Z4 w a_c.A hv4) (fun _ => (zt so1)) R fun _ => (gdO t0 fun g3 t0 => (aq 3 R (ZO R R g3) so1 R (a1 6 (bdO t0 fun v5 hv5 t0 => (wsc R (cz0 Zfq R fun w hw => Z4 w a_c.B hv5) (fun _ => (zt so1)) R fun _ => (gdO t0 fun g4 t0 => (aq 7 R (ZO R R g4) so1 R (aq 8 R (Zp R) so1 R (ae (wqt (wct (wbr (wqr ?_)))))))))))))))))))))
 obtain rfl := oi t0
 exact wq1 R R fun w hw => ⟨R, hw.weak zn⟩
 refine wck (wqb (wqt (wcr (wlq (pof ZaT R) R (wlq (v := iv a_c.A) (plx tk_3 pz R R) R (bdO t0 fun v6 hv6 t0 => (wlc (cz0 Zfq R fun w hw => Z4 w a_c.A hv6) R fun _ => (asg R R (wnt (wct ?_))))))))))
 obtain rfl := oi t0
 exact wq1 R R fun w hw => ⟨R, hw.weak zn⟩

end Go.Proofs.YtjfjbgihojiijacGreatDoor
