/-
 Each Go function computes its Lean function (part 2).
-/
import Derived.Test.YtmkmlnfkokfmaabGreatDoorWalks1
namespace Go.Proofs.YtmkmlnfkokfmaabGreatDoor
open Go Go.RowKit Go.Proofs
set_option maxRecDepth 100000

theorem c_spec_l38Copy (w : World) (a_g : GGuild) (v0a : Hd) (r0 : rdF w (dm w []) (sl v0a) a_g.Members) (v1a : Hd) (r1 : rdF w (dm w []) (sl v1a) a_g.Stock) (v2a : Hd) (u2a : List Value) (r2 : RdL w (dm w []) (sl v2a) u2a a_g.Entries) (v3a : Hd) (r3 : rdF w (dm w []) (sl v3a) a_g.Books) {r : GGuild} (t0 : spec_l38Copy a_g = some r) : Calls Tryz.prog 40 #[.agg #[(sl v0a), (sl v1a), (sl v2a), (sl v3a), .int .i64 a_g.Round, .int .i64 a_g.Year]] w fun e w' => ∃ x : Hd × Hd × Hd × (List Value) × Hd, e = .returned (.agg #[(sl x.1), (sl x.2.1), (sl x.2.2.1), (sl x.2.2.2.2), .int .i64 r.Round, .int .i64 r.Year]) ∧ SH w [] [ownF (sl x.1) r.Members, ownF (sl x.2.1) r.Stock, own (sl x.2.2.1) x.2.2.2.1 r.Entries, ownF (sl x.2.2.2.2) r.Books] w' := by
 refine cwc (args := [_]) Tryz.func40 R Tryz.ntmps40 R ?_
 unfold spec_l38Copy at t0
 refine wcr (wle (eo_box R R) R fun b1 => (wle (eal (cs := [(sl hn), (sl hn), (sl hn), (sl hn), iv 0, iv 0]) za_36) R fun b2 => (wnt (wcs (gdO t0 fun g1 t0 => (gdO t0 fun g2 t0 => (gdO t0 fun g3 t0 => (wcj (X := Nat × Hd × Hd × Hd) (fun _ => True) (fun z => [(1, ptr b1 0), (2, ptr b2 0), (3, ptr z.1 0)]) (fun z => [box z.1 [(sl z.2.1), (sl z.2.2.1), (sl hn), (sl z.2.2.2), iv a_g.Round, iv a_g.Year], ownF (sl z.2.2.2) (([] : List GBooking) ++ a_g.Books), ownF (sl z.2.2.1) (([] : List Int) ++ a_g.Stock), ownF (sl z.2.1) (([] : List GMember) ++ a_g.Members), box b2 [(sl hn), (sl hn), (sl hn), (sl hn), iv 0, iv 0], box b1 [(sl v0a), (sl v1a), (sl v2a), (sl v3a), iv a_g.Round, iv a_g.Year]]) ?_ ?_))))))))
 refine wcd [box b2 [(sl hn), (sl hn), (sl hn), (sl hn), iv 0, iv 0], box b1 [(sl v0a), (sl v1a), (sl v2a), (sl v3a), iv a_g.Round, iv a_g.Year]] 18 mixed (wa_dag [⟨9, #[false, true, true, false, false, true, true, false, false, true, true, false, true, true, true, true, false, false, false], Unit, fun _ => [(1, ptr b1 0), (2, ptr b2 0), (8, (sl v0a)), (12, (sl v1a)), (16, (sl v3a)), (19, iv a_g.Round), (21, iv a_g.Year)], fun _ => [box b2 [(sl hn), (sl hn), (sl hn), (sl hn), iv 0, iv 0], box b1 [(sl v0a), (sl v1a), (sl v2a), (sl v3a), iv a_g.Round, iv a_g.Year]]⟩, ⟨8, #[true, true, true, false, false, true, true, false, false, true, true, false, true, true, true, true, false, false, false], Nat, fun z => [(1, ptr b1 0), (2, ptr b2 0), (6, (sl (⟨some ⟨z, 0, none⟩, 0, 0⟩ : Hd))), (8, (sl v0a)), (12, (sl v1a)), (16, (sl v3a)), (19, iv a_g.Round), (21, iv a_g.Year)], fun z => [box z [], box b2 [(sl hn), (sl hn), (sl hn), (sl hn), iv 0, iv 0], box b1 [(sl v0a), (sl v1a), (sl v2a), (sl v3a), iv a_g.Round, iv a_g.Year]]⟩, ⟨8, #[false, true, true, false, true, true, true, false, false, true, true, false, true, true, true, true, false, false, false], Nat, fun z => [(1, ptr b1 0), (2, ptr b2 0), (8, (sl v0a)), (10, (sl (⟨some ⟨z, 0, none⟩, 0, 0⟩ : Hd))), (12, (sl v1a)), (16, (sl v3a)), (19, iv a_g.Round), (21, iv a_g.Year)], fun z => [box z [], box b2 [(sl hn), (sl hn), (sl hn), (sl hn), iv 0, iv 0], box b1 [(sl v0a), (sl v1a), (sl v2a), (sl v3a), iv a_g.Round, iv a_g.Year]]⟩, ⟨8, #[false, true, true, false, false, true, true, false, true, true, true, false, true, true, true, true, false, false, false], Nat, fun z => [(1, ptr b1 0), (2, ptr b2 0), (8, (sl v0a)), (12, (sl v1a)), (14, (sl (⟨some ⟨z, 0, none⟩, 0, 0⟩ : Hd))), (16, (sl v3a)), (19, iv a_g.Round), (21, iv a_g.Year)], fun z => [box z [], box b2 [(sl hn), (sl hn), (sl hn), (sl hn), iv 0, iv 0], box b1 [(sl v0a), (sl v1a), (sl v2a), (sl v3a), iv a_g.Round, iv a_g.Year]]⟩, ⟨8, #[false, true, true, false, false, true, true, false, false, true, true, false, true, true, true, true, false, true, false], Nat, fun z => [(1, ptr b1 0), (2, ptr b2 0), (3, ptr z 0), (8, (sl v0a)), (12, (sl v1a)), (16, (sl v3a)), (19, iv a_g.Round), (21, iv a_g.Year)], fun z => [box z [(sl hn), (sl hn), (sl hn), (sl hn), iv 0, iv 0], box b2 [(sl hn), (sl hn), (sl hn), (sl hn), iv 0, iv 0], box b1 [(sl v0a), (sl v1a), (sl v2a), (sl v3a), iv a_g.Round, iv a_g.Year]]⟩, ⟨7, #[true, true, true, true, false, true, true, false, false, true, true, false, true, true, true, true, false, false, false], Hd, fun z => [(1, ptr b1 0), (2, ptr b2 0), (9, (sl z)), (12, (sl v1a)), (16, (sl v3a)), (19, iv a_g.Round), (21, iv a_g.Year)], fun z => [ownF (sl z) (([] : List GMember) ++ a_g.Members), box b2 [(sl hn), (sl hn), (sl hn), (sl hn), iv 0, iv 0], box b1 [(sl v0a), (sl v1a), (sl v2a), (sl v3a), iv a_g.Round, iv a_g.Year]]⟩, ⟨7, #[true, true, true, false, true, true, true, false, false, true, true, false, true, true, true, true, false, false, false], Nat × Nat, fun z => [(1, ptr b1 0), (2, ptr b2 0), (6, (sl (⟨some ⟨z.1, 0, none⟩, 0, 0⟩ : Hd))), (8, (sl v0a)), (10, (sl (⟨some ⟨z.2, 0, none⟩, 0, 0⟩ : Hd))), (12, (sl v1a)), (16, (sl v3a)), (19, iv a_g.Round), (21, iv a_g.Year)], fun z => [box z.2 [], box z.1 [], box b2 [(sl hn), (sl hn), (sl hn), (sl hn), iv 0, iv 0], box b1 [(sl v0a), (sl v1a), (sl v2a), (sl v3a), iv a_g.Round, iv a_g.Year]]⟩, ⟨7, #[true, true, true, false, false, true, true, false, true, true, true, false, true, true, true, true, false, false, false], Nat × Nat, fun z => [(1, ptr b1 0), (2, ptr b2 0), (6, (sl (⟨some ⟨z.1, 0, none⟩, 0, 0⟩ : Hd))), (8, (sl v0a)), (12, (sl v1a)), (14, (sl (⟨some ⟨z.2, 0, none⟩, 0, 0⟩ : Hd))), (16, (sl v3a)), (19, iv a_g.Round), (21, iv a_g.Year)], fun z => [box z.2 [], box z.1 [], box b2 [(sl hn), (sl hn), (sl hn), (sl hn), iv 0, iv 0], box b1 [(sl v0a), (sl v1a), (sl v2a), (sl v3a), iv a_g.Round, iv a_g.Year]]⟩, ⟨7, #[true, true, true, false, false, true, true, false, false, true, true, false, true, true, true, true, false, true, false], Nat × Nat, fun z => [(1, ptr b1 0), (2, ptr b2 0), (3, ptr z.1 0), (6, (sl (⟨some ⟨z.2, 0, none⟩, 0, 0⟩ : Hd))), (8, (sl v0a)), (12, (sl v1a)), (16, (sl v3a)), (19, iv a_g.Round), (21, iv a_g.Year)], fun z => [box z.1 [(sl hn), (sl hn), (sl hn), (sl hn), iv 0, iv 0], box z.2 [], box b2 [(sl hn), (sl hn), (sl hn), (sl hn), iv 0, iv 0], box b1 [(sl v0a), (sl v1a), (sl v2a), (sl v3a), iv a_g.Round, iv a_g.Year]]⟩, ⟨7, #[false, true, true, false, true, true, true, false, true, true, true, false, true, true, true, true, false, false, false], Nat × Nat, fun z => [(1, ptr b1 0), (2, ptr b2 0), (8, (sl v0a)), (10, (sl (⟨some ⟨z.1, 0, none⟩, 0, 0⟩ : Hd))), (12, (sl v1a)), (14, (sl (⟨some ⟨z.2, 0, none⟩, 0, 0⟩ : Hd))), (16, (sl v3a)), (19, iv a_g.Round), (21, iv a_g.Year)], fun z => [box z.2 [], box z.1 [], box b2 [(sl hn), (sl hn), (sl hn), (sl hn), iv 0, iv 0], box b1 [(sl v0a), (sl v1a), (sl v2a), (sl v3a), iv a_g.Round, iv a_g.Year]]⟩, ⟨7, #[false, true, true, false, true, true, true, false, false, true, true, false, true, true, true, true, false, true, false], Nat × Nat, fun z => [(1, ptr b1 0), (2, ptr b2 0), (3, ptr z.1 0), (8, (sl v0a)), (10, (sl (⟨some ⟨z.2, 0, none⟩, 0, 0⟩ : Hd))), (12, (sl v1a)), (16, (sl v3a)), (19, iv a_g.Round), (21, iv a_g.Year)], fun z => [box z.1 [(sl hn), (sl hn), (sl hn), (sl hn), iv 0, iv 0], box z.2 [], box b2 [(sl hn), (sl hn), (sl hn), (sl hn), iv 0, iv 0], box b1 [(sl v0a), (sl v1a), (sl v2a), (sl v3a), iv a_g.Round, iv a_g.Year]]⟩, ⟨7, #[false, true, true, false, false, true, true, false, true, true, true, false, true, true, true, true, false, true, false], Nat × Nat, fun z => [(1, ptr b1 0), (2, ptr b2 0), (3, ptr z.1 0), (8, (sl v0a)), (12, (sl v1a)), (14, (sl (⟨some ⟨z.2, 0, none⟩, 0, 0⟩ : Hd))), (16, (sl v3a)), (19, iv a_g.Round), (21, iv a_g.Year)], fun z => [box z.1 [(sl hn), (sl hn), (sl hn), (sl hn), iv 0, iv 0], box z.2 [], box b2 [(sl hn), (sl hn), (sl hn), (sl hn), iv 0, iv 0], box b1 [(sl v0a), (sl v1a), (sl v2a), (sl v3a), iv a_g.Round, iv a_g.Year]]⟩, ⟨6, #[true, true, true, true, true, true, true, false, false, true, true, false, true, true, true, true, false, false, false], Hd × Nat, fun z => [(1, ptr b1 0), (2, ptr b2 0), (9, (sl z.1)), (10, (sl (⟨some ⟨z.2, 0, none⟩, 0, 0⟩ : Hd))), (12, (sl v1a)), (16, (sl v3a)), (19, iv a_g.Round), (21, iv a_g.Year)], fun z => [box z.2 [], ownF (sl z.1) (([] : List GMember) ++ a_g.Members), box b2 [(sl hn), (sl hn), (sl hn), (sl hn), iv 0, iv 0], box b1 [(sl v0a), (sl v1a), (sl v2a), (sl v3a), iv a_g.Round, iv a_g.Year]]⟩, ⟨6, #[true, true, true, true, false, true, true, false, true, true, true, false, true, true, true, true, false, false, false], Hd × Nat, fun z => [(1, ptr b1 0), (2, ptr b2 0), (9, (sl z.1)), (12, (sl v1a)), (14, (sl (⟨some ⟨z.2, 0, none⟩, 0, 0⟩ : Hd))), (16, (sl v3a)), (19, iv a_g.Round), (21, iv a_g.Year)], fun z => [box z.2 [], ownF (sl z.1) (([] : List GMember) ++ a_g.Members), box b2 [(sl hn), (sl hn), (sl hn), (sl hn), iv 0, iv 0], box b1 [(sl v0a), (sl v1a), (sl v2a), (sl v3a), iv a_g.Round, iv a_g.Year]]⟩, ⟨6, #[true, true, true, true, false, true, true, false, false, true, true, false, true, true, true, true, false, true, false], Nat × Hd, fun z => [(1, ptr b1 0), (2, ptr b2 0), (3, ptr z.1 0), (9, (sl z.2)), (12, (sl v1a)), (16, (sl v3a)), (19, iv a_g.Round), (21, iv a_g.Year)], fun z => [box z.1 [(sl hn), (sl hn), (sl hn), (sl hn), iv 0, iv 0], ownF (sl z.2) (([] : List GMember) ++ a_g.Members), box b2 [(sl hn), (sl hn), (sl hn), (sl hn), iv 0, iv 0], box b1 [(sl v0a), (sl v1a), (sl v2a), (sl v3a), iv a_g.Round, iv a_g.Year]]⟩, ⟨6, #[true, true, true, false, true, true, true, false, true, true, true, false, true, true, true, true, false, false, false], Nat × Nat × Nat, fun z => [(1, ptr b1 0), (2, ptr b2 0), (6, (sl (⟨some ⟨z.1, 0, none⟩, 0, 0⟩ : Hd))), (8, (sl v0a)), (10, (sl (⟨some ⟨z.2.1, 0, none⟩, 0, 0⟩ : Hd))), (12, (sl v1a)), (14, (sl (⟨some ⟨z.2.2, 0, none⟩, 0, 0⟩ : Hd))), (16, (sl v3a)), (19, iv a_g.Round), (21, iv a_g.Year)], fun z => [box z.2.2 [], box z.2.1 [], box z.1 [], box b2 [(sl hn), (sl hn), (sl hn), (sl hn), iv 0, iv 0], box b1 [(sl v0a), (sl v1a), (sl v2a), (sl v3a), iv a_g.Round, iv a_g.Year]]⟩, ⟨6, #[true, true, true, false, true, true, true, false, false, true, true, false, true, true, true, true, false, true, false], Nat × Nat × Nat, fun z => [(1, ptr b1 0), (2, ptr b2 0), (3, ptr z.1 0), (6, (sl (⟨some ⟨z.2.1, 0, none⟩, 0, 0⟩ : Hd))), (8, (sl v0a)), (10, (sl (⟨some ⟨z.2.2, 0, none⟩, 0, 0⟩ : Hd))), (12, (sl v1a)), (16, (sl v3a)), (19, iv a_g.Round), (21, iv a_g.Year)], fun z => [box z.1 [(sl hn), (sl hn), (sl hn), (sl hn), iv 0, iv 0], box z.2.2 [], box z.2.1 [], box b2 [(sl hn), (sl hn), (sl hn), (sl hn), iv 0, iv 0], box b1 [(sl v0a), (sl v1a), (sl v2a), (sl v3a), iv a_g.Round, iv a_g.Year]]⟩, ⟨6, #[true, true, true, false, false, true, true, false, true, true, true, false, true, true, true, true, false, true, false], Nat × Nat × Nat, fun z => [(1, ptr b1 0), (2, ptr b2 0), (3, ptr z.1 0), (6, (sl (⟨some ⟨z.2.1, 0, none⟩, 0, 0⟩ : Hd))), (8, (sl v0a)), (12, (sl v1a)), (14, (sl (⟨some ⟨z.2.2, 0, none⟩, 0, 0⟩ : Hd))), (16, (sl v3a)), (19, iv a_g.Round), (21, iv a_g.Year)], fun z => [box z.1 [(sl hn), (sl hn), (sl hn), (sl hn), iv 0, iv 0], box z.2.2 [], box z.2.1 [], box b2 [(sl hn), (sl hn), (sl hn), (sl hn), iv 0, iv 0], box b1 [(sl v0a), (sl v1a), (sl v2a), (sl v3a), iv a_g.Round, iv a_g.Year]]⟩, ⟨6, #[false, true, true, false, true, true, true, false, true, true, true, false, true, true, true, true, false, true, false], Nat × Nat × Nat, fun z => [(1, ptr b1 0), (2, ptr b2 0), (3, ptr z.1 0), (8, (sl v0a)), (10, (sl (⟨some ⟨z.2.1, 0, none⟩, 0, 0⟩ : Hd))), (12, (sl v1a)), (14, (sl (⟨some ⟨z.2.2, 0, none⟩, 0, 0⟩ : Hd))), (16, (sl v3a)), (19, iv a_g.Round), (21, iv a_g.Year)], fun z => [box z.1 [(sl hn), (sl hn), (sl hn), (sl hn), iv 0, iv 0], box z.2.2 [], box z.2.1 [], box b2 [(sl hn), (sl hn), (sl hn), (sl hn), iv 0, iv 0], box b1 [(sl v0a), (sl v1a), (sl v2a), (sl v3a), iv a_g.Round, iv a_g.Year]]⟩, ⟨5, #[true, true, true, true, true, true, true, true, false, true, true, false, true, true, true, true, false, false, false], Hd × Hd, fun z => [(1, ptr b1 0), (2, ptr b2 0), (9, (sl z.1)), (13, (sl z.2)), (16, (sl v3a)), (19, iv a_g.Round), (21, iv a_g.Year)], fun z => [ownF (sl z.2) (([] : List Int) ++ a_g.Stock), ownF (sl z.1) (([] : List GMember) ++ a_g.Members), box b2 [(sl hn), (sl hn), (sl hn), (sl hn), iv 0, iv 0], box b1 [(sl v0a), (sl v1a), (sl v2a), (sl v3a), iv a_g.Round, iv a_g.Year]]⟩, ⟨5, #[true, true, true, true, true, true, true, false, true, true, true, false, true, true, true, true, false, false, false], Hd × Nat × Nat, fun z => [(1, ptr b1 0), (2, ptr b2 0), (9, (sl z.1)), (10, (sl (⟨some ⟨z.2.1, 0, none⟩, 0, 0⟩ : Hd))), (12, (sl v1a)), (14, (sl (⟨some ⟨z.2.2, 0, none⟩, 0, 0⟩ : Hd))), (16, (sl v3a)), (19, iv a_g.Round), (21, iv a_g.Year)], fun z => [box z.2.2 [], box z.2.1 [], ownF (sl z.1) (([] : List GMember) ++ a_g.Members), box b2 [(sl hn), (sl hn), (sl hn), (sl hn), iv 0, iv 0], box b1 [(sl v0a), (sl v1a), (sl v2a), (sl v3a), iv a_g.Round, iv a_g.Year]]⟩, ⟨5, #[true, true, true, true, true, true, true, false, false, true, true, false, true, true, true, true, false, true, false], Nat × Hd × Nat, fun z => [(1, ptr b1 0), (2, ptr b2 0), (3, ptr z.1 0), (9, (sl z.2.1)), (10, (sl (⟨some ⟨z.2.2, 0, none⟩, 0, 0⟩ : Hd))), (12, (sl v1a)), (16, (sl v3a)), (19, iv a_g.Round), (21, iv a_g.Year)], fun z => [box z.1 [(sl hn), (sl hn), (sl hn), (sl hn), iv 0, iv 0], box z.2.2 [], ownF (sl z.2.1) (([] : List GMember) ++ a_g.Members), box b2 [(sl hn), (sl hn), (sl hn), (sl hn), iv 0, iv 0], box b1 [(sl v0a), (sl v1a), (sl v2a), (sl v3a), iv a_g.Round, iv a_g.Year]]⟩, ⟨5, #[true, true, true, true, false, true, true, false, true, true, true, false, true, true, true, true, false, true, false], Nat × Hd × Nat, fun z => [(1, ptr b1 0), (2, ptr b2 0), (3, ptr z.1 0), (9, (sl z.2.1)), (12, (sl v1a)), (14, (sl (⟨some ⟨z.2.2, 0, none⟩, 0, 0⟩ : Hd))), (16, (sl v3a)), (19, iv a_g.Round), (21, iv a_g.Year)], fun z => [box z.1 [(sl hn), (sl hn), (sl hn), (sl hn), iv 0, iv 0], box z.2.2 [], ownF (sl z.2.1) (([] : List GMember) ++ a_g.Members), box b2 [(sl hn), (sl hn), (sl hn), (sl hn), iv 0, iv 0], box b1 [(sl v0a), (sl v1a), (sl v2a), (sl v3a), iv a_g.Round, iv a_g.Year]]⟩, ⟨5, #[true, true, true, false, true, true, true, false, true, true, true, false, true, true, true, true, false, true, false], Nat × Nat × Nat × Nat, fun z => [(1, ptr b1 0), (2, ptr b2 0), (3, ptr z.1 0), (6, (sl (⟨some ⟨z.2.1, 0, none⟩, 0, 0⟩ : Hd))), (8, (sl v0a)), (10, (sl (⟨some ⟨z.2.2.1, 0, none⟩, 0, 0⟩ : Hd))), (12, (sl v1a)), (14, (sl (⟨some ⟨z.2.2.2, 0, none⟩, 0, 0⟩ : Hd))), (16, (sl v3a)), (19, iv a_g.Round), (21, iv a_g.Year)], fun z => [box z.1 [(sl hn), (sl hn), (sl hn), (sl hn), iv 0, iv 0], box z.2.2.2 [], box z.2.2.1 [], box z.2.1 [], box b2 [(sl hn), (sl hn), (sl hn), (sl hn), iv 0, iv 0], box b1 [(sl v0a), (sl v1a), (sl v2a), (sl v3a), iv a_g.Round, iv a_g.Year]]⟩, ⟨4, #[true, true, true, true, true, true, true, true, true, true, true, false, true, true, true, true, false, false, false], Hd × Hd × Nat, fun z => [(1, ptr b1 0), (2, ptr b2 0), (9, (sl z.1)), (13, (sl z.2.1)), (14, (sl (⟨some ⟨z.2.2, 0, none⟩, 0, 0⟩ : Hd))), (16, (sl v3a)), (19, iv a_g.Round), (21, iv a_g.Year)], fun z => [box z.2.2 [], ownF (sl z.2.1) (([] : List Int) ++ a_g.Stock), ownF (sl z.1) (([] : List GMember) ++ a_g.Members), box b2 [(sl hn), (sl hn), (sl hn), (sl hn), iv 0, iv 0], box b1 [(sl v0a), (sl v1a), (sl v2a), (sl v3a), iv a_g.Round, iv a_g.Year]]⟩, ⟨4, #[true, true, true, true, true, true, true, true, false, true, true, false, true, true, true, true, false, true, false], Nat × Hd × Hd, fun z => [(1, ptr b1 0), (2, ptr b2 0), (3, ptr z.1 0), (9, (sl z.2.1)), (13, (sl z.2.2)), (16, (sl v3a)), (19, iv a_g.Round), (21, iv a_g.Year)], fun z => [box z.1 [(sl hn), (sl hn), (sl hn), (sl hn), iv 0, iv 0], ownF (sl z.2.2) (([] : List Int) ++ a_g.Stock), ownF (sl z.2.1) (([] : List GMember) ++ a_g.Members), box b2 [(sl hn), (sl hn), (sl hn), (sl hn), iv 0, iv 0], box b1 [(sl v0a), (sl v1a), (sl v2a), (sl v3a), iv a_g.Round, iv a_g.Year]]⟩, ⟨4, #[true, true, true, true, true, true, true, false, true, true, true, false, true, true, true, true, false, true, false], Nat × Hd × Nat × Nat, fun z => [(1, ptr b1 0), (2, ptr b2 0), (3, ptr z.1 0), (9, (sl z.2.1)), (10, (sl (⟨some ⟨z.2.2.1, 0, none⟩, 0, 0⟩ : Hd))), (12, (sl v1a)), (14, (sl (⟨some ⟨z.2.2.2, 0, none⟩, 0, 0⟩ : Hd))), (16, (sl v3a)), (19, iv a_g.Round), (21, iv a_g.Year)], fun z => [box z.1 [(sl hn), (sl hn), (sl hn), (sl hn), iv 0, iv 0], box z.2.2.2 [], box z.2.2.1 [], ownF (sl z.2.1) (([] : List GMember) ++ a_g.Members), box b2 [(sl hn), (sl hn), (sl hn), (sl hn), iv 0, iv 0], box b1 [(sl v0a), (sl v1a), (sl v2a), (sl v3a), iv a_g.Round, iv a_g.Year]]⟩, ⟨2, #[true, true, true, true, true, true, true, true, true, true, true, true, true, true, true, true, true, false, false], Hd × Hd × Hd, fun z => [(1, ptr b1 0), (2, ptr b2 0), (22, .agg #[(sl z.1), (sl z.2.1), (sl hn), (sl z.2.2), iv a_g.Round, iv a_g.Year])], fun z => [ownF (sl z.2.2) (([] : List GBooking) ++ a_g.Books), ownF (sl z.2.1) (([] : List Int) ++ a_g.Stock), ownF (sl z.1) (([] : List GMember) ++ a_g.Members), box b2 [(sl hn), (sl hn), (sl hn), (sl hn), iv 0, iv 0], box b1 [(sl v0a), (sl v1a), (sl v2a), (sl v3a), iv a_g.Round, iv a_g.Year]]⟩, ⟨3, #[true, true, true, true, true, true, true, true, true, true, true, false, true, true, true, true, false, true, false], Nat × Hd × Hd × Nat, fun z => [(1, ptr b1 0), (2, ptr b2 0), (3, ptr z.1 0), (9, (sl z.2.1)), (13, (sl z.2.2.1)), (14, (sl (⟨some ⟨z.2.2.2, 0, none⟩, 0, 0⟩ : Hd))), (16, (sl v3a)), (19, iv a_g.Round), (21, iv a_g.Year)], fun z => [box z.1 [(sl hn), (sl hn), (sl hn), (sl hn), iv 0, iv 0], box z.2.2.2 [], ownF (sl z.2.2.1) (([] : List Int) ++ a_g.Stock), ownF (sl z.2.1) (([] : List GMember) ++ a_g.Members), box b2 [(sl hn), (sl hn), (sl hn), (sl hn), iv 0, iv 0], box b1 [(sl v0a), (sl v1a), (sl v2a), (sl v3a), iv a_g.Round, iv a_g.Year]]⟩, ⟨1, #[true, true, true, true, true, true, true, true, true, true, true, true, true, true, true, true, true, true, false], Nat × Hd × Hd × Hd, fun z => [(1, ptr b1 0), (2, ptr b2 0), (3, ptr z.1 0), (22, .agg #[(sl z.2.1), (sl z.2.2.1), (sl hn), (sl z.2.2.2), iv a_g.Round, iv a_g.Year])], fun z => [box z.1 [(sl hn), (sl hn), (sl hn), (sl hn), iv 0, iv 0], ownF (sl z.2.2.2) (([] : List GBooking) ++ a_g.Books), ownF (sl z.2.2.1) (([] : List Int) ++ a_g.Stock), ownF (sl z.2.1) (([] : List GMember) ++ a_g.Members), box b2 [(sl hn), (sl hn), (sl hn), (sl hn), iv 0, iv 0], box b1 [(sl v0a), (sl v1a), (sl v2a), (sl v3a), iv a_g.Round, iv a_g.Year]]⟩] ?_ fun H => ?_)
 refine List.forall_mem_cons.2 ⟨fun H => ?_, ?_⟩
 intro _
 dsimp only
 refine wa_4 (i := 0) (j := 4) (k := 8) (m := 17) (by kernel_rfl) ?_ ?_ ?_ ?_
 exact wse R (ebs R sb_32_0) (fun _ => (zt (zc pk1 (zc pk1 zn)))) R fun b0o => waj H 1 R (nl R) b0o R R (su8 R R R R R R R R) so3
 exact wse R (ebs R sb_23_0) (fun _ => (zt (zc pk1 (zc pk1 zn)))) R fun b4o => waj H 2 R (nl R) b4o R R (su8 R R R R R R R R) so3
 exact wse R (ebs R sb_34_0) (fun _ => (zt (zc pk1 (zc pk1 zn)))) R fun b8o => waj H 3 R (nl R) b8o R R (su8 R R R R R R R R) so3
 exact wse R (eal (cs := [(sl hn), (sl hn), (sl hn), (sl hn), iv 0, iv 0]) za_36) (fun _ => (zt (zc pk1 (zc pk1 zn)))) R fun b17o => waj H 4 R (nl R) b17o R R (su8 R R R R R R R R) so3
 refine List.forall_mem_cons.2 ⟨fun H => ?_, ?_⟩
 intro z
 dsimp only
 refine wa_4 (i := 3) (j := 4) (k := 8) (m := 17) (by kernel_rfl) ?_ ?_ ?_ ?_
 refine wse R (eo_append (xs := ([] : List GMember)) (ys := a_g.Members) ak_32 (pbo pz (n := 0) (xs := ([] : List GMember)) R R (by unfold maxLen; omega)) R R (slin_rd fun _ g => Rg.on (rga r0) g) g1) (fun _ => (zt (zc pk1 (zc pk1 zn)))) R fun x3o => ?_
 exact waj H 5 R (nl R) x3o R R (su7 R R R R R R R) so3
 exact wse R (ebs R sb_23_0) (fun _ => (zt (zc pk2 (zc pk2 zn)))) R fun b4o => waj H 6 R (nl R) (z, b4o) R R (su9 R R R R R R R R R) so4
 exact wse R (ebs R sb_34_0) (fun _ => (zt (zc pk2 (zc pk2 zn)))) R fun b8o => waj H 7 R (nl R) (z, b8o) R R (su9 R R R R R R R R R) so4
 exact wse R (eal (cs := [(sl hn), (sl hn), (sl hn), (sl hn), iv 0, iv 0]) za_36) (fun _ => (zt (zc pk2 (zc pk2 zn)))) R fun b17o => waj H 8 R (nl R) (b17o, z) R R (su9 R R R R R R R R R) so4
 refine List.forall_mem_cons.2 ⟨fun H => ?_, ?_⟩
 intro z
 dsimp only
 refine wa_3 (i := 0) (j := 8) (k := 17) (by kernel_rfl) ?_ ?_ ?_
 exact wse R (ebs R sb_32_0) (fun _ => (zt (zc pk2 (zc pk2 zn)))) R fun b0o => waj H 6 R (nl R) (b0o, z) R R (su9 R R R R R R R R R) (zc pk1 so3)
 exact wse R (ebs R sb_34_0) (fun _ => (zt (zc pk2 (zc pk2 zn)))) R fun b8o => waj H 9 R (nl R) (z, b8o) R R (su9 R R R R R R R R R) so4
 exact wse R (eal (cs := [(sl hn), (sl hn), (sl hn), (sl hn), iv 0, iv 0]) za_36) (fun _ => (zt (zc pk2 (zc pk2 zn)))) R fun b17o => waj H 10 R (nl R) (b17o, z) R R (su9 R R R R R R R R R) so4
 refine List.forall_mem_cons.2 ⟨fun H => ?_, ?_⟩
 intro z
 dsimp only
 refine wa_3 (i := 0) (j := 4) (k := 17) (by kernel_rfl) ?_ ?_ ?_
 exact wse R (ebs R sb_32_0) (fun _ => (zt (zc pk2 (zc pk2 zn)))) R fun b0o => waj H 7 R (nl R) (b0o, z) R R (su9 R R R R R R R R R) (zc pk1 so3)
 exact wse R (ebs R sb_23_0) (fun _ => (zt (zc pk2 (zc pk2 zn)))) R fun b4o => waj H 9 R (nl R) (b4o, z) R R (su9 R R R R R R R R R) (zc pk1 so3)
 exact wse R (eal (cs := [(sl hn), (sl hn), (sl hn), (sl hn), iv 0, iv 0]) za_36) (fun _ => (zt (zc pk2 (zc pk2 zn)))) R fun b17o => waj H 11 R (nl R) (b17o, z) R R (su9 R R R R R R R R R) so4
 refine List.forall_mem_cons.2 ⟨fun H => ?_, ?_⟩
 intro z
 dsimp only
 refine wa_3 (i := 0) (j := 4) (k := 8) (by kernel_rfl) ?_ ?_ ?_
 exact wse R (ebs R sb_32_0) (fun _ => (zt (zc pk2 (zc pk2 zn)))) R fun b0o => waj H 8 R (nl R) (z, b0o) R R (su9 R R R R R R R R R) (zc pk1 so3)
 exact wse R (ebs R sb_23_0) (fun _ => (zt (zc pk2 (zc pk2 zn)))) R fun b4o => waj H 10 R (nl R) (z, b4o) R R (su9 R R R R R R R R R) (zc pk1 so3)
 exact wse R (ebs R sb_34_0) (fun _ => (zt (zc pk2 (zc pk2 zn)))) R fun b8o => waj H 11 R (nl R) (z, b8o) R R (su9 R R R R R R R R R) (zc pk1 so3)
 refine List.forall_mem_cons.2 ⟨fun H => ?_, ?_⟩
 intro z
 dsimp only
 refine wa_3 (i := 4) (j := 8) (k := 17) (by kernel_rfl) ?_ ?_ ?_
 exact wse R (ebs R sb_23_0) (fun _ => (zt (zc pk2 (zc pk2 zn)))) R fun b4o => waj H 12 R (nl R) (z, b4o) R R (su8 R R R R R R R R) so4
 exact wse R (ebs R sb_34_0) (fun _ => (zt (zc pk2 (zc pk2 zn)))) R fun b8o => waj H 13 R (nl R) (z, b8o) R R (su8 R R R R R R R R) so4
 exact wse R (eal (cs := [(sl hn), (sl hn), (sl hn), (sl hn), iv 0, iv 0]) za_36) (fun _ => (zt (zc pk2 (zc pk2 zn)))) R fun b17o => waj H 14 R (nl R) (b17o, z) R R (su8 R R R R R R R R) so4
 refine List.forall_mem_cons.2 ⟨fun H => ?_, ?_⟩
 intro z
 dsimp only
 refine wa_3 (i := 3) (j := 8) (k := 17) (by kernel_rfl) ?_ ?_ ?_
 refine wse R (eo_append (xs := ([] : List GMember)) (ys := a_g.Members) ak_32 (pbo pk1 (n := 0) (xs := ([] : List GMember)) R R (by unfold maxLen; omega)) R R (slin_rd fun _ g => Rg.on (rga r0) g) g1) (fun _ => (zt (zc pk2 (zc pk2 zn)))) R fun x3o => ?_
 exact waj H 12 R (nl R) (x3o, z.2) R R (su8 R R R R R R R R) (zc pk1 so3)
 exact wse R (ebs R sb_34_0) (fun _ => (zt (zc pk3 (zc pk3 zn)))) R fun b8o => waj H 15 R (nl R) (z.1, z.2, b8o) R R (su10 R R R R R R R R R R) so5
 exact wse R (eal (cs := [(sl hn), (sl hn), (sl hn), (sl hn), iv 0, iv 0]) za_36) (fun _ => (zt (zc pk3 (zc pk3 zn)))) R fun b17o => waj H 16 R (nl R) (b17o, z.1, z.2) R R (su10 R R R R R R R R R R) so5
 refine List.forall_mem_cons.2 ⟨fun H => ?_, ?_⟩
 intro z
 dsimp only
 refine wa_3 (i := 3) (j := 4) (k := 17) (by kernel_rfl) ?_ ?_ ?_
 refine wse R (eo_append (xs := ([] : List GMember)) (ys := a_g.Members) ak_32 (pbo pk1 (n := 0) (xs := ([] : List GMember)) R R (by unfold maxLen; omega)) R R (slin_rd fun _ g => Rg.on (rga r0) g) g1) (fun _ => (zt (zc pk2 (zc pk2 zn)))) R fun x3o => ?_
 exact waj H 13 R (nl R) (x3o, z.2) R R (su8 R R R R R R R R) (zc pk1 so3)
 exact wse R (ebs R sb_23_0) (fun _ => (zt (zc pk3 (zc pk3 zn)))) R fun b4o => waj H 15 R (nl R) (z.1, b4o, z.2) R R (su10 R R R R R R R R R R) (zc pk1 so4)
 exact wse R (eal (cs := [(sl hn), (sl hn), (sl hn), (sl hn), iv 0, iv 0]) za_36) (fun _ => (zt (zc pk3 (zc pk3 zn)))) R fun b17o => waj H 17 R (nl R) (b17o, z.1, z.2) R R (su10 R R R R R R R R R R) so5
 refine List.forall_mem_cons.2 ⟨fun H => ?_, ?_⟩
 intro z
 dsimp only
 refine wa_3 (i := 3) (j := 4) (k := 8) (by kernel_rfl) ?_ ?_ ?_
 refine wse R (eo_append (xs := ([] : List GMember)) (ys := a_g.Members) ak_32 (pbo pk1 (n := 0) (xs := ([] : List GMember)) R R (by unfold maxLen; omega)) R R (slin_rd fun _ g => Rg.on (rga r0) g) g1) (fun _ => (zt (zc pk2 (zc pk2 zn)))) R fun x3o => ?_
 exact waj H 14 R (nl R) (z.1, x3o) R R (su8 R R R R R R R R) (zc pk1 so3)
 exact wse R (ebs R sb_23_0) (fun _ => (zt (zc pk3 (zc pk3 zn)))) R fun b4o => waj H 16 R (nl R) (z.1, z.2, b4o) R R (su10 R R R R R R R R R R) (zc pk1 so4)
 exact wse R (ebs R sb_34_0) (fun _ => (zt (zc pk3 (zc pk3 zn)))) R fun b8o => waj H 17 R (nl R) (z.1, z.2, b8o) R R (su10 R R R R R R R R R R) (zc pk1 so4)
 refine List.forall_mem_cons.2 ⟨fun H => ?_, ?_⟩
 intro z
 dsimp only
 refine wa_2 (i := 0) (j := 17) (by kernel_rfl) ?_ ?_
 exact wse R (ebs R sb_32_0) (fun _ => (zt (zc pk3 (zc pk3 zn)))) R fun b0o => waj H 15 R (nl R) (b0o, z.1, z.2) R R (su10 R R R R R R R R R R) (zc pk1 (zc pk1 so3))
 exact wse R (eal (cs := [(sl hn), (sl hn), (sl hn), (sl hn), iv 0, iv 0]) za_36) (fun _ => (zt (zc pk3 (zc pk3 zn)))) R fun b17o => waj H 18 R (nl R) (b17o, z.1, z.2) R R (su10 R R R R R R R R R R) so5
 refine List.forall_mem_cons.2 ⟨fun H => ?_, ?_⟩
 intro z
 dsimp only
 refine wa_2 (i := 0) (j := 8) (by kernel_rfl) ?_ ?_
 exact wse R (ebs R sb_32_0) (fun _ => (zt (zc pk3 (zc pk3 zn)))) R fun b0o => waj H 16 R (nl R) (z.1, b0o, z.2) R R (su10 R R R R R R R R R R) (zc pk1 (zc pk1 so3))
 exact wse R (ebs R sb_34_0) (fun _ => (zt (zc pk3 (zc pk3 zn)))) R fun b8o => waj H 18 R (nl R) (z.1, z.2, b8o) R R (su10 R R R R R R R R R R) (zc pk1 so4)
 refine List.forall_mem_cons.2 ⟨fun H => ?_, ?_⟩
 intro z
 dsimp only
 refine wa_2 (i := 0) (j := 4) (by kernel_rfl) ?_ ?_
 exact wse R (ebs R sb_32_0) (fun _ => (zt (zc pk3 (zc pk3 zn)))) R fun b0o => waj H 17 R (nl R) (z.1, b0o, z.2) R R (su10 R R R R R R R R R R) (zc pk1 (zc pk1 so3))
 exact wse R (ebs R sb_23_0) (fun _ => (zt (zc pk3 (zc pk3 zn)))) R fun b4o => waj H 18 R (nl R) (z.1, b4o, z.2) R R (su10 R R R R R R R R R R) (zc pk1 (zc pk1 so3))
 refine List.forall_mem_cons.2 ⟨fun H => ?_, ?_⟩
 intro z
 dsimp only
 refine wa_3 (i := 7) (j := 8) (k := 17) (by kernel_rfl) ?_ ?_ ?_
 refine wse R (eo_append (xs := ([] : List Int)) (ys := a_g.Stock) ak_23 (pbo pz (n := 0) (xs := ([] : List Int)) R R (by unfold maxLen; omega)) R R (slin_rd fun _ g => Rg.on (rga r1) g) g2) (fun _ => (zt (zc pk2 (zc pk2 zn)))) R fun x7o => ?_
 exact waj H 19 R (nl R) (z.1, x7o) R R (su7 R R R R R R R) so4
 exact wse R (ebs R sb_34_0) (fun _ => (zt (zc pk3 (zc pk3 zn)))) R fun b8o => waj H 20 R (nl R) (z.1, z.2, b8o) R R (su9 R R R R R R R R R) so5
 exact wse R (eal (cs := [(sl hn), (sl hn), (sl hn), (sl hn), iv 0, iv 0]) za_36) (fun _ => (zt (zc pk3 (zc pk3 zn)))) R fun b17o => waj H 21 R (nl R) (b17o, z.1, z.2) R R (su9 R R R R R R R R R) so5
 refine List.forall_mem_cons.2 ⟨fun H => ?_, ?_⟩
 intro z
 dsimp only
 refine wa_2 (i := 4) (j := 17) (by kernel_rfl) ?_ ?_
 exact wse R (ebs R sb_23_0) (fun _ => (zt (zc pk3 (zc pk3 zn)))) R fun b4o => waj H 20 R (nl R) (z.1, b4o, z.2) R R (su9 R R R R R R R R R) (zc pk1 so4)
 exact wse R (eal (cs := [(sl hn), (sl hn), (sl hn), (sl hn), iv 0, iv 0]) za_36) (fun _ => (zt (zc pk3 (zc pk3 zn)))) R fun b17o => waj H 22 R (nl R) (b17o, z.1, z.2) R R (su9 R R R R R R R R R) so5
 refine List.forall_mem_cons.2 ⟨fun H => ?_, ?_⟩
 intro z
 dsimp only
 refine wa_2 (i := 4) (j := 8) (by kernel_rfl) ?_ ?_
 exact wse R (ebs R sb_23_0) (fun _ => (zt (zc pk3 (zc pk3 zn)))) R fun b4o => waj H 21 R (nl R) (z.1, z.2, b4o) R R (su9 R R R R R R R R R) (zc pk1 so4)
 exact wse R (ebs R sb_34_0) (fun _ => (zt (zc pk3 (zc pk3 zn)))) R fun b8o => waj H 22 R (nl R) (z.1, z.2, b8o) R R (su9 R R R R R R R R R) (zc pk1 so4)
 refine List.forall_mem_cons.2 ⟨fun H => ?_, ?_⟩
 intro z
 dsimp only
 refine wa_2 (i := 3) (j := 17) (by kernel_rfl) ?_ ?_
 refine wse R (eo_append (xs := ([] : List GMember)) (ys := a_g.Members) ak_32 (pbo pk2 (n := 0) (xs := ([] : List GMember)) R R (by unfold maxLen; omega)) R R (slin_rd fun _ g => Rg.on (rga r0) g) g1) (fun _ => (zt (zc pk3 (zc pk3 zn)))) R fun x3o => ?_
 exact waj H 20 R (nl R) (x3o, z.2.1, z.2.2) R R (su9 R R R R R R R R R) (zc pk1 (zc pk1 so3))
 exact wse R (eal (cs := [(sl hn), (sl hn), (sl hn), (sl hn), iv 0, iv 0]) za_36) (fun _ => (zt (zc pk4 (zc pk4 zn)))) R fun b17o => waj H 23 R (nl R) (b17o, z.1, z.2.1, z.2.2) R R (yc R (su10 R R R R R R R R R R)) so6
 refine List.forall_mem_cons.2 ⟨fun H => ?_, ?_⟩
 intro z
 dsimp only
 refine wa_2 (i := 3) (j := 8) (by kernel_rfl) ?_ ?_
 refine wse R (eo_append (xs := ([] : List GMember)) (ys := a_g.Members) ak_32 (pbo pk2 (n := 0) (xs := ([] : List GMember)) R R (by unfold maxLen; omega)) R R (slin_rd fun _ g => Rg.on (rga r0) g) g1) (fun _ => (zt (zc pk3 (zc pk3 zn)))) R fun x3o => ?_
 exact waj H 21 R (nl R) (z.1, x3o, z.2.2) R R (su9 R R R R R R R R R) (zc pk1 (zc pk1 so3))
 exact wse R (ebs R sb_34_0) (fun _ => (zt (zc pk4 (zc pk4 zn)))) R fun b8o => waj H 23 R (nl R) (z.1, z.2.1, z.2.2, b8o) R R (yc R (su10 R R R R R R R R R R)) (zc pk1 so5)
 refine List.forall_mem_cons.2 ⟨fun H => ?_, ?_⟩
 intro z
 dsimp only
 refine wa_2 (i := 3) (j := 4) (by kernel_rfl) ?_ ?_
 refine wse R (eo_append (xs := ([] : List GMember)) (ys := a_g.Members) ak_32 (pbo pk2 (n := 0) (xs := ([] : List GMember)) R R (by unfold maxLen; omega)) R R (slin_rd fun _ g => Rg.on (rga r0) g) g1) (fun _ => (zt (zc pk3 (zc pk3 zn)))) R fun x3o => ?_
 exact waj H 22 R (nl R) (z.1, x3o, z.2.2) R R (su9 R R R R R R R R R) (zc pk1 (zc pk1 so3))
 exact wse R (ebs R sb_23_0) (fun _ => (zt (zc pk4 (zc pk4 zn)))) R fun b4o => waj H 23 R (nl R) (z.1, z.2.1, b4o, z.2.2) R R (yc R (su10 R R R R R R R R R R)) (zc pk1 (zc pk1 so4))
 refine List.forall_mem_cons.2 ⟨fun H => ?_, ?_⟩
 intro z
 dsimp only
 exact a1 0 (wse R (ebs R sb_32_0) (fun _ => (zt (zc pk4 (zc pk4 zn)))) R fun b0o => (waj H 23 R (nl R) (z.1, b0o, z.2.1, z.2.2) R R (yc R (su10 R R R R R R R R R R)) (zc pk1 (zc pk1 (zc pk1 so3)))))
 refine List.forall_mem_cons.2 ⟨fun H => ?_, ?_⟩
 intro z
 dsimp only
 refine wa_2 (i := 8) (j := 17) (by kernel_rfl) ?_ ?_
 exact wse R (ebs R sb_34_0) (fun _ => (zt (zc pk3 (zc pk3 zn)))) R fun b8o => waj H 24 R (nl R) (z.1, z.2, b8o) R R (su8 R R R R R R R R) so5
 exact wse R (eal (cs := [(sl hn), (sl hn), (sl hn), (sl hn), iv 0, iv 0]) za_36) (fun _ => (zt (zc pk3 (zc pk3 zn)))) R fun b17o => waj H 25 R (nl R) (b17o, z.1, z.2) R R (su8 R R R R R R R R) so5
 refine List.forall_mem_cons.2 ⟨fun H => ?_, ?_⟩
 intro z
 dsimp only
 refine wa_2 (i := 7) (j := 17) (by kernel_rfl) ?_ ?_
 refine wse R (eo_append (xs := ([] : List Int)) (ys := a_g.Stock) ak_23 (pbo pk1 (n := 0) (xs := ([] : List Int)) R R (by unfold maxLen; omega)) R R (slin_rd fun _ g => Rg.on (rga r1) g) g2) (fun _ => (zt (zc pk3 (zc pk3 zn)))) R fun x7o => ?_
 exact waj H 24 R (nl R) (z.1, x7o, z.2.2) R R (su8 R R R R R R R R) (zc pk1 so4)
 exact wse R (eal (cs := [(sl hn), (sl hn), (sl hn), (sl hn), iv 0, iv 0]) za_36) (fun _ => (zt (zc pk4 (zc pk4 zn)))) R fun b17o => waj H 26 R (nl R) (b17o, z.1, z.2.1, z.2.2) R R (su10 R R R R R R R R R R) so6
 refine List.forall_mem_cons.2 ⟨fun H => ?_, ?_⟩
 intro z
 dsimp only
 refine wa_2 (i := 7) (j := 8) (by kernel_rfl) ?_ ?_
 refine wse R (eo_append (xs := ([] : List Int)) (ys := a_g.Stock) ak_23 (pbo pk1 (n := 0) (xs := ([] : List Int)) R R (by unfold maxLen; omega)) R R (slin_rd fun _ g => Rg.on (rga r1) g) g2) (fun _ => (zt (zc pk3 (zc pk3 zn)))) R fun x7o => ?_
 exact waj H 25 R (nl R) (z.1, z.2.1, x7o) R R (su8 R R R R R R R R) (zc pk1 so4)
 exact wse R (ebs R sb_34_0) (fun _ => (zt (zc pk4 (zc pk4 zn)))) R fun b8o => waj H 26 R (nl R) (z.1, z.2.1, z.2.2, b8o) R R (su10 R R R R R R R R R R) (zc pk1 so5)
 refine List.forall_mem_cons.2 ⟨fun H => ?_, ?_⟩
 intro z
 dsimp only
 exact a1 4 (wse R (ebs R sb_23_0) (fun _ => (zt (zc pk4 (zc pk4 zn)))) R fun b4o => (waj H 26 R (nl R) (z.1, z.2.1, b4o, z.2.2) R R (su10 R R R R R R R R R R) (zc pk1 (zc pk1 so4))))
 refine List.forall_mem_cons.2 ⟨fun H => ?_, ?_⟩
 intro z
 dsimp only
 refine a1 3 (wse R (eo_append (xs := ([] : List GMember)) (ys := a_g.Members) ak_32 (pbo pk3 (n := 0) (xs := ([] : List GMember)) R R (by unfold maxLen; omega)) R R (slin_rd fun _ g => Rg.on (rga r0) g) g1) (fun _ => (zt (zc pk4 (zc pk4 zn)))) R fun x3o => ?_)
 exact waj H 26 R (nl R) (z.1, x3o, z.2.2.1, z.2.2.2) R R (su10 R R R R R R R R R R) (zc pk1 (zc pk1 (zc pk1 so3)))
 refine List.forall_mem_cons.2 ⟨fun H => ?_, ?_⟩
 intro z
 dsimp only
 refine wa_2 (i := 11) (j := 17) (by kernel_rfl) ?_ ?_
 refine wse R (eo_append (xs := ([] : List GBooking)) (ys := a_g.Books) ak_34 (pbo pz (n := 0) (xs := ([] : List GBooking)) R R (by unfold maxLen; omega)) R R (slin_rd fun _ g => Rg.on (rga r3) g) g3) (fun _ => (zt (zc pk3 (zc pk3 zn)))) R fun x11o => ?_
 exact aq 16 R (po_build R (bd_36_0_1_3_4_5 z.1 z.2.1 x11o a_g.Round a_g.Year)) (zc pk3 (zc pk3 zn)) R (waj H 27 R (nl R) (z.1, z.2.1, x11o) R R (su3 R R R) so5)
 exact wse R (eal (cs := [(sl hn), (sl hn), (sl hn), (sl hn), iv 0, iv 0]) za_36) (fun _ => (zt (zc pk4 (zc pk4 zn)))) R fun b17o => waj H 28 R (nl R) (b17o, z.1, z.2.1, z.2.2) R R (su9 R R R R R R R R R) so6
 refine List.forall_mem_cons.2 ⟨fun H => ?_, ?_⟩
 intro z
 dsimp only
 exact a1 8 (wse R (ebs R sb_34_0) (fun _ => (zt (zc pk4 (zc pk4 zn)))) R fun b8o => (waj H 28 R (nl R) (z.1, z.2.1, z.2.2, b8o) R R (su9 R R R R R R R R R) (zc pk1 so5)))
 refine List.forall_mem_cons.2 ⟨fun H => ?_, ?_⟩
 intro z
 dsimp only
 refine a1 7 (wse R (eo_append (xs := ([] : List Int)) (ys := a_g.Stock) ak_23 (pbo pk2 (n := 0) (xs := ([] : List Int)) R R (by unfold maxLen; omega)) R R (slin_rd fun _ g => Rg.on (rga r1) g) g2) (fun _ => (zt (zc pk4 (zc pk4 zn)))) R fun x7o => ?_)
 exact waj H 28 R (nl R) (z.1, z.2.1, x7o, z.2.2.2) R R (su9 R R R R R R R R R) (zc pk1 (zc pk1 so4))
 refine List.forall_mem_cons.2 ⟨fun H => ?_, ?_⟩
 intro z
 dsimp only
 exact a1 17 (wse R (eal (cs := [(sl hn), (sl hn), (sl hn), (sl hn), iv 0, iv 0]) za_36) (fun _ => (zt (zc pk4 (zc pk4 zn)))) R fun b17o => (waj H 29 R (nl R) (b17o, z.1, z.2.1, z.2.2) R R (su4 R R R R) so6))
 refine List.forall_mem_cons.2 ⟨fun H => ?_, ?_⟩
 intro z
 dsimp only
 refine a1 11 (wse R (eo_append (xs := ([] : List GBooking)) (ys := a_g.Books) ak_34 (pbo pk1 (n := 0) (xs := ([] : List GBooking)) R R (by unfold maxLen; omega)) R R (slin_rd fun _ g => Rg.on (rga r3) g) g3) (fun _ => (zt (zc pk4 (zc pk4 zn)))) R fun x11o => ?_)
 exact aq 16 R (po_build R (bd_36_0_1_3_4_5 z.2.1 z.2.2.1 x11o a_g.Round a_g.Year)) (zc pk4 (zc pk4 zn)) R (waj H 29 R (nl R) (z.1, z.2.1, z.2.2.1, x11o) R R (su4 R R R R) (zc pk1 so5))
 refine List.forall_mem_cons.2 ⟨fun H => ?_, ?_⟩
 intro z
 dsimp only
 refine a1 18 (ws_skipop R (sbx (cs' := [(sl z.2.1), (sl z.2.2.1), (sl hn), (sl z.2.2.2), iv a_g.Round, iv a_g.Year]) tk_36 pz R R R R R R R) (sts_past (by kernel_rfl)) ?_)
 exact ae (wqm (z.1, z.2.1, z.2.2.1, z.2.2.2) trivial (su3 R R R) so6)
 exact fun _ h => nomatch h
 exact aq 1 R (pof fo_36_0 R) so2 R (aq (v := (sl v0a)) 2 R (plx tk_32 pk1 R R) so2 R (aq 5 R (pof fo_36_1 R) so2 R (aq (v := (sl v1a)) 6 R (plx tk_23 pk1 R R) so2 R (aq 9 R (pof fo_36_3 R) so2 R (aq (v := (sl v3a)) 10 R (plx tk_34 pk1 R R) so2 R (aq 12 R (pof fo_36_4 R) so2 R (aq (v := iv a_g.Round) 13 R (plx tk_3 pk1 R R) so2 R (aq 14 R (pof fo_36_5 R) so2 R (aq (v := iv a_g.Year) 15 R (plx tk_3 pk1 R R) so2 R (waj H 0 R (nl R) () R R (su7 R R R R R R R) so2))))))))))
 intro x1 _
 refine wqt (wcs (wcr (asg R R (wnt (gdO t0 fun g4 t0 => (lpO_inv t0 fun y1 l1 t0 => (wj (J := List GEntry) (X := Hd × (List Value)) (fun z => y1 = z) (fun _ _ => [(2, ptr b2 0), (3, ptr x1.1 0)]) (fun z x => [box x1.1 [(sl x1.2.1), (sl x1.2.2.1), (sl x.1), (sl x1.2.2.2), iv a_g.Round, iv a_g.Year], ownF (sl x1.2.2.2) (([] : List GBooking) ++ a_g.Books), ownF (sl x1.2.2.1) (([] : List Int) ++ a_g.Stock), ownF (sl x1.2.1) (([] : List GMember) ++ a_g.Members), box b2 [(sl hn), (sl hn), (sl hn), (sl hn), iv 0, iv 0], own (sl x.1) x.2 z]) ?_ ?_)))))))
 refine wcb (wcf (X := Hd × (List Value)) l1 (fun k1 s1 x1l => [(1, ptr b1 0), (2, ptr b2 0), (3, ptr x1.1 0), (4, iv ((k1 : Nat) : Int))]) (fun k1 s1 x1l => [box x1.1 [(sl x1.2.1), (sl x1.2.2.1), (sl x1l.1), (sl x1.2.2.2), iv a_g.Round, iv a_g.Year], ownF (sl x1.2.2.2) (([] : List GBooking) ++ a_g.Books), ownF (sl x1.2.2.1) (([] : List Int) ++ a_g.Stock), ownF (sl x1.2.1) (([] : List GMember) ++ a_g.Members), box b2 [(sl hn), (sl hn), (sl hn), (sl hn), iv 0, iv 0], box b1 [(sl v0a), (sl v1a), (sl v2a), (sl v3a), iv a_g.Round, iv a_g.Year], own (sl x1l.1) x1l.2 s1]) (hn, []) (su4 R R R R) (zc pz (zc pz (zc pz (zc pz (zc pz (zc pz (zc pick_nil zn))))))) fun k1 s1 x1l hN1 l1 => ?_)
 by_cases hk1 : k1 < a_g.Entries.length
 refine fos l1 hk1 fun _ t1 l1 => ?_
 unfold spec_l38Copy_L1 at t1
 have c1 : (decide (((k1 : Nat) : Int) < ((a_g.Entries.length : Nat) : Int))) = true := ddt (by omega)
 refine wcs (wcr (mv R R (wlq (pof fo_36_2 R) R (wlq (v := (sl v2a)) (plx tk_33 pk5 R R) R (wlq (pln (rga r2) el_33 R) R (wlq (pls R R) R (wnt (wft R c1 (wck (wqt (wcs (wcb (wcr (wlq (pof fo_36_2 R) R (wlq (v := (sl v2a)) (plx tk_33 pk5 R R) R (mv R R (wlq (po_ixn (k := k1) (rga r2) el_33 R R hk1) R (wl_elem (rga r2) hk1 ?_))))))))))))))))))
 rintro ⟨_, _, he1⟩
 obtain ⟨w1, hc1, _⟩ := rd_GEntry.1 he1
 refine wlq (v := .agg #[iv ((gx a_g.Entries k1).Owner), iv ((gx a_g.Entries k1).Day), iv (((gx a_g.Entries k1).Block).Size), (sl w1)]) (po_ldns (rga r2) tk_77 R hc1 R R R) R (wle (eal (cs := [iv 0, iv 0, iv 0, (sl hn)]) za_77) R fun b3 => (wls (sbx (cs' := [iv ((gx a_g.Entries k1).Owner), iv ((gx a_g.Entries k1).Day), iv (((gx a_g.Entries k1).Block).Size), (sl w1)]) tk_77 pz R R R R R R R) (wnt (wcr (wlq (pof fo_77_2 R) R (wlq (v := .agg #[iv (((gx a_g.Entries k1).Block).Size), (sl w1)]) (plb tk_75 pz R R R) R (bdO t1 fun v1 hv1 t1 => (wlc (cz1 fa_60 R fun w hw => c_spec_l03Copy w ((gx a_g.Entries k1).Block) w1 (Rg.on (er_GEntry_0 hc1 (rga r2) hk1) hw) hv1) R fun x3 => (wlq (pof fo_77_2 R) R (wls (sbx (cs' := [iv ((gx a_g.Entries k1).Owner), iv ((gx a_g.Entries k1).Day), iv v1.Size, (sl x3)]) tk_75 pk1 R R R R R R R) (wnt (wcg (wlq (pof fo_36_2 R) R (wlq (v := (sl x1l.1)) (plx tk_33 pk2 R R) R (wlq (v := .agg #[iv ((gx a_g.Entries k1).Owner), iv ((gx a_g.Entries k1).Day), iv v1.Size, (sl x3)]) (plb tk_77 pz R R R) R (wle (ebs R (sb_33_1 ((gx a_g.Entries k1).Owner) ((gx a_g.Entries k1).Day) v1.Size x3)) R fun b4 => (gdO t1 fun g5 t1 => (wle (eo_append_one (us := x1l.2) (xs := s1) ak_33 pk9 (pow_GEntry (x := (GEntry.mk ((gx a_g.Entries k1).Owner) ((gx a_g.Entries k1).Day) v1)) pk2) pz R R R g5) R fun x4 => (wlq (pof fo_36_2 R) R (wls (sbx (cs' := [(sl x1.2.1), (sl x1.2.2.1), (sl x4), (sl x1.2.2.2), iv a_g.Round, iv a_g.Year]) tk_33 pk3 R R R R R R R) (wln (wqb (wqt (wcg (mv R R (wlq (po_inc R R (by omega)) R ?_))))))))))))))))))))))))))
 exact asg R R (wln (wq_rnd hk1 (stpN l1 t1) (x4, (x1l.2 ++ [iv ((gx a_g.Entries k1).Owner), iv ((gx a_g.Entries k1).Day), iv v1.Size, (sl x3)])) (su4 R R R R) (zc pz (zc pk3 (zc pk3 (zc pk3 (zc pk3 (zc pk3 so1))))))))
 have c1 : (decide (((k1 : Nat) : Int) < ((a_g.Entries.length : Nat) : Int))) = false := ddf (by omega)
 have en1 := foe l1 hk1
 exact wcs (wcr (mv R R (wlq (pof fo_36_2 R) R (wlq (v := (sl v2a)) (plx tk_33 pk5 R R) R (wlq (pln (rga r2) el_33 R) R (wlq (pls R R) R (wnt (wff R c1 (wcx (wqe (wqe (wbx (wjm _ (x1l.1, x1l.2) (Sum.inl.inj en1) (su2 R R) (zc pz (zc pz (zc pz (zc pz (zc pz (zc pk1 zn)))))))))))))))))))
 intro e1 x2 hp
 obtain rfl : e1 = y1 := hp.symm
 refine wqt (wcr (wlq (v := .agg #[(sl x1.2.1), (sl x1.2.2.1), (sl x2.1), (sl x1.2.2.2), iv a_g.Round, iv a_g.Year]) (plb tk_36 pz R R R) R (wls (sbx (cs' := [(sl x1.2.1), (sl x1.2.2.1), (sl x2.1), (sl x1.2.2.2), iv a_g.Round, iv a_g.Year]) tk_36 pk4 R R R R R R R) (wnt (wct ?_)))))
 obtain rfl := oi t0
 exact wqc R tk_36 R pz R fun w hw => ⟨(x1.2.1, x1.2.2.1, x2.1, x2.2, x1.2.2.2), R, hw.weak (zc pk4 (zc pk3 (zc pk3 (zc pk2 zn))))⟩

theorem c_spec_ActOk (w : World) (a_a : GAct) {r : Bool} (t0 : spec_ActOk a_a = some r) : Calls Tryz.prog 61 #[.agg #[.int .i64 a_a.Kind, .int .i64 a_a.A, .int .i64 a_a.B]] w fun e w' => e = .returned (.bool r) ∧ SH w [] [] w' := by
 refine cwc (args := [_]) Tryz.func61 R Tryz.ntmps61 R ?_
 unfold spec_ActOk at t0
 refine wcr (wle (eo_box R R) R fun b1 => (asg R R (wnt (wcs (wcr (wlq (pof fo_56_0 R) R (wlq (v := iv a_a.Kind) (plx tk_3 pz R R) R (wnt (wcb (wcr (wlq (pol R R) R (asg R R (wnt (wcO t0 R (fun h1 t0 => ?_) fun h1 t0 => ?_))))))))))))))
 refine wcs (bdO t0 fun y1 t1 t0 => (wj (J := Bool) (X := Unit) (fun z => y1 = z) (fun z _ => [(2, .bool z)]) (fun _ _ => []) ?_ ?_))
 refine wcg (wlq (pof fo_56_1 R) R (wlq (v := iv a_a.A) (plx tk_3 pz R R) R (bdO t1 fun v1 hv1 t1 => (wlc (cz0 fa_36 R fun w hw => c_spec_l01In w a_a.A 1 999 hv1) R fun _ => (mv R R (wlo (t := 10) t1 R (fun h2 t1 => ?_) fun h2 t1 => ?_))))))
 exact wgn (j := 3) R R R (wlq (pof fo_56_2 R) R (wgn (j := 3) R R R (wlq (v := iv a_a.B) (plx tk_3 pz R R) R (wgn (j := 3) R R R (wlq (pol R R) R (wlq (pit R R) R (asg R R (wln (wjm _ () (mtE t1) (su1 R) zn)))))))))
 exact wgf (j := 3) R R R R R (wgf (j := 3) R R R R R (wgf (j := 3) R R R R R (wlq (pif R R) R (asg R R (wln (wjm _ () (mtE t1) (su1 R) zn))))))
 intro j1 _ hp
 obtain rfl : j1 = y1 := hp.symm
 refine wqt (wct (wbr (wqr ?_)))
 obtain rfl := oi t0
 exact wq1 R R fun w hw => ⟨R, hw.weak zn⟩
 refine wcr (wlq (pol R R) R (asg R R (wnt (wcO t0 R (fun h3 t0 => ?_) fun h3 t0 => ?_))))
 refine wcs (bdO t0 fun y1 t1 t0 => (wj (J := Bool) (X := Unit) (fun z => y1 = z) (fun z _ => [(2, .bool z)]) (fun _ _ => []) ?_ ?_))
 refine wcg (wlq (pof fo_56_1 R) R (wlq (v := iv a_a.A) (plx tk_3 pz R R) R (bdO t1 fun v2 hv2 t1 => (wlc (cz0 fa_36 R fun w hw => c_spec_l01In w a_a.A 1 999 hv2) R fun _ => (mv R R (wlo (t := 20) t1 R (fun h4 t1 => ?_) fun h4 t1 => ?_))))))
 exact wgn (j := 3) R R R (wlq (pof fo_56_2 R) R (wgn (j := 3) R R R (wlq (v := iv a_a.B) (plx tk_3 pz R R) R (bdO t1 fun v3 hv3 t1 => (wgn (j := 3) R R R (wlc (cz0 fa_36 R fun w hw => c_spec_l01In w a_a.B 0 9 hv3) R (fun _ => (wlq (pit R R) R (asg R R (wln (wjm _ () (mtE t1) (su1 R) zn)))))))))))
 exact wgf (j := 3) R R R R R (wgf (j := 3) R R R R R (wgf (j := 3) R R R R R (wlq (pif R R) R (asg R R (wln (wjm _ () (mtE t1) (su1 R) zn))))))
 intro j2 _ hp
 obtain rfl : j2 = y1 := hp.symm
 refine wqt (wct (wbr (wqr ?_)))
 obtain rfl := oi t0
 exact wq1 R R fun w hw => ⟨R, hw.weak zn⟩
 refine wcs (wcr (wlq (pol R R) R (asg R R (wnt (wcj (X := Unit) (fun _ => True) (fun _ => [(1, ptr b1 0), (4, iv a_a.Kind), (25, .bool ((a_a.Kind == 3) || (a_a.Kind == 6)))]) (fun _ => [box b1 [iv a_a.Kind, iv a_a.A, iv a_a.B]]) ?_ ?_)))))
 refine wc_cond R (fun h5 => ?_) fun h5 => ?_
 exact wck (wqm () trivial (yc R (yc R (sub_b R (by rw [h5]; rfl) yn))) so1)
 exact wcg (wlq (pol R R) R (asg R R (wln (wqm () trivial (yc R (yc R (sub_b R (by rw [h5]; rfl) yn))) so1))))
 intro _ _
 refine wqt (wcO t0 R (fun h6 t0 => ?_) fun h6 t0 => ?_)
 refine wcs (bdO t0 fun y1 t1 t0 => (wj (J := Bool) (X := Unit) (fun z => y1 = z) (fun z _ => [(2, .bool z)]) (fun _ _ => []) ?_ ?_))
 refine wcg (wlq (pof fo_56_1 R) R (wlq (v := iv a_a.A) (plx tk_3 pz R R) R (bdO t1 fun v4 hv4 t1 => (wlc (cz0 fa_36 R fun w hw => c_spec_l01In w a_a.A 0 9 hv4) R fun _ => (mv R R (wlo (t := 31) t1 R (fun h7 t1 => ?_) fun h7 t1 => ?_))))))
 exact wgn (j := 3) R R R (wlq (pof fo_56_2 R) R (wgn (j := 3) R R R (wlq (v := iv a_a.B) (plx tk_3 pz R R) R (wgn (j := 3) R R R (wlq (pol R R) R (wlq (pit R R) R (asg R R (wln (wjm _ () (mtE t1) (su1 R) zn)))))))))
 exact wgf (j := 3) R R R R R (wgf (j := 3) R R R R R (wgf (j := 3) R R R R R (wlq (pif R R) R (asg R R (wln (wjm _ () (mtE t1) (su1 R) zn))))))
 intro j4 _ hp
 obtain rfl : j4 = y1 := hp.symm
 refine wqt (wct (wbr (wqr ?_)))
 obtain rfl := oi t0
 exact wq1 R R fun w hw => ⟨R, hw.weak zn⟩
 refine wcs (wcr (wlq (pol R R) R (asg R R (wnt (wcj (X := Unit) (fun _ => True) (fun _ => [(1, ptr b1 0), (36, .bool ((a_a.Kind == 4) || (a_a.Kind == 5)))]) (fun _ => [box b1 [iv a_a.Kind, iv a_a.A, iv a_a.B]]) ?_ ?_)))))
 refine wc_cond R (fun h8 => ?_) fun h8 => ?_
 exact wck (wqm () trivial (yc R (sub_b R (by rw [h8]; rfl) yn)) so1)
 exact wcg (wlq (pol R R) R (asg R R (wln (wqm () trivial (yc R (sub_b R (by rw [h8]; rfl) yn)) so1))))
 intro _ _
 refine wqt (wcO t0 R (fun h9 t0 => ?_) fun h9 t0 => ?_)
 refine wcs (wcj (X := Unit) (fun _ => True) (fun _ => [(2, .bool ((a_a.A == 0) && (a_a.B == 0)))]) (fun _ => []) ?_ ?_)
 refine wcg (wlq (pof fo_56_1 R) R (wlq (v := iv a_a.A) (plx tk_3 pz R R) R (wlq (pol R R) R (mv R R (wl_fork (t := 42) R (fun h10 => ?_) fun h10 => ?_)))))
 exact wgn (j := 3) R R R (wlq (pof fo_56_2 R) R (wgn (j := 3) R R R (wlq (v := iv a_a.B) (plx tk_3 pz R R) R (wgn (j := 3) R R R (wlq (pol R R) R (wlq (pit R R) R (asg R R (wln (wqm () trivial (sub_b R (by rw [h10]; rfl) yn) zn)))))))))
 exact wgf (j := 3) R R R R R (wgf (j := 3) R R R R R (wgf (j := 3) R R R R R (wlq (pif R R) R (asg R R (wln (wqm () trivial (sub_b R (by rw [h10]; rfl) yn) zn))))))
 intro _ _
 refine wqt (wct (wbr (wqr ?_)))
 obtain rfl := oi t0
 exact wq1 R R fun w hw => ⟨R, hw.weak zn⟩
 refine wck (wqb (wqt (wcr (asg R R (wnt (wct ?_))))))
 obtain rfl := oi t0
 exact wq1 R R fun w hw => ⟨R, hw.weak zn⟩

theorem c_spec_JoinGuild (w : World) (a_list : List GMember) (v0a : Hd) (r0 : rdF w (dm w []) (sl v0a) a_list) (a_number : Int) (a_year : Int) {r : (List GMember) × Bool} (t0 : spec_JoinGuild a_list a_number a_year = some r) : Calls Tryz.prog 89 #[(sl v0a), .int .i64 a_number, .int .i64 a_year] w fun e w' => ∃ x : Hd, e = .returned (.tuple #[(sl x), .bool r.2]) ∧ SH w [] [ownF (sl x) r.1] w' := by
 refine cwc (args := [_, _, _]) Tryz.func89 R Tryz.ntmps89 R ?_
 unfold spec_JoinGuild at t0
 refine wcr (asg R R (asg R R (wnt (wcr (wle (ebs R sb_32_0) R fun b1 => (mv R R (gdO t0 fun g1 t0 => (wle (eo_append (xs := ([] : List GMember)) (ys := a_list) ak_32 (pbo pz (n := 0) (xs := ([] : List GMember)) R R (by unfold maxLen; omega)) R R (slin_rd fun _ g => Rg.on (rga r0) g) g1) R fun x1 => ?_))))))))
 refine asg R R (wnt (wcs (wcs (bdO t0 fun y1 t1 t0 => (wj (J := Bool) (X := Unit) (fun z => y1 = z) (fun z _ => [(0, (sl v0a)), (1, iv a_number), (2, iv a_year), (8, (sl x1)), (21, .bool z)]) (fun _ _ => [ownF (sl x1) (([] : List GMember) ++ a_list)]) ?_ ?_)))))
 refine wcg (mv R R (bdO t1 fun v1 hv1 t1 => (wlc (cz0 fa_33 R fun w hw => c_spec_MembersOk w a_list v0a (ra r0 hw) hv1) R fun _ => (wlq (po_not R) R (mv R R (wlo (t := 17) t1 R (fun h1 t1 => ?_) fun h1 t1 => ?_))))))
 exact wgf (j := 3) R R R R R (wgf (j := 3) R R R R R (wgf (j := 3) R R R R R (wlq (pit R R) R (wln (wjm _ () (mtE t1) (su5 R R R R R) so1)))))
 exact wgn (j := 3) R R R (mv R R (bdO t1 fun v2 hv2 t1 => (wgn (j := 3) R R R (wlc (cz0 fa_36 R fun w hw => c_spec_l01In w a_year 1900 2999 hv2) R (fun _ => (wgn (j := 3) R R R (wlq (po_not R) R (wlq (pif R R) R (wln (wjm _ () (mtE t1) (su5 R R R R R) so1))))))))))
 intro j1 _ hp
 obtain rfl : j1 = y1 := hp.symm
 refine wqt (wcO t0 R (fun h2 t0 => ?_) fun h2 t0 => ?_)
 refine wcr (mv R R (asg R R (asg R R (wnt (wct (wqr ?_))))))
 obtain rfl := oi t0
 exact wq_ret2 R R R fun w hw => ⟨x1, R, hw.weak so1⟩
 refine wck (wqt (wcr (asg R R (wnt (wcs (wlO_inv t0 fun y1 l1 t0 => (wj (J := Int) (X := Unit) (fun z => y1 = z) (fun z _ => [(0, (sl v0a)), (1, iv a_number), (2, iv a_year), (8, (sl x1)), (9, iv z)]) (fun _ _ => [ownF (sl x1) (([] : List GMember) ++ a_list)]) ?_ ?_)))))))
 refine wcb (wc_whO (X := Unit) l1 (fun s1 x1l => [(0, (sl v0a)), (1, iv a_number), (2, iv a_year), (8, (sl x1)), (9, iv s1)]) (fun s1 x1l => [ownF (sl x1) (([] : List GMember) ++ a_list)]) () (su5 R R R R R) so1 fun m1 s1 x1l l1 => (whO_step l1 fun _ t1 l1 => ?_))
 unfold spec_JoinGuild_L1 at t1
 refine wcs (wcs (bdO t1 fun y2 t2 t1 => (wj (J := Bool) (X := Unit) (fun z => y2 = z) (fun z _ => [(0, (sl v0a)), (1, iv a_number), (2, iv a_year), (8, (sl x1)), (9, iv s1), (35, .bool z)]) (fun _ _ => [ownF (sl x1) (([] : List GMember) ++ a_list)]) ?_ ?_)))
 refine wcg (mv R R (mv R R (wlq (pln (rga r0) el_32 R) R (wlq (pls R R) R (mv R R (wlo (t := 27) t2 R (fun h3 t2 => ?_) fun h3 t2 => ?_))))))
 exact wgn (j := 4) R R R (mv R R (wgn (j := 4) R R R (mv R R (gdO t2 fun g2 t2 => (wgn (j := 4) R R R (wlq (po_ixr (rga r0) el_32 R R g2.1 g2.2) R (wgn (j := 4) R R R (wlq (po_sfldr (rga r0) (ix_lt g2) fo_85_0 R) R (wgn (j := 4) R R R (wlq (v := iv ((gx a_list ((s1).toNat)).Number)) (po_ldf (rga r0) tk_3 R (ix_lt g2) R) R (wgn (j := 4) R R R (mv R R (wgn (j := 4) R R R (wlq (pls R R) R (wlq (pit R R) R (wln (wjm _ () (mtE t2) (su6 R R R R R R) so1)))))))))))))))))
 exact wgf (j := 4) R R R R R (wgf (j := 4) R R R R R (wgf (j := 4) R R R R R (wgf (j := 4) R R R R R (wgf (j := 4) R R R R R (wgf (j := 4) R R R R R (wgf (j := 4) R R R R R (wlq (pif R R) R (wln (wjm _ () (mtE t2) (su6 R R R R R R) so1)))))))))
 intro j2 _ hp
 obtain rfl : j2 = y2 := hp.symm
 refine wqt (wcO t1 R (fun h4 t1 => ?_) fun h4 t1 => ?_)
 exact wck (wqt (wcb (wcg (mv R R (wlq (po_add R R) R (asg R R (wln (wqb (wq_rndw (stwN l1 t1) () (su5 R R R R R) so1)))))))))
 exact wcx (wqe (wqe (wbx (wjm _ () (Sum.inl.inj (stwB l1 t1)) (su5 R R R R R) so1))))
 intro e1 _ hp
 obtain rfl : e1 = y1 := hp.symm
 refine wqt (wcr (wle (ebs R sb_32_0) R fun b2 => (mv R R (mv R R (gdO t0 fun g3 t0 => (wlq (po_cutr (l := 0) (h := (e1).toNat) (rga r0) el_32 R (.inl ⟨R, R⟩) (.inr ⟨_, R, ixn g3.1⟩) g3.2.1 g3.2.2) R (gdO t0 fun g4 t0 => (wle (eo_append (xs := ([] : List GMember)) (ys := ((a_list.drop 0).take ((e1).toNat - 0))) ak_32 (pbo pz (n := 0) (xs := ([] : List GMember)) R R (by unfold maxLen; omega)) R R (slin_rd fun _ g => Rg.on (rds_cut (rga r0) g3.2.1 g3.2.2) g) g4) R fun x5 => ?_))))))))
 refine asg R R (wnt (wcr (mv R R (mv R R (mv R R (mv R R (wlq (po_sub R R) R (wlq (po_build R (bd_85_0_1_2 a_number a_year (wr (a_year - 1)))) R (wle (ebs R (sb_32_1 a_number a_year (wr (a_year - 1)))) R fun b3 => (gdO t0 fun g5 t0 => (wle (eo_append (xs := (([] : List GMember) ++ ((a_list.drop 0).take ((e1).toNat - 0)))) (ys := ([(GMember.mk a_number a_year (wr (a_year - 1)))] : List GMember)) ak_32 pk1 R R (slin_rd fun _ g => Rg.on (rgo (pbo pz (n := 1) (xs := ([(GMember.mk a_number a_year (wr (a_year - 1)))] : List GMember)) R R (by unfold maxLen; omega))) g) g5) R fun x6 => ?_)))))))))))
 refine asg R R (wnt (wcr (mv R R (mv R R (mv R R (gdO t0 fun g6 t0 => (wlq (po_cutr (l := (e1).toNat) (h := a_list.length) (rga r0) el_32 R (.inr ⟨_, R, ixn g6.1⟩) (.inl ⟨R, R⟩) g6.2.1 g6.2.2) R (gdO t0 fun g7 t0 => (wle (eo_append (xs := ((([] : List GMember) ++ ((a_list.drop 0).take ((e1).toNat - 0))) ++ [(GMember.mk a_number a_year (wr (a_year - 1)))])) (ys := ((a_list.drop ((e1).toNat)).take (a_list.length - ((e1).toNat)))) ak_32 pz R R (slin_rd fun _ g => Rg.on (rds_cut (rga r0) g6.2.1 g6.2.2) g) g7) R fun x7 => (asg R R (wnt (wcs (wcr (mv R R (bdO t0 fun v3 hv3 t0 => (wlc (cz0 fa_33 R fun w hw => c_spec_MembersOk w (((([] : List GMember) ++ ((a_list.drop 0).take ((e1).toNat - 0))) ++ [(GMember.mk a_number a_year (wr (a_year - 1)))]) ++ ((a_list.drop ((e1).toNat)).take (a_list.length - ((e1).toNat)))) x7 (Rg.on (rgo pz) hw) hv3) R fun _ => (wlq (po_not R) R (wnt (wcO t0 R (fun h5 t0 => ?_) fun h5 t0 => ?_)))))))))))))))))))
 refine wcr (mv R R (asg R R (asg R R (wnt (wct (wqr ?_))))))
 obtain rfl := oi t0
 exact wq_ret2 R R R fun w hw => ⟨x1, R, hw.weak (zc pk2 zn)⟩
 refine wck (wqt (wcr (mv R R (asg R R (asg R R (wnt (wct ?_)))))))
 obtain rfl := oi t0
 exact wq_ret2 R R R fun w hw => ⟨x7, R, hw.weak so1⟩

theorem c_spec_PayDues (w : World) (a_list : List GMember) (v0a : Hd) (r0 : rdF w (dm w []) (sl v0a) a_list) (a_number : Int) (a_years : Int) {r : (List GMember) × Bool} (t0 : spec_PayDues a_list a_number a_years = some r) : Calls Tryz.prog 90 #[(sl v0a), .int .i64 a_number, .int .i64 a_years] w fun e w' => ∃ x : Hd, e = .returned (.tuple #[(sl x), .bool r.2]) ∧ SH w [] [ownF (sl x) r.1] w' := by
 refine cwc (args := [_, _, _]) Tryz.func90 R Tryz.ntmps90 R ?_
 unfold spec_PayDues at t0
 refine wcr (asg R R (asg R R (wnt (wcr (wle (ebs R sb_32_0) R fun b1 => (mv R R (gdO t0 fun g1 t0 => (wle (eo_append (xs := ([] : List GMember)) (ys := a_list) ak_32 (pbo pz (n := 0) (xs := ([] : List GMember)) R R (by unfold maxLen; omega)) R R (slin_rd fun _ g => Rg.on (rga r0) g) g1) R fun x1 => ?_))))))))
 refine asg R R (wnt (wcr (asg R R (wnt (wcs (wcr (asg R R (wnt (gdO t0 fun g2 t0 => (lpO_inv t0 fun y1 l1 t0 => (wj (J := (List GMember) × Bool) (X := Unit) (fun z => y1 = z) (fun z _ => [(0, (sl v0a)), (8, (sl x1)), (9, .bool z.2)]) (fun z _ => [ownF (sl x1) z.1]) ?_ ?_)))))))))))
 refine wcb (wcf (X := Unit) l1 (fun k1 s1 x1l => [(0, (sl v0a)), (1, iv a_number), (2, iv a_years), (8, (sl x1)), (9, .bool s1.2), (10, iv ((k1 : Nat) : Int))]) (fun k1 s1 x1l => [ownF (sl x1) s1.1]) () (su6 R R R R R R) so1 fun k1 s1 x1l hN1 l1 => ?_)
 by_cases hk1 : k1 < a_list.length
 refine fos l1 hk1 fun _ t1 l1 => ?_
 unfold spec_PayDues_L1 at t1
 have c1 : (decide (((k1 : Nat) : Int) < ((a_list.length : Nat) : Int))) = true := ddt (by omega)
 refine wcs (wcr (mv R R (mv R R (wlq (pln (rga r0) el_32 R) R (wlq (pls R R) R (mv R R (wl_know (t := 18) R c1 (wgn (j := 4) R R R (mv R R (bdO t1 fun v1 hv1 t1 => (wgn (j := 4) R R R (wlc (cz0 fa_36 R fun w hw => c_spec_l01In w a_years 1 10 hv1) R (fun _ => (wlq (pit R R) R (wnt (wcO t1 R (fun h1 t1 => ?_) fun h1 t1 => ?_))))))))))))))))
 refine wck (wqt (wcs (wcb (wcr (mv R R (mv R R (wlq (po_ixn (k := k1) (rga r0) el_32 R R hk1) R (wlq (po_sfldr (rga r0) hk1 fo_85_0 R) R (wlq (v := iv ((gx a_list k1).Number)) (po_ldf (rga r0) tk_3 R hk1 R) R (mv R R (wlq (pol R R) R (wnt (bdO t1 fun y2 t2 t1 => (wj (J := (List GMember) × Bool) (X := Unit) (fun z => y2 = z) (fun z _ => [(0, (sl v0a)), (1, iv a_number), (2, iv a_years), (8, (sl x1)), (9, .bool z.2), (10, iv ((k1 : Nat) : Int)), (19, iv a_years), (20, .bool v1)]) (fun z _ => [ownF (sl x1) z.1]) ?_ ?_))))))))))))))
 refine wcO t2 R (fun h2 t2 => ?_) fun h2 t2 => ?_
 exact wcr (mv R R (mv R R (mv R R (mv R R (wlq (po_ixn (k := k1) (rga r0) el_32 R R hk1) R (wlq (po_sfldr (rga r0) hk1 fo_85_2 R) R (wlq (v := iv ((gx a_list k1).Paid)) (po_ldf (rga r0) tk_3 R hk1 R) R (mv R R (wlq (po_add R R) R (gdO t2 fun g3 t2 => (wlq (po_ixn (k := k1) (rgo pz) el_32 R R g3) R (wlq (po_sfldr (rgo pz) g3 fo_85_2 R) R (wls (so_own (x' := (GMember.mk ((gx s1.1 k1).Number) ((gx s1.1 k1).Since) (wr ((gx a_list k1).Paid + a_years)))) tk_3 pz R R R R R R g3 R) (wnt (wcg (asg R R (wln (wjm _ () (mtE t2) (su8 R R R R R R R R) so1))))))))))))))))))
 exact wck (wjm _ () (mtE t2) (su8 R R R R R R R R) so1)
 intro j1 _ hp
 obtain rfl : j1 = y2 := hp.symm
 refine wqb (wqt (wcg (mv R R (wlq (po_inc R R (by omega)) R ?_))))
 exact asg R R (wln (wq_rnd hk1 (stpN l1 t1) () (su6 R R R R R R) so1))
 exact wcx (wqe (wqe (wbx (wjm _ () (Sum.inl.inj (stpB l1 t1)) (su3 R R R) so1))))
 have c1 : (decide (((k1 : Nat) : Int) < ((a_list.length : Nat) : Int))) = false := ddf (by omega)
 have en1 := foe l1 hk1
 exact wcs (wcr (mv R R (mv R R (wlq (pln (rga r0) el_32 R) R (wlq (pls R R) R (mv R R (wl_know (t := 18) R c1 (wgf (j := 4) R R R R R (wgf (j := 4) R R R R R (wlq (pif R R) R (wnt (wff R R (wcx (wqe (wqe (wbx (wjm _ () (Sum.inl.inj en1) (su3 R R R) so1)))))))))))))))))
 intro e1 _ hp
 obtain rfl : e1 = y1 := hp.symm
 refine wqt (wcs (wcs (bdO t0 fun y1 t1 t0 => (wj (J := Bool) (X := Unit) (fun z => y1 = z) (fun z _ => [(0, (sl v0a)), (8, (sl x1)), (53, .bool z)]) (fun _ _ => [ownF (sl x1) e1.1]) ?_ ?_))))
 refine wcg (mv R R (bdO t1 fun v2 hv2 t1 => (wlc (cz0 fa_33 R fun w hw => c_spec_MembersOk w a_list v0a (ra r0 hw) hv2) R fun _ => (wlq (po_not R) R (mv R R (wlo (t := 45) t1 R (fun h3 t1 => ?_) fun h3 t1 => ?_))))))
 exact wgf (j := 3) R R R R R (wgf (j := 3) R R R R R (wlq (pit R R) R (mv R R (wgf (j := 7) R R R R R (wgf (j := 7) R R R R R (wgf (j := 7) R R R R R (wlq (pit R R) R (wln (wjm _ () (mtE t1) (su3 R R R) so1)))))))))
 refine wgn (j := 3) R R R (mv R R (wgn (j := 3) R R R (wlq (po_not R) R (wlq (pif R R) R (mv R R (wlo (t := 49) t1 R (fun h4 t1 => ?_) fun h4 t1 => ?_))))))
 exact wgf (j := 7) R R R R R (wgf (j := 7) R R R R R (wgf (j := 7) R R R R R (wlq (pit R R) R (wln (wjm _ () (mtE t1) (su3 R R R) so1)))))
 exact wgn (j := 7) R R R (mv R R (bdO t1 fun v3 hv3 t1 => (wgn (j := 7) R R R (wlc (cz0 fa_33 R fun w hw => c_spec_MembersOk w e1.1 x1 (Rg.on (rgo pz) hw) hv3) R (fun _ => (wgn (j := 7) R R R (wlq (po_not R) R (wlq (pif R R) R (wln (wjm _ () (mtE t1) (su3 R R R) so1))))))))))
 intro j2 _ hp
 obtain rfl : j2 = y1 := hp.symm
 refine wqt (wcO t0 R (fun h5 t0 => ?_) fun h5 t0 => ?_)
 refine wcr (wle (ebs R sb_32_0) R fun b2 => (mv R R (wle (eo_append (xs := ([] : List GMember)) (ys := a_list) ak_32 (pbo pz (n := 0) (xs := ([] : List GMember)) R R (by unfold maxLen; omega)) R R (slin_rd fun _ g => Rg.on (rga r0) g) g1) R fun x5 => ?_)))
 refine asg R R (asg R R (wnt (wct (wqr ?_))))
 obtain rfl := oi t0
 exact wq_ret2 R R R fun w hw => ⟨x5, R, hw.weak so1⟩
 refine wck (wqt (wcr (mv R R (asg R R (asg R R (wnt (wct ?_)))))))
 obtain rfl := oi t0
 exact wq_ret2 R R R fun w hw => ⟨x1, R, hw.weak so1⟩

theorem c_spec_BookSum (w : World) (a_list : List GBooking) (v0a : Hd) (r0 : rdF w (dm w []) (sl v0a) a_list) (a_b : GBooking) {r : (List GBooking) × Bool} (t0 : spec_BookSum a_list a_b = some r) : Calls Tryz.prog 91 #[(sl v0a), .agg #[.int .i64 a_b.Day, .int .i64 a_b.From, .int .i64 a_b.To, .int .i64 a_b.Sum]] w fun e w' => ∃ x : Hd, e = .returned (.tuple #[(sl x), .bool r.2]) ∧ SH w [] [ownF (sl x) r.1] w' := by
 refine cwc (args := [_, _]) Tryz.func91 R Tryz.ntmps91 R ?_
 unfold spec_BookSum at t0
 refine wcr (wle (eo_box R R) R fun b1 => (asg R R (asg R R (wnt (wcs (gdO t0 fun g1 t0 => (gdO t0 fun g2 t0 => (wcj (X := Hd) (fun _ => True) (fun z => [(0, (sl v0a)), (6, (sl z))]) (fun z => [ownF (sl z) ((([] : List GBooking) ++ a_list) ++ [a_b])]) ?_ ?_))))))))
 refine wcd [box b1 [iv a_b.Day, iv a_b.From, iv a_b.To, iv a_b.Sum]] 7 mixed (aq 1 R (pom R) so1 R (aq (v := .agg #[iv a_b.Day, iv a_b.From, iv a_b.To, iv a_b.Sum]) 3 R (plb tk_90 pz R R R) so1 R (wa_2 (i := 0) (j := 4) (by kernel_rfl) ?_ ?_)))
 refine wse R (ebs R sb_34_0) (fun _ => (zt (zc pk1 zn))) R fun b2 => wa_2 (i := 2) (j := 4) (by kernel_rfl) ?_ ?_
 refine wse R (eo_append (xs := ([] : List GBooking)) (ys := a_list) ak_34 (pbo pz (n := 0) (xs := ([] : List GBooking)) R R (by unfold maxLen; omega)) R R (slin_rd fun _ g => Rg.on (rga r0) g) g1) (fun _ => (zt (zc pk1 zn))) R fun x1 => ?_
 refine a1 4 (wse R (ebs R (sb_34_1 a_b.Day a_b.From a_b.To a_b.Sum)) (fun _ => (zt (zc pk2 zn))) R fun b3 => (a1 5 (wse R (eo_append (xs := (([] : List GBooking) ++ a_list)) (ys := ([a_b] : List GBooking)) ak_34 pk1 R R (slin_rd fun _ g => Rg.on (rgo (pbo pz (n := 1) (xs := ([a_b] : List GBooking)) R R (by unfold maxLen; omega))) g) g2) (fun _ => (zt (zc pk2 zn))) R fun x2 => ?_)))
 exact aq 6 R (po_assign R) (zc pk2 zn) R (ae (wqm x2 trivial (su2 R R) so1))
 refine wse R (ebs R (sb_34_1 a_b.Day a_b.From a_b.To a_b.Sum)) (fun _ => (zt (zc pk2 zn))) R fun b4 => a1 2 (wse R (eo_append (xs := ([] : List GBooking)) (ys := a_list) ak_34 (pbo pk1 (n := 0) (xs := ([] : List GBooking)) R R (by unfold maxLen; omega)) R R (slin_rd fun _ g => Rg.on (rga r0) g) g1) (fun _ => (zt (zc pk2 zn))) R fun x3 => ?_)
 refine a1 5 (wse R (eo_append (xs := (([] : List GBooking) ++ a_list)) (ys := ([a_b] : List GBooking)) ak_34 pz R R (slin_rd fun _ g => Rg.on (rgo (pbo pk1 (n := 1) (xs := ([a_b] : List GBooking)) R R (by unfold maxLen; omega))) g) g2) (fun _ => (zt (zc pk2 zn))) R fun x4 => ?_)
 exact aq 6 R (po_assign R) (zc pk2 zn) R (ae (wqm x4 trivial (su2 R R) so1))
 refine wse R (ebs R (sb_34_1 a_b.Day a_b.From a_b.To a_b.Sum)) (fun _ => (zt (zc pk1 zn))) R fun b5 => a1 0 (wse R (ebs R sb_34_0) (fun _ => (zt (zc pk2 zn))) R fun b6 => (a1 2 (wse R (eo_append (xs := ([] : List GBooking)) (ys := a_list) ak_34 (pbo pz (n := 0) (xs := ([] : List GBooking)) R R (by unfold maxLen; omega)) R R (slin_rd fun _ g => Rg.on (rga r0) g) g1) (fun _ => (zt (zc pk2 zn))) R fun x5 => ?_)))
 refine a1 5 (wse R (eo_append (xs := (([] : List GBooking) ++ a_list)) (ys := ([a_b] : List GBooking)) ak_34 pz R R (slin_rd fun _ g => Rg.on (rgo (pbo pk1 (n := 1) (xs := ([a_b] : List GBooking)) R R (by unfold maxLen; omega))) g) g2) (fun _ => (zt (zc pk2 zn))) R fun x6 => ?_)
 exact aq 6 R (po_assign R) (zc pk2 zn) R (ae (wqm x6 trivial (su2 R R) so1))
 intro x7 _
 refine wqt (wcs (wcs (bdO t0 fun y1 t1 t0 => (wj (J := Bool) (X := Unit) (fun z => y1 = z) (fun z _ => [(0, (sl v0a)), (6, (sl x7)), (20, .bool z)]) (fun _ _ => [ownF (sl x7) ((([] : List GBooking) ++ a_list) ++ [a_b])]) ?_ ?_))))
 refine wcg (mv R R (bdO t1 fun v1 hv1 t1 => (wlc (cz0 fa_35 R fun w hw => c_spec_LedgerOk w a_list v0a (ra r0 hw) hv1) R fun _ => (wlq (po_not R) R (mv R R (wlo (t := 16) t1 R (fun h1 t1 => ?_) fun h1 t1 => ?_))))))
 exact wgf (j := 3) R R R R R (wgf (j := 3) R R R R R (wgf (j := 3) R R R R R (wlq (pit R R) R (wln (wjm _ () (mtE t1) (su3 R R R) so1)))))
 exact wgn (j := 3) R R R (mv R R (bdO t1 fun v2 hv2 t1 => (wgn (j := 3) R R R (wlc (cz0 fa_35 R fun w hw => c_spec_LedgerOk w ((([] : List GBooking) ++ a_list) ++ [a_b]) x7 (Rg.on (rgo pz) hw) hv2) R (fun _ => (wgn (j := 3) R R R (wlq (po_not R) R (wlq (pif R R) R (wln (wjm _ () (mtE t1) (su3 R R R) so1))))))))))
 intro j1 _ hp
 obtain rfl : j1 = y1 := hp.symm
 refine wqt (wcO t0 R (fun h2 t0 => ?_) fun h2 t0 => ?_)
 refine wcr (wle (ebs R sb_34_0) R fun b7 => (mv R R (wle (eo_append (xs := ([] : List GBooking)) (ys := a_list) ak_34 (pbo pz (n := 0) (xs := ([] : List GBooking)) R R (by unfold maxLen; omega)) R R (slin_rd fun _ g => Rg.on (rga r0) g) g1) R fun x9 => ?_)))
 refine asg R R (asg R R (wnt (wct (wqr ?_))))
 obtain rfl := oi t0
 exact wq_ret2 R R R fun w hw => ⟨x9, R, hw.weak so1⟩
 refine wck (wqt (wcr (mv R R (asg R R (asg R R (wnt (wct ?_)))))))
 obtain rfl := oi t0
 exact wq_ret2 R R R fun w hw => ⟨x7, R, hw.weak so1⟩

theorem c_spec_Admit (w : World) (a_g : GGuild) (v0a : Hd) (r0 : rdF w (dm w []) (sl v0a) a_g.Members) (v1a : Hd) (r1 : rdF w (dm w []) (sl v1a) a_g.Stock) (v2a : Hd) (u2a : List Value) (r2 : RdL w (dm w []) (sl v2a) u2a a_g.Entries) (v3a : Hd) (r3 : rdF w (dm w []) (sl v3a) a_g.Books) (a_number : Int) {r : GGuild × Bool} (t0 : spec_Admit a_g a_number = some r) : Calls Tryz.prog 62 #[.agg #[(sl v0a), (sl v1a), (sl v2a), (sl v3a), .int .i64 a_g.Round, .int .i64 a_g.Year], .int .i64 a_number] w fun e w' => ∃ x : Hd × Hd × Hd × (List Value) × Hd, e = .returned (.tuple #[.agg #[(sl x.1), (sl x.2.1), (sl x.2.2.1), (sl x.2.2.2.2), .int .i64 r.1.Round, .int .i64 r.1.Year], .bool r.2]) ∧ SH w [] [ownF (sl x.1) r.1.Members, ownF (sl x.2.1) r.1.Stock, own (sl x.2.2.1) x.2.2.2.1 r.1.Entries, ownF (sl x.2.2.2.2) r.1.Books] w' := by
 refine cwc (args := [_, _]) Tryz.func62 R Tryz.ntmps62 R ?_
 unfold spec_Admit at t0
 refine wcr (wle (eo_box R R) R fun b1 => (wle (eal (cs := [(sl hn), (sl hn), (sl hn), (sl hn), iv 0, iv 0]) za_36) R fun b2 => (asg R R (wnt (wcr (wlq (v := .agg #[(sl v0a), (sl v1a), (sl v2a), (sl v3a), iv a_g.Round, iv a_g.Year]) (plb tk_36 pk1 R R R) R (bdO t0 fun v1 hv1 t0 => (wlc (co_c4 fa_40 R fun w hw => c_spec_l38Copy w a_g v0a (ra r0 hw) v1a (ra r1 hw) v2a u2a (ra r2 hw) v3a (ra r3 hw) hv1) R fun x1 => (wle (eal (cs := [(sl hn), (sl hn), (sl hn), (sl hn), iv 0, iv 0]) za_36) R fun b3 => (wls (sbx (cs' := [(sl x1.1), (sl x1.2.1), (sl x1.2.2.1), (sl x1.2.2.2.2), iv v1.Round, iv v1.Year]) tk_36 pz R R R R R R R) (wnt (wcs (wcs (bdO t0 fun y1 t1 t0 => (wj (J := Bool) (X := Unit) (fun z => y1 = z) (fun z _ => [(1, iv a_number), (2, ptr b1 0), (4, ptr b2 0), (6, ptr b3 0), (24, .bool z)]) (fun _ _ => [box b3 [(sl x1.1), (sl x1.2.1), (sl x1.2.2.1), (sl x1.2.2.2.2), iv v1.Round, iv v1.Year], box b2 [(sl hn), (sl hn), (sl hn), (sl hn), iv 0, iv 0], box b1 [(sl v0a), (sl v1a), (sl v2a), (sl v3a), iv a_g.Round, iv a_g.Year], ownF (sl x1.1) v1.Members, ownF (sl x1.2.1) v1.Stock, own (sl x1.2.2.1) x1.2.2.2.1 v1.Entries, ownF (sl x1.2.2.2.2) v1.Books]) ?_ ?_)))))))))))))))
 refine wcg (wlq (v := .agg #[(sl v0a), (sl v1a), (sl v2a), (sl v3a), iv a_g.Round, iv a_g.Year]) (plb tk_36 pk6 R R R) R (bdO t1 fun v2 hv2 t1 => (wlc (cz0 fa_18 R fun w hw => c_spec_GuildOk w a_g v0a (ra r0 hw) v1a (ra r1 hw) v2a u2a (ra r2 hw) v3a (ra r3 hw) hv2) R fun _ => (wlq (po_not R) R (mv R R (wlo (t := 20) t1 R (fun h1 t1 => ?_) fun h1 t1 => ?_))))))
 exact wgf (j := 3) R R R R R (wgf (j := 3) R R R R R (wgf (j := 3) R R R R R (wlq (pit R R) R (wln (wjm _ () (mtE t1) (su5 R R R R R) (zc pz (zc pk4 (zc pk4 so4))))))))
 exact wgn (j := 3) R R R (wlq (pof fo_36_4 R) R (wgn (j := 3) R R R (wlq (v := iv a_g.Round) (plx tk_3 pk6 R R) R (wgn (j := 3) R R R (wlq (po_neq R R) R (wlq (pif R R) R (wln (wjm _ () (mtE t1) (su5 R R R R R) (zc pz (zc pk4 (zc pk4 so4)))))))))))
 intro j1 _ hp
 obtain rfl : j1 = y1 := hp.symm
 refine wqt (wcO t0 R (fun h2 t0 => ?_) fun h2 t0 => ?_)
 refine wcr (wlq (v := .agg #[(sl x1.1), (sl x1.2.1), (sl x1.2.2.1), (sl x1.2.2.2.2), iv v1.Round, iv v1.Year]) (plb tk_36 pz R R R) R (wls (sbx (cs' := [(sl x1.1), (sl x1.2.1), (sl x1.2.2.1), (sl x1.2.2.2.2), iv v1.Round, iv v1.Year]) tk_36 pk1 R R R R R R R) (asg R R (wnt (wct (wqr ?_))))))
 obtain rfl := oi t0
 exact wq_retc1 R tk_36 R R pz R fun w hw => ⟨(x1.1, x1.2.1, x1.2.2.1, x1.2.2.2.1, x1.2.2.2.2), R, hw.weak (zc pk3 (zc pk3 (zc pk3 (zc pk3 zn))))⟩
 refine wck (wqt (wcr (asg R R (wnt (wcs (wcr (wlq (pof fo_36_3 R) R (wlq (v := (sl v3a)) (plx tk_34 pk2 R R) R (wlq (pln (rga r3) el_34 R) R (wlq (po_gtr R R) R (wnt (bdO t0 fun y1 t1 t0 => (wj (J := Int) (X := Unit) (fun z => y1 = z) (fun z _ => [(1, iv a_number), (2, ptr b1 0), (4, ptr b2 0), (6, ptr b3 0), (7, iv z)]) (fun _ _ => [box b3 [(sl x1.1), (sl x1.2.1), (sl x1.2.2.1), (sl x1.2.2.2.2), iv v1.Round, iv v1.Year], box b2 [(sl hn), (sl hn), (sl hn), (sl hn), iv 0, iv 0], box b1 [(sl v0a), (sl v1a), (sl v2a), (sl v3a), iv a_g.Round, iv a_g.Year], ownF (sl x1.1) v1.Members, ownF (sl x1.2.1) v1.Stock, own (sl x1.2.2.1) x1.2.2.2.1 v1.Entries, ownF (sl x1.2.2.2.2) v1.Books]) ?_ ?_)))))))))))))
 refine wcO t1 R (fun h3 t1 => ?_) fun h3 t1 => ?_
 exact wcg (wlq (pof fo_36_3 R) R (wlq (v := (sl v3a)) (plx tk_34 pk2 R R) R (wlq (pof fo_36_3 R) R (wlq (v := (sl v3a)) (plx tk_34 pk2 R R) R (wlq (pln (rga r3) el_34 R) R (wlq (po_sub R R) R (gdO t1 fun g1 t1 => (wlq (po_ixr (rga r3) el_34 R R g1.1 g1.2) R (wlq (po_sfldr (rga r3) (ix_lt g1) fo_90_0 R) R (wlq (v := iv ((gx a_g.Books (((wr (((a_g.Books.length : Nat) : Int) - 1))).toNat)).Day)) (po_ldf (rga r3) tk_3 R (ix_lt g1) R) R (asg R R (wln (wjm _ () (mtE t1) (su5 R R R R R) so7)))))))))))))
 exact wck (wjm _ () (mtE t1) (su5 R R R R R) so7)
 intro j2 _ hp
 obtain rfl : j2 = y1 := hp.symm
 refine wqt (wcr (wlq (pof fo_36_0 R) R (wlq (v := (sl v0a)) (plx tk_32 pk2 R R) R (mv R R (wlq (pof fo_36_5 R) R (wlq (v := iv a_g.Year) (plx tk_3 pk2 R R) R (bdO t0 fun v3 hv3 t0 => (wlc (cz1 fa_89 R fun w hw => c_spec_JoinGuild w a_g.Members v0a (ra r0 hw) a_number a_g.Year hv3) R fun x4 => (mv R R (wlq (pex R R) R (wlq (pex R R) R (asg R R (asg R R (wnt (wcr (mv R R (mv R R (bdO t0 fun v4 hv4 t0 => (wlc (cz1 fa_90 R fun w hw => c_spec_PayDues w v3.1 x4 (Rg.on (rgo pz) hw) a_number 1 hv4) R fun x5 => (mv R R (wlq (pex R R) R (wlq (pex R R) R (asg R R (asg R R (wnt (wcr (wlq (pof fo_36_3 R) R (wlq (v := (sl v3a)) (plx tk_34 pk4 R R) R (mv R R (wlq (po_build R (bd_90_0_1_2_3 j2 0 1 20)) R (bdO t0 fun v5 hv5 t0 => (wlc (cz1 fa_91 R fun w hw => c_spec_BookSum w a_g.Books v3a (ra r3 hw) (GBooking.mk j2 0 1 20) hv5) R fun x6 => (mv R R (wlq (pex R R) R (wlq (pex R R) R (asg R R (asg R R (wnt (wcs ?_)))))))))))))))))))))))))))))))))))))))
 refine wcs (wcj (X := Unit) (fun _ => True) (fun _ => [(2, ptr b1 0), (4, ptr b2 0), (6, ptr b3 0), (10, (sl x5)), (12, (sl x6)), (71, .bool ((!v3.2) || ((!v4.2) || (!v5.2))))]) (fun _ => [box b3 [(sl x1.1), (sl x1.2.1), (sl x1.2.2.1), (sl x1.2.2.2.2), iv v1.Round, iv v1.Year], box b2 [(sl hn), (sl hn), (sl hn), (sl hn), iv 0, iv 0], box b1 [(sl v0a), (sl v1a), (sl v2a), (sl v3a), iv a_g.Round, iv a_g.Year], ownF (sl x5) v4.1, ownF (sl x6) v5.1, ownF (sl x1.1) v1.Members, ownF (sl x1.2.1) v1.Stock, own (sl x1.2.2.1) x1.2.2.2.1 v1.Entries, ownF (sl x1.2.2.2.2) v1.Books]) ?_ ?_)
 refine wcg (mv R R (wlq (po_not R) R (mv R R (wl_fork (t := 64) R (fun h4 => ?_) fun h4 => ?_))))
 exact wgf (j := 2) R R R R R (wgf (j := 2) R R R R R (wlq (pit R R) R (mv R R (wgf (j := 6) R R R R R (wgf (j := 6) R R R R R (wlq (pit R R) R (wln (wqm () trivial (yc R (yc R (yc R (yc R (yc R (sub_b R (by rw [h4]; rfl) yn)))))) (zc pk3 (zc pk3 (zc pk3 (zc pk1 (zc pz (zc pk1 (zc pk1 (zc pk1 (zc pk1 zn)))))))))))))))))
 refine wgn (j := 2) R R R (mv R R (wgn (j := 2) R R R (wlq (po_not R) R (wlq (pif R R) R (mv R R (wl_fork (t := 68) R (fun h5 => ?_) fun h5 => ?_))))))
 exact wgf (j := 6) R R R R R (wgf (j := 6) R R R R R (wlq (pit R R) R (wln (wqm () trivial (yc R (yc R (yc R (yc R (yc R (sub_b R (by rw [h4, h5]; rfl) yn)))))) (zc pk3 (zc pk3 (zc pk3 (zc pk1 (zc pz (zc pk1 (zc pk1 (zc pk1 (zc pk1 zn)))))))))))))
 exact wgn (j := 6) R R R (mv R R (wgn (j := 6) R R R (wlq (po_not R) R (wlq (pif R R) R (wln (wqm () trivial (yc R (yc R (yc R (yc R (yc R (sub_b R (by rw [h4, h5]; rfl) yn)))))) (zc pk3 (zc pk3 (zc pk3 (zc pk1 (zc pz (zc pk1 (zc pk1 (zc pk1 (zc pk1 zn)))))))))))))))
 intro _ _
 refine wqt (wcO t0 R (fun h6 t0 => ?_) fun h6 t0 => ?_)
 refine wcr (wlq (v := .agg #[(sl x1.1), (sl x1.2.1), (sl x1.2.2.1), (sl x1.2.2.2.2), iv v1.Round, iv v1.Year]) (plb tk_36 pz R R R) R (wls (sbx (cs' := [(sl x1.1), (sl x1.2.1), (sl x1.2.2.1), (sl x1.2.2.2.2), iv v1.Round, iv v1.Year]) tk_36 pk1 R R R R R R R) (asg R R (wnt (wct (wqr ?_))))))
 obtain rfl := oi t0
 exact wq_retc1 R tk_36 R R pz R fun w hw => ⟨(x1.1, x1.2.1, x1.2.2.1, x1.2.2.2.1, x1.2.2.2.2), R, hw.weak (zc pk5 (zc pk5 (zc pk5 (zc pk5 zn))))⟩
 refine wck (wqt (wcr (wlq (v := .agg #[(sl v0a), (sl v1a), (sl v2a), (sl v3a), iv a_g.Round, iv a_g.Year]) (plb tk_36 pk2 R R R) R (bdO t0 fun v6 hv6 t0 => (wlc (co_c4 fa_40 R fun w hw => c_spec_l38Copy w a_g v0a (ra r0 hw) v1a (ra r1 hw) v2a u2a (ra r2 hw) v3a (ra r3 hw) hv6) R fun x8 => (wle (eal (cs := [(sl hn), (sl hn), (sl hn), (sl hn), iv 0, iv 0]) za_36) R fun b4 => (wls (sbx (cs' := [(sl x8.1), (sl x8.2.1), (sl x8.2.2.1), (sl x8.2.2.2.2), iv v6.Round, iv v6.Year]) tk_36 pz R R R R R R R) (wnt (wcr (mv R R (wlq (pof fo_36_0 R) R (wls (sbx (cs' := [(sl x5), (sl x8.2.1), (sl x8.2.2.1), (sl x8.2.2.2.2), iv v6.Round, iv v6.Year]) tk_32 pz R R R R R R R) (wnt (wcr (mv R R (wlq (pof fo_36_3 R) R (wls (sbx (cs' := [(sl x5), (sl x8.2.1), (sl x8.2.2.1), (sl x6), iv v6.Round, iv v6.Year]) tk_34 pz R R R R R R R) (wnt (wcs (wcr (wlq (v := .agg #[(sl x5), (sl x8.2.1), (sl x8.2.2.1), (sl x6), iv v6.Round, iv v6.Year]) (plb tk_36 pz R R R) R (bdO t0 fun v7 hv7 t0 => (wlc (cz0 fa_18 R fun w hw => c_spec_GuildOk w (GGuild.mk v4.1 v6.Stock v6.Entries v5.1 v6.Round v6.Year) x5 (Rg.on (rgo pk8) hw) x8.2.1 (Rg.on (rgo pk2) hw) x8.2.2.1 x8.2.2.2.1 (Rg.on (rgo pk3) hw) x6 (Rg.on (rgo pk9) hw) hv7) R fun _ => (wlq (po_not R) R (wnt (wcO t0 R (fun h7 t0 => ?_) fun h7 t0 => ?_))))))))))))))))))))))))))
 refine wcr (wlq (v := .agg #[(sl x1.1), (sl x1.2.1), (sl x1.2.2.1), (sl x1.2.2.2.2), iv v1.Round, iv v1.Year]) (plb tk_36 pk5 R R R) R (wls (sbx (cs' := [(sl x1.1), (sl x1.2.1), (sl x1.2.2.1), (sl x1.2.2.2.2), iv v1.Round, iv v1.Year]) tk_36 pk6 R R R R R R R) (asg R R (wnt (wct (wqr ?_))))))
 obtain rfl := oi t0
 exact wq_retc1 R tk_36 R R pz R fun w hw => ⟨(x1.1, x1.2.1, x1.2.2.1, x1.2.2.2.1, x1.2.2.2.2), R, hw.weak (zc pk10 (zc pk10 (zc pk10 (zc pk10 zn))))⟩
 refine wck (wqt (wcr (wlq (v := .agg #[(sl x5), (sl x8.2.1), (sl x8.2.2.1), (sl x6), iv v6.Round, iv v6.Year]) (plb tk_36 pz R R R) R (wls (sbx (cs' := [(sl x5), (sl x8.2.1), (sl x8.2.2.1), (sl x6), iv v6.Round, iv v6.Year]) tk_36 pk6 R R R R R R R) (asg R R (wnt (wct ?_)))))))
 obtain rfl := oi t0
 exact wq_retc1 R tk_36 R R pz R fun w hw => ⟨(x5, x8.2.1, x8.2.2.1, x8.2.2.2.1, x6), R, hw.weak (zc pk8 (zc pk3 (zc pk3 (zc pk6 zn))))⟩

theorem c_spec_WholeCell (w : World) (a_a : Int) {r : GCell} (t0 : spec_WholeCell a_a = some r) : Calls Tryz.prog 94 #[.int .i64 a_a] w fun e w' => e = .returned (.agg #[.int .i64 r.Split, .int .i64 r.A, .int .i64 r.B]) ∧ SH w [] [] w' := by
 refine cwc (args := [_]) Tryz.func94 R Tryz.ntmps94 R ?_
 unfold spec_WholeCell at t0
 refine wcr (wle (eal (cs := [iv 0, iv 0, iv 0]) za_119) R fun b1 => (wnt (wcs (wcr (mv R R (bdO t0 fun v1 hv1 t0 => (wlc (cz0 fa_36 R fun w hw => c_spec_l01In w a_a 0 5 hv1) R fun _ => (wlq (po_not R) R (wnt (wcO t0 R (fun h1 t0 => ?_) fun h1 t0 => ?_))))))))))
 refine wcr (wlq (po_build R bd_119) R (wls (sbx (cs' := [iv 0, iv 0, iv 0]) tk_119 pz R R R R R R R) (wnt (wct (wqr ?_)))))
 obtain rfl := oi t0
 exact wqc R tk_119 R pz R fun w hw => ⟨R, hw.weak zn⟩
 refine wck (wqt (wcr (mv R R (mv R R (wlq (po_build R (bd_119_1_2 a_a a_a)) R (wls (sbx (cs' := [iv 0, iv a_a, iv a_a]) tk_119 pz R R R R R R R) (wnt (wct ?_))))))))
 obtain rfl := oi t0
 exact wqc R tk_119 R pz R fun w hw => ⟨R, hw.weak zn⟩

theorem c_spec_StarBlock (w : World)  {r : GBlock} (t0 : spec_StarBlock = some r) : Calls Tryz.prog 93 #[] w fun e w' => ∃ x : Hd, e = .returned (.agg #[.int .i64 r.Size, (sl x)]) ∧ SH w [] [ownF (sl x) r.Cells] w' := by
 refine cwc (args := []) Tryz.func93 R Tryz.ntmps93 R ?_
 unfold spec_StarBlock at t0
 refine wcr (wle (eal (cs := [iv 0, (sl hn)]) za_75) R fun b1 => (wnt (wcr (bdO t0 fun v1 hv1 t0 => (wlc (cz0 fa_94 R fun w hw => c_spec_WholeCell w 1 hv1) R fun _ => (wle (eal (cs := [iv 0, iv 0, iv 0]) za_119) R fun b2 => (wls (sbx (cs' := [iv v1.Split, iv v1.A, iv v1.B]) tk_119 pz R R R R R R R) (wnt (wcr (wlq (po_build R (bd_119_0_1_2 1 0 1)) R (wlq (v := .agg #[iv v1.Split, iv v1.A, iv v1.B]) (plb tk_119 pz R R R) R (wlq (po_build R (bd_119_0_1_2 2 1 0)) R (wlq (v := .agg #[iv v1.Split, iv v1.A, iv v1.B]) (plb tk_119 pz R R R) R (wlq (v := .agg #[iv v1.Split, iv v1.A, iv v1.B]) (plb tk_119 pz R R R) R (wlq (v := .agg #[iv v1.Split, iv v1.A, iv v1.B]) (plb tk_119 pz R R R) R (wlq (po_build R (bd_119_0_1_2 2 0 1)) R (wlq (v := .agg #[iv v1.Split, iv v1.A, iv v1.B]) (plb tk_119 pz R R R) R (wlq (po_build R (bd_119_0_1_2 1 1 0)) R (wle (ebs (qs := [(0, .agg #[iv 1, iv 0, iv 1]), (1, .agg #[iv v1.Split, iv v1.A, iv v1.B]), (2, .agg #[iv 2, iv 1, iv 0]), (3, .agg #[iv v1.Split, iv v1.A, iv v1.B]), (4, .agg #[iv v1.Split, iv v1.A, iv v1.B]), (5, .agg #[iv v1.Split, iv v1.A, iv v1.B]), (6, .agg #[iv 2, iv 0, iv 1]), (7, .agg #[iv v1.Split, iv v1.A, iv v1.B]), (8, .agg #[iv 1, iv 1, iv 0])]) R (sb_73_9 1 0 1 v1.Split v1.A v1.B 2 1 0 v1.Split v1.A v1.B v1.Split v1.A v1.B v1.Split v1.A v1.B 2 0 1 v1.Split v1.A v1.B 1 1 0)) R fun b3 => (wlq (po_build R (bd_75_0_1 3 (⟨some ⟨b3, 0, none⟩, 9, 9⟩ : Hd))) R (wls (sbx (cs' := [iv 3, (sl (⟨some ⟨b3, 0, none⟩, 9, 9⟩ : Hd))]) tk_75 pk2 R R R R R R R) (wnt (wct ?_)))))))))))))))))))))))
 obtain rfl := oi t0
 exact wqc R tk_75 R pz R fun w hw => ⟨(⟨some ⟨b3, 0, none⟩, 9, 9⟩ : Hd), R, hw.weak (zc (pbo pk1 (n := 9) (xs := ([(GCell.mk 1 0 1), v1, (GCell.mk 2 1 0), v1, v1, v1, (GCell.mk 2 0 1), v1, (GCell.mk 1 1 0)] : List GCell)) R R (by unfold maxLen; omega)) zn)⟩

theorem c_spec_SplitCell (w : World) (a_split : Int) (a_a : Int) (a_b : Int) {r : GCell} (t0 : spec_SplitCell a_split a_a a_b = some r) : Calls Tryz.prog 95 #[.int .i64 a_split, .int .i64 a_a, .int .i64 a_b] w fun e w' => e = .returned (.agg #[.int .i64 r.Split, .int .i64 r.A, .int .i64 r.B]) ∧ SH w [] [] w' := by
 refine cwc (args := [_, _, _]) Tryz.func95 R Tryz.ntmps95 R ?_
 unfold spec_SplitCell at t0
 refine wcr (wle (eal (cs := [iv 0, iv 0, iv 0]) za_119) R fun b1 => (wnt (wcs (wcr (mv R R (mv R R (wlq (pol R R) R (wnt (wcO t0 R (fun h1 t0 => ?_) fun h1 t0 => ?_)))))))))
 refine wcr (mv R R (bdO t0 fun v1 hv1 t0 => (wlc (cz0 fa_94 R fun w hw => c_spec_WholeCell w a_a hv1) R fun _ => (wls (sbx (cs' := [iv v1.Split, iv v1.A, iv v1.B]) tk_119 pz R R R R R R R) (wnt (wct (wqr ?_)))))))
 obtain rfl := oi t0
 exact wqc R tk_119 R pz R fun w hw => ⟨R, hw.weak zn⟩
 refine wck (wqt (wcr (mv R R (mv R R (mv R R (wlq (po_build R (bd_119_0_1_2 a_split a_a a_b)) R (wle (eal (cs := [iv 0, iv 0, iv 0]) za_119) R fun b2 => (wls (sbx (cs' := [iv a_split, iv a_a, iv a_b]) tk_119 pz R R R R R R R) (wnt (wcs (wcr (wlq (v := .agg #[iv a_split, iv a_a, iv a_b]) (plb tk_119 pz R R R) R (bdO t0 fun v2 hv2 t0 => (wlc (cz0 fa_88 R fun w hw => c_spec_CellOk w (GCell.mk a_split a_a a_b) hv2) R fun _ => (wlq (po_not R) R (wnt (wcO t0 R (fun h2 t0 => ?_) fun h2 t0 => ?_)))))))))))))))))
 refine wcr (wlq (po_build R bd_119) R (wls (sbx (cs' := [iv 0, iv 0, iv 0]) tk_119 pk1 R R R R R R R) (wnt (wct (wqr ?_)))))
 obtain rfl := oi t0
 exact wqc R tk_119 R pz R fun w hw => ⟨R, hw.weak zn⟩
 refine wck (wqt (wcr (wlq (v := .agg #[iv a_split, iv a_a, iv a_b]) (plb tk_119 pz R R R) R (wls (sbx (cs' := [iv a_split, iv a_a, iv a_b]) tk_119 pk1 R R R R R R R) (wnt (wct ?_))))))
 obtain rfl := oi t0
 exact wqc R tk_119 R pz R fun w hw => ⟨R, hw.weak zn⟩

theorem c_spec_SampleBlock (w : World) (a_n : Int) {r : GBlock} (t0 : spec_SampleBlock a_n = some r) : Calls Tryz.prog 64 #[.int .i64 a_n] w fun e w' => ∃ x : Hd, e = .returned (.agg #[.int .i64 r.Size, (sl x)]) ∧ SH w [] [ownF (sl x) r.Cells] w' := by
 refine cwc (args := [_]) Tryz.func64 R Tryz.ntmps64 R ?_
 unfold spec_SampleBlock at t0
 refine wcr (wle (eal (cs := [iv 0, (sl hn)]) za_75) R fun b1 => (wnt (wcs (wcr (mv R R (wlq (pol R R) R (wnt (wcO t0 R (fun h1 t0 => ?_) fun h1 t0 => ?_))))))))
 refine wcr (bdO t0 fun v1 hv1 t0 => (wlc (cz1 fa_93 R fun w hw => c_spec_StarBlock w hv1) R fun x1 => (wls (sbx (cs' := [iv v1.Size, (sl x1)]) tk_75 pk1 R R R R R R R) (wnt (wct (wqr ?_))))))
 obtain rfl := oi t0
 exact wqc R tk_75 R pz R fun w hw => ⟨x1, R, hw.weak (zc pk1 zn)⟩
 refine wck (wqt (wcs (wcr (mv R R (bdO t0 fun v2 hv2 t0 => (wlc (cz0 fa_36 R fun w hw => c_spec_l01In w a_n 1 9 hv2) R fun _ => (wlq (po_not R) R (wnt (wcO t0 R (fun h2 t0 => ?_) fun h2 t0 => ?_)))))))))
 refine wcr (wlq (po_build R bd_75) R (wls (sbx (cs' := [iv 0, (sl hn)]) tk_75 pz R R R R R R R) (wnt (wct (wqr ?_)))))
 obtain rfl := oi t0
 exact wqc R tk_75 R pz R fun w hw => ⟨hn, R, hw.weak (zc pick_nil zn)⟩
 refine wck (wqt (wcr (wlq (po_build R (bd_75_0 2)) R (wle (eal (cs := [iv 0, (sl hn)]) za_75) R fun b2 => (wls (sbx (cs' := [iv 2, (sl hn)]) tk_75 pz R R R R R R R) (wnt (wcs (wcr (asg R R (wnt (lpO_inv t0 fun y1 l1 t0 => (wj (J := List GCell) (X := Hd) (fun z => y1 = z) (fun _ _ => [(2, ptr b1 0), (3, ptr b2 0)]) (fun z x => [box b2 [iv 2, (sl x)], box b1 [iv 0, (sl hn)], ownF (sl x) z]) ?_ ?_))))))))))))
 refine wcb (wcf (X := Hd) l1 (fun k1 s1 x1l => [(0, iv a_n), (2, ptr b1 0), (3, ptr b2 0), (4, iv ((k1 : Nat) : Int))]) (fun k1 s1 x1l => [box b2 [iv 2, (sl x1l)], box b1 [iv 0, (sl hn)], ownF (sl x1l) s1]) hn (su4 R R R R) (zc pz (zc pz (zc pick_nil zn))) fun k1 s1 x1l hN1 l1 => ?_)
 by_cases hk1 : k1 < 4
 refine fos l1 hk1 fun _ t1 l1 => ?_
 unfold spec_SampleBlock_L1 at t1
 have c1 : (decide (((k1 : Nat) : Int) < 4)) = true := ddt (by omega)
 refine wcs (wcr (mv R R (wlq (pls R R) R (wnt (wft R c1 (wck (wqt (wcs (wcb (wcr (mv R R (wlq (po_quo R R (by decide)) R ?_))))))))))))
 refine wlq (po_add R R) R (bdO t1 fun v3 hv3 t1 => (wlc (cz0 fa_94 R fun w hw => c_spec_WholeCell w (wr ((wr (a_n.tdiv 5)) + 1)) hv3) R fun _ => (wle (eal (cs := [iv 0, iv 0, iv 0]) za_119) R fun b3 => (wls (sbx (cs' := [iv v3.Split, iv v3.A, iv v3.B]) tk_119 pz R R R R R R R) (wnt (wcs (wcr (mv R R (mv R R (wlq (po_rem R R (by decide)) R ?_))))))))))
 refine wlq (pls R R) R (wnt (bdO t1 fun y2 t2 t1 => (wj (J := GCell) (X := Unit) (fun z => y2 = z) (fun _ _ => [(0, iv a_n), (2, ptr b1 0), (3, ptr b2 0), (4, iv ((k1 : Nat) : Int)), (5, ptr b3 0)]) (fun z _ => [box b3 [iv ((z).Split), iv ((z).A), iv ((z).B)], box b2 [iv 2, (sl x1l)], box b1 [iv 0, (sl hn)], ownF (sl x1l) s1]) ?_ ?_)))
 refine wcO t2 R (fun h3 t2 => ?_) fun h3 t2 => ?_
 exact wcg (bdO t2 fun v4 hv4 t2 => (wlc (cz0 fa_95 R fun w hw => c_spec_SplitCell w 1 0 1 hv4) R fun _ => (wls (sbx (cs' := [iv v4.Split, iv v4.A, iv v4.B]) tk_119 pz R R R R R R R) (wln (wjm _ () (mtE t2) (su5 R R R R R) so4)))))
 exact wck (wjm _ () (mtE t2) (su5 R R R R R) so4)
 intro j1 _ hp
 obtain rfl : j1 = y2 := hp.symm
 refine wqt (wcg (wlq (pof fo_75_1 R) R (wlq (v := (sl x1l)) (plx tk_73 pk1 R R) R (wlq (v := .agg #[iv ((j1).Split), iv ((j1).A), iv ((j1).B)]) (plb tk_119 pz R R R) R (wle (ebs R (sb_73_1 ((j1).Split) ((j1).A) ((j1).B))) R fun b4 => (gdO t1 fun g1 t1 => (wle (eo_append (xs := s1) (ys := ([(j1)] : List GCell)) ak_73 pk4 R R (slin_rd fun _ g => Rg.on (rgo (pbo pz (n := 1) (xs := ([(j1)] : List GCell)) R R (by unfold maxLen; omega))) g) g1) R fun x4 => ?_)))))))
 refine wlq (pof fo_75_1 R) R (wls (sbx (cs' := [iv 2, (sl x4)]) tk_73 pk3 R R R R R R R) (wln (wqb (wqt (wcg (mv R R (wlq (po_inc R R (by omega)) R ?_)))))))
 exact asg R R (wln (wq_rnd hk1 (stpN l1 t1) x4 (su4 R R R R) (zc pz (zc pk3 so1))))
 have c1 : (decide (((k1 : Nat) : Int) < 4)) = false := ddf (by omega)
 have en1 := foe l1 hk1
 exact wcs (wcr (mv R R (wlq (pls R R) R (wnt (wff R c1 (wcx (wqe (wqe (wbx (wjm _ x1l (Sum.inl.inj en1) (su2 R R) so3))))))))))
 intro e1 x2 hp
 obtain rfl : e1 = y1 := hp.symm
 refine wqt (wcr (wlq (v := .agg #[iv 2, (sl x2)]) (plb tk_75 pz R R R) R (wls (sbx (cs' := [iv 2, (sl x2)]) tk_75 pk1 R R R R R R R) (wnt (wct ?_)))))
 obtain rfl := oi t0
 exact wqc R tk_75 R pz R fun w hw => ⟨x2, R, hw.weak (zc pk2 zn)⟩

theorem c_spec_FirstUse (w : World) (a_b : GBlock) (v0a : Hd) (r0 : rdF w (dm w []) (sl v0a) a_b.Cells) {r : List Int} (t0 : spec_FirstUse a_b = some r) : Calls Tryz.prog 153 #[.agg #[.int .i64 a_b.Size, (sl v0a)]] w fun e w' => ∃ x : Hd, e = .returned ((sl x)) ∧ SH w [] [ownF (sl x) r] w' := by
 refine cwc (args := [_]) Tryz.func153 R Tryz.ntmps153 R ?_
 unfold spec_FirstUse at t0
 refine wcr (wle (eo_box R R) R fun b1 => (asg R R (wnt (wcs (wcr (wlq (v := .agg #[iv a_b.Size, (sl v0a)]) (plb tk_75 pz R R R) R (bdO t0 fun v1 hv1 t0 => (wlc (cz0 fa_58 R fun w hw => c_spec_BlockOk w a_b v0a (ra r0 hw) hv1) R fun _ => (wlq (po_not R) R (wnt (wcO t0 R (fun h1 t0 => ?_) fun h1 t0 => ?_)))))))))))
 refine wcr (wle (ebs R sb_23_0) R fun b2 => (asg R R (wnt (wct (wqr ?_)))))
 obtain rfl := oi t0
 exact wq1 R R fun w hw => ⟨(⟨some ⟨b2, 0, none⟩, 0, 0⟩ : Hd), R, hw.weak (zc (pbo pz (n := 0) (xs := ([] : List Int)) R R (by unfold maxLen; omega)) zn)⟩
 refine wck (wqt (wcr (wle (ebs R sb_23_0) R fun b3 => (asg R R (wnt (wcs (wcr (asg R R (wnt (lpO_inv t0 fun y1 l1 t0 => (wj (J := List Int) (X := Hd) (fun z => y1 = z) (fun _ x => [(1, ptr b1 0), (3, (sl x))]) (fun z x => [box b1 [iv a_b.Size, (sl v0a)], ownF (sl x) z]) ?_ ?_)))))))))))
 refine wcb (wcf (X := Hd) l1 (fun k1 s1 x1l => [(1, ptr b1 0), (3, (sl x1l)), (4, iv ((k1 : Nat) : Int))]) (fun k1 s1 x1l => [box b1 [iv a_b.Size, (sl v0a)], ownF (sl x1l) s1]) (⟨some ⟨b3, 0, none⟩, 0, 0⟩ : Hd) (su3 R R R) (zc pk1 (zc (pbo pz (n := 0) (xs := ([] : List Int)) R R (by unfold maxLen; omega)) zn)) fun k1 s1 x1l hN1 l1 => ?_)
 by_cases hk1 : k1 < 6
 refine fos l1 hk1 fun _ t1 l1 => ?_
 unfold spec_FirstUse_L1 at t1
 have c1 : (decide (((k1 : Nat) : Int) < 6)) = true := ddt (by omega)
 refine wcs (wcr (mv R R (wlq (pls R R) R (wnt (wft R c1 (wck (wqt (wcs (wcb (wcg (mv R R (wle (ebs R (sb_23_1 (-1))) R fun b4 => (gdO t1 fun g1 t1 => (wle (eo_append (xs := s1) (ys := ([(-1)] : List Int)) ak_23 pk2 R R (slin_rd fun _ g => Rg.on (rgo (pbo pz (n := 1) (xs := ([(-1)] : List Int)) R R (by unfold maxLen; omega))) g) g1) R fun x2 => ?_))))))))))))))
 refine asg R R (wln (wqb (wqt (wcg (mv R R (wlq (po_inc R R (by omega)) R ?_))))))
 exact asg R R (wln (wq_rnd hk1 (stpN l1 t1) x2 (su3 R R R) (zc pk2 so1)))
 have c1 : (decide (((k1 : Nat) : Int) < 6)) = false := ddf (by omega)
 have en1 := foe l1 hk1
 exact wcs (wcr (mv R R (wlq (pls R R) R (wnt (wff R c1 (wcx (wqe (wqe (wbx (wjm _ x1l (Sum.inl.inj en1) (su2 R R) so2))))))))))
 intro e1 x1 hp
 obtain rfl : e1 = y1 := hp.symm
 refine wqt (wcr (asg R R (wnt (wcs (wcr (asg R R (wnt (gdO t0 fun g2 t0 => (lpO_inv t0 fun y1 l1 t0 => (wj (J := (List Int) × Int) (X := Unit) (fun z => y1 = z) (fun z _ => [(3, (sl x1)), (5, iv z.2)]) (fun z _ => [ownF (sl x1) z.1]) ?_ ?_))))))))))
 refine wcb (wcf (X := Unit) l1 (fun k2 s2 x2l => [(1, ptr b1 0), (3, (sl x1)), (5, iv s2.2), (6, iv ((k2 : Nat) : Int))]) (fun k2 s2 x2l => [box b1 [iv a_b.Size, (sl v0a)], ownF (sl x1) s2.1]) () (su4 R R R R) so2 fun k2 s2 x2l hN2 l1 => ?_)
 by_cases hk2 : k2 < ((wr (2 * ((a_b.Cells.length : Nat) : Int)))).toNat
 refine fos l1 hk2 fun _ t1 l1 => ?_
 unfold spec_FirstUse_L2 at t1
 have c2 : (decide (((k2 : Nat) : Int) < (wr (2 * ((a_b.Cells.length : Nat) : Int))))) = true := ddt (by omega)
 refine wcs (wcr (mv R R (wlq (pof fo_75_1 R) R (wlq (v := (sl v0a)) (plx tk_73 pz R R) R (wlq (pln (rga r0) el_73 R) R (wlq (po_mul R R) R (wlq (pls R R) R (wnt (wft R c2 (wck (wqt (wcs (wcb (wcr (wlq (pof fo_75_1 R) R (wlq (v := (sl v0a)) (plx tk_73 pz R R) R (mv R R (wlq (po_quo R R (by decide)) R ?_))))))))))))))))))
 refine gdO t1 fun g3 t1 => wlq (po_ixr (rga r0) el_73 R R g3.1 g3.2) R (wlq (po_sfldr (rga r0) (ix_lt g3) fo_119_1 R) R (wlq (v := iv ((gx a_b.Cells (((wr (((k2 : Nat) : Int).tdiv 2))).toNat)).A)) (po_ldf (rga r0) tk_3 R (ix_lt g3) R) R (asg R R (wnt (wcs (wcr (mv R R (wlq (po_rem R R (by decide)) R ?_))))))))
 refine wlq (pol R R) R (wnt (wcj (X := Unit) (fun _ => True) (fun _ => [(1, ptr b1 0), (3, (sl x1)), (5, iv s2.2), (6, iv ((k2 : Nat) : Int)), (7, iv (bif ((((k2 : Nat) : Int).tmod 2) == 1) then (gx a_b.Cells (((wr (((k2 : Nat) : Int).tdiv 2))).toNat)).B else (gx a_b.Cells (((wr (((k2 : Nat) : Int).tdiv 2))).toNat)).A))]) (fun _ => [box b1 [iv a_b.Size, (sl v0a)], ownF (sl x1) s2.1]) ?_ ?_))
 refine wc_cond R (fun h2 => ?_) fun h2 => ?_
 refine wcg (wlq (pof fo_75_1 R) R (wlq (v := (sl v0a)) (plx tk_73 pz R R) R (mv R R (wlq (po_quo R R (by decide)) R ?_))))
 exact wlq (po_ixr (rga r0) el_73 R R g3.1 g3.2) R (wlq (po_sfldr (rga r0) (ix_lt g3) fo_119_2 R) R (wlq (v := iv ((gx a_b.Cells (((wr (((k2 : Nat) : Int).tdiv 2))).toNat)).B)) (po_ldf (rga r0) tk_3 R (ix_lt g3) R) R (asg R R (wln (wqm () trivial (yc R (yc R (yc R (yc R (sub_i R (by simp only [h2, cond_true]) yn))))) so2)))))
 exact wck (wqm () trivial (yc R (yc R (yc R (yc R (sub_i R (by simp only [h2, cond_false]) yn))))) so2)
 intro _ _
 refine wqt (wcr (mv R R (mv R R (gdO t1 fun g4 t1 => (wlq (po_ixr (rgo pk1) el_23 R R g4.1 g4.2) R (wlq (v := iv (gx s2.1 (((bif ((((k2 : Nat) : Int).tmod 2) == 1) then (gx a_b.Cells (((wr (((k2 : Nat) : Int).tdiv 2))).toNat)).B else (gx a_b.Cells (((wr (((k2 : Nat) : Int).tdiv 2))).toNat)).A)).toNat))) (po_ldf (rgo pk1) tk_3 R (ix_lt g4) R) R (wlq (pls R R) R (wnt (wcj (X := Unit) (fun _ => True) (fun _ => [(1, ptr b1 0), (3, (sl x1)), (5, iv (bif (decide ((gx s2.1 (((bif ((((k2 : Nat) : Int).tmod 2) == 1) then (gx a_b.Cells (((wr (((k2 : Nat) : Int).tdiv 2))).toNat)).B else (gx a_b.Cells (((wr (((k2 : Nat) : Int).tdiv 2))).toNat)).A)).toNat)) < 0)) then (wr (s2.2 + 1)) else s2.2)), (6, iv ((k2 : Nat) : Int))]) (fun _ => [box b1 [iv a_b.Size, (sl v0a)], ownF (sl x1) (bif (decide ((gx s2.1 (((bif ((((k2 : Nat) : Int).tmod 2) == 1) then (gx a_b.Cells (((wr (((k2 : Nat) : Int).tdiv 2))).toNat)).B else (gx a_b.Cells (((wr (((k2 : Nat) : Int).tdiv 2))).toNat)).A)).toNat)) < 0)) then (s2.1.set (((bif ((((k2 : Nat) : Int).tmod 2) == 1) then (gx a_b.Cells (((wr (((k2 : Nat) : Int).tdiv 2))).toNat)).B else (gx a_b.Cells (((wr (((k2 : Nat) : Int).tdiv 2))).toNat)).A)).toNat) s2.2) else s2.1)]) ?_ ?_)))))))))
 refine wc_cond R (fun h3 => ?_) fun h3 => ?_
 exact wcr (mv R R (mv R R (mv R R (wlq (po_ixr (rgo pk1) el_23 R R g4.1 g4.2) R (wls (so_own (x' := s2.2) tk_3 pk1 R R R R R R (ix_lt g4) R) (wnt (wcg (mv R R (wlq (po_add R R) R (asg R R (wln (wqm () trivial (yc R (yc R (sub_i R (by simp only [h3, cond_true]) (su1 R)))) (zc pk1 (zc (by simp only [h3, cond_true]; exact pz) zn))))))))))))))
 exact wck (wqm () trivial (yc R (yc R (sub_i R (by simp only [h3, cond_false]) (su1 R)))) (zc pz (zc (by simp only [h3, cond_false]; exact pz) zn)))
 intro _ _
 refine wqb (wqt (wcg (mv R R (wlq (po_inc R R (by omega)) R ?_))))
 exact asg R R (wln (wq_rnd hk2 (stpN l1 t1) () (su4 R R R R) so2))
 have c2 : (decide (((k2 : Nat) : Int) < (wr (2 * ((a_b.Cells.length : Nat) : Int))))) = false := ddf (by omega)
 have en2 := foe l1 hk2
 exact wcs (wcr (mv R R (wlq (pof fo_75_1 R) R (wlq (v := (sl v0a)) (plx tk_73 pz R R) R (wlq (pln (rga r0) el_73 R) R (wlq (po_mul R R) R (wlq (pls R R) R (wnt (wff R c2 (wcx (wqe (wqe (wbx (wjm _ () (Sum.inl.inj en2) (su2 R R) (zc pk1 zn)))))))))))))))
 intro e2 _ hp
 obtain rfl : e2 = y1 := hp.symm
 refine wqt (wcs (wcr (asg R R (wnt (lpO_inv t0 fun y1 l1 t0 => (wj (J := (List Int) × Int) (X := Unit) (fun z => y1 = z) (fun _ _ => [(3, (sl x1))]) (fun z _ => [ownF (sl x1) z.1]) ?_ ?_))))))
 refine wcb (wcf (X := Unit) l1 (fun k3 s3 x3l => [(3, (sl x1)), (5, iv s3.2), (8, iv ((k3 : Nat) : Int))]) (fun k3 s3 x3l => [ownF (sl x1) s3.1]) () (su3 R R R) so1 fun k3 s3 x3l hN3 l1 => ?_)
 by_cases hk3 : k3 < 6
 refine fos l1 hk3 fun _ t1 l1 => ?_
 unfold spec_FirstUse_L3 at t1
 have c3 : (decide (((k3 : Nat) : Int) < 6)) = true := ddt (by omega)
 refine wcs (wcr (mv R R (wlq (pls R R) R (wnt (wft R c3 (wck (wqt (wcs (wcb (wcr (mv R R (mv R R (gdO t1 fun g5 t1 => (wlq (po_ixn (k := k3) (rgo pz) el_23 R R g5) R (wlq (v := iv (gx s3.1 k3)) (po_ldf (rgo pz) tk_3 R g5 R) R (wlq (pls R R) R (wnt (wcj (X := Unit) (fun _ => True) (fun _ => [(3, (sl x1)), (5, iv (bif (decide ((gx s3.1 k3) < 0)) then (wr (s3.2 + 1)) else s3.2)), (8, iv ((k3 : Nat) : Int))]) (fun _ => [ownF (sl x1) (bif (decide ((gx s3.1 k3) < 0)) then (s3.1.set k3 s3.2) else s3.1)]) ?_ ?_))))))))))))))))))
 refine wc_cond R (fun h4 => ?_) fun h4 => ?_
 exact wcr (mv R R (mv R R (mv R R (wlq (po_ixn (k := k3) (rgo pz) el_23 R R g5) R (wls (so_own (x' := s3.2) tk_3 pz R R R R R R g5 R) (wnt (wcg (mv R R (wlq (po_add R R) R (asg R R (wln (wqm () trivial (yc R (sub_i R (by simp only [h4, cond_true]) (su1 R))) (zc (by simp only [h4, cond_true]; exact pz) zn)))))))))))))
 exact wck (wqm () trivial (yc R (sub_i R (by simp only [h4, cond_false]) (su1 R))) (zc (by simp only [h4, cond_false]; exact pz) zn))
 intro _ _
 refine wqb (wqt (wcg (mv R R (wlq (po_inc R R (by omega)) R ?_))))
 exact asg R R (wln (wq_rnd hk3 (stpN l1 t1) () (su3 R R R) so1))
 have c3 : (decide (((k3 : Nat) : Int) < 6)) = false := ddf (by omega)
 have en3 := foe l1 hk3
 exact wcs (wcr (mv R R (wlq (pls R R) R (wnt (wff R c3 (wcx (wqe (wqe (wbx (wjm _ () (Sum.inl.inj en3) (su1 R) so1))))))))))
 intro e3 _ hp
 obtain rfl : e3 = y1 := hp.symm
 refine wqt (wcr (mv R R (asg R R (wnt (wct ?_)))))
 obtain rfl := oi t0
 exact wq1 R R fun w hw => ⟨x1, R, hw.weak so1⟩

theorem c_spec_ListOk (w : World) (a_l : List Int) (v0a : Hd) (r0 : rdF w (dm w []) (sl v0a) a_l) {r : Bool} (t0 : spec_ListOk a_l = some r) : Calls Tryz.prog 165 #[(sl v0a)] w fun e w' => e = .returned (.bool r) ∧ SH w [] [] w' := by
 refine cwc (args := [_]) Tryz.func165 R Tryz.ntmps165 R ?_
 unfold spec_ListOk at t0
 refine wcr (asg R R (wnt (wcs (wcr (asg R R (wnt (gdO t0 fun g1 t0 => (sqO t0 fun y1 l1 t0 => (wj (J := Unit) (X := Unit) (fun z => y1 = .inl z) (fun _ _ => [(0, (sl v0a))]) (fun _ _ => []) ?_ ?_)))))))))
 refine wcb (wcf (X := Unit) l1 (fun k1 s1 x1l => [(0, (sl v0a)), (3, iv ((k1 : Nat) : Int))]) (fun k1 s1 x1l => []) () (su2 R R) zn fun k1 s1 x1l hN1 l1 => ?_)
 by_cases hk1 : k1 < a_l.length
 refine fos l1 hk1 fun _ t1 l1 => ?_
 unfold spec_ListOk_L1 at t1
 have c1 : (decide (((k1 : Nat) : Int) < ((a_l.length : Nat) : Int))) = true := ddt (by omega)
 refine wcs (wcr (mv R R (mv R R (wlq (pln (rga r0) el_23 R) R (wlq (pls R R) R (wnt (wft R c1 (wck (wqt (wcs (wcb (wcr (mv R R (mv R R (wlq (po_ixn (k := k1) (rga r0) el_23 R R hk1) R (wlq (v := iv (gx a_l k1)) (po_ldf (rga r0) tk_3 R hk1 R) R (bdO t1 fun v1 hv1 t1 => (wlc (cz0 fa_36 R fun w hw => c_spec_l01In w (gx a_l k1) 0 5 hv1) R fun _ => (wlq (po_not R) R (wnt (wcO t1 R (fun h1 t1 => ?_) fun h1 t1 => ?_)))))))))))))))))))))
 refine wcr (asg R R (wnt (wct (wbr (wqr (wqr (wbr (wqr (wqr ?_)))))))))
 replace t0 := lpR t0 l1 t1
 obtain rfl := oi t0
 exact wq1 R R fun w hw => ⟨R, hw.weak zn⟩
 refine wck (wqb (wqt (wcg (mv R R (wlq (po_inc R R (by omega)) R ?_)))))
 exact asg R R (wln (wq_rnd hk1 (stpN l1 t1) () (su2 R R) zn))
 have c1 : (decide (((k1 : Nat) : Int) < ((a_l.length : Nat) : Int))) = false := ddf (by omega)
 have en1 := foe l1 hk1
 exact wcs (wcr (mv R R (mv R R (wlq (pln (rga r0) el_23 R) R (wlq (pls R R) R (wnt (wff R c1 (wcx (wqe (wqe (wbx (wjm _ () en1 (su1 R) zn))))))))))))
 intro e1 _ hp
 replace t0 := sqE (j := e1) t0 hp
 refine wqt (wcr (mv R R (wlq (pln (rga r0) el_23 R) R (wlq (pol R R) R (asg R R (wnt (wct ?_)))))))
 obtain rfl := oi t0
 exact wq1 R R fun w hw => ⟨R, hw.weak zn⟩

theorem c_spec_ExchangeCell (w : World) (a_c : GCell) (a_l : List Int) (v0a : Hd) (r0 : rdF w (dm w []) (sl v0a) a_l) {r : GCell} (t0 : spec_ExchangeCell a_c a_l = some r) : Calls Tryz.prog 166 #[.agg #[.int .i64 a_c.Split, .int .i64 a_c.A, .int .i64 a_c.B], (sl v0a)] w fun e w' => e = .returned (.agg #[.int .i64 r.Split, .int .i64 r.A, .int .i64 r.B]) ∧ SH w [] [] w' := by
 refine cwc (args := [_, _]) Tryz.func166 R Tryz.ntmps166 R ?_
 unfold spec_ExchangeCell at t0
 refine wcr (wle (eo_box R R) R fun b1 => (wle (eal (cs := [iv 0, iv 0, iv 0]) za_119) R fun b2 => (wnt (wcs (wcs (bdO t0 fun y1 t1 t0 => (wj (J := Bool) (X := Unit) (fun z => y1 = z) (fun z _ => [(1, (sl v0a)), (2, ptr b1 0), (4, ptr b2 0), (12, .bool z)]) (fun _ _ => [box b2 [iv 0, iv 0, iv 0], box b1 [iv a_c.Split, iv a_c.A, iv a_c.B]]) ?_ ?_)))))))
 refine wcg (wlq (v := .agg #[iv a_c.Split, iv a_c.A, iv a_c.B]) (plb tk_119 pk1 R R R) R (bdO t1 fun v1 hv1 t1 => (wlc (cz0 fa_88 R fun w hw => c_spec_CellOk w a_c hv1) R fun _ => (wlq (po_not R) R (mv R R (wlo (t := 8) t1 R (fun h1 t1 => ?_) fun h1 t1 => ?_))))))
 exact wgf (j := 3) R R R R R (wgf (j := 3) R R R R R (wgf (j := 3) R R R R R (wlq (pit R R) R (wln (wjm _ () (mtE t1) (su4 R R R R) so2)))))
 exact wgn (j := 3) R R R (mv R R (bdO t1 fun v2 hv2 t1 => (wgn (j := 3) R R R (wlc (cz0 fa_165 R fun w hw => c_spec_ListOk w a_l v0a (ra r0 hw) hv2) R (fun _ => (wgn (j := 3) R R R (wlq (po_not R) R (wlq (pif R R) R (wln (wjm _ () (mtE t1) (su4 R R R R) so2))))))))))
 intro j1 _ hp
 obtain rfl : j1 = y1 := hp.symm
 refine wqt (wcO t0 R (fun h2 t0 => ?_) fun h2 t0 => ?_)
 refine wcr (wlq (po_build R bd_119) R (wls (sbx (cs' := [iv 0, iv 0, iv 0]) tk_119 pz R R R R R R R) (wnt (wct (wqr ?_)))))
 obtain rfl := oi t0
 exact wqc R tk_119 R pz R fun w hw => ⟨R, hw.weak zn⟩
 refine wck (wqt (wcs (wcd [box b2 [iv 0, iv 0, iv 0], box b1 [iv a_c.Split, iv a_c.A, iv a_c.B]] 13 mixed (aq 0 R (pof fo_119_0 R) so2 R (aq (v := iv a_c.Split) 1 R (plx tk_3 pk1 R R) so2 R (aq 2 R (pom R) so2 R (aq 3 R (pof fo_119_1 R) so2 R (aq (v := iv a_c.A) 4 R (plx tk_3 pk1 R R) so2 R (gdO t0 fun g1 t0 => (aq 5 R (po_ixr (rga r0) el_23 R R g1.1 g1.2) so2 R (aq (v := iv (gx a_l ((a_c.A).toNat))) 6 R (po_ldf (rga r0) tk_3 R (ix_lt g1) R) so2 R (aq 7 R (pom R) so2 R (aq 8 R (pof fo_119_2 R) so2 R (aq (v := iv a_c.B) 9 R (plx tk_3 pk1 R R) so2 R (gdO t0 fun g2 t0 => (aq 10 R (po_ixr (rga r0) el_23 R R g2.1 g2.2) so2 R (aq (v := iv (gx a_l ((a_c.B).toNat))) 11 R (po_ldf (rga r0) tk_3 R (ix_lt g2) R) so2 R (a1 12 (bdO t0 fun v3 hv3 t0 => (wsc R (cz0 fa_95 R fun w hw => c_spec_SplitCell w a_c.Split (gx a_l ((a_c.A).toNat)) (gx a_l ((a_c.B).toNat)) hv3) (fun _ => (zt so2)) R fun _ => (a1 13 (ws_skipop R (sbx (cs' := [iv v3.Split, iv v3.A, iv v3.B]) tk_119 pz R R R R R R R) (sts_past (by kernel_rfl)) ?_))))))))))))))))))))))
 refine ae (wqt (wct ?_))
 obtain rfl := oi t0
 exact wqc R tk_119 R pz R fun w hw => ⟨R, hw.weak zn⟩

theorem c_spec_ExchangeBlock (w : World) (a_b : GBlock) (v0a : Hd) (r0 : rdF w (dm w []) (sl v0a) a_b.Cells) (a_l : List Int) (v1a : Hd) (r1 : rdF w (dm w []) (sl v1a) a_l) {r : GBlock × Bool} (t0 : spec_ExchangeBlock a_b a_l = some r) : Calls Tryz.prog 152 #[.agg #[.int .i64 a_b.Size, (sl v0a)], (sl v1a)] w fun e w' => ∃ x : Hd, e = .returned (.tuple #[.agg #[.int .i64 r.1.Size, (sl x)], .bool r.2]) ∧ SH w [] [ownF (sl x) r.1.Cells] w' := by
 refine cwc (args := [_, _]) Tryz.func152 R Tryz.ntmps152 R ?_
 unfold spec_ExchangeBlock at t0
 refine wcr (wle (eo_box R R) R fun b1 => (wle (eal (cs := [iv 0, (sl hn)]) za_75) R fun b2 => (asg R R (wnt (wcs (wcs (bdO t0 fun y1 t1 t0 => (wj (J := Bool) (X := Unit) (fun z => y1 = z) (fun z _ => [(1, (sl v1a)), (2, ptr b1 0), (4, ptr b2 0), (15, .bool z)]) (fun _ _ => [box b2 [iv 0, (sl hn)], box b1 [iv a_b.Size, (sl v0a)]]) ?_ ?_))))))))
 refine wcg (wlq (v := .agg #[iv a_b.Size, (sl v0a)]) (plb tk_75 pk1 R R R) R (bdO t1 fun v1 hv1 t1 => (wlc (cz0 fa_58 R fun w hw => c_spec_BlockOk w a_b v0a (ra r0 hw) hv1) R fun _ => (wlq (po_not R) R (mv R R (wlo (t := 11) t1 R (fun h1 t1 => ?_) fun h1 t1 => ?_))))))
 exact wgf (j := 3) R R R R R (wgf (j := 3) R R R R R (wgf (j := 3) R R R R R (wlq (pit R R) R (wln (wjm _ () (mtE t1) (su4 R R R R) so2)))))
 exact wgn (j := 3) R R R (mv R R (bdO t1 fun v2 hv2 t1 => (wgn (j := 3) R R R (wlc (cz0 fa_165 R fun w hw => c_spec_ListOk w a_l v1a (ra r1 hw) hv2) R (fun _ => (wgn (j := 3) R R R (wlq (po_not R) R (wlq (pif R R) R (wln (wjm _ () (mtE t1) (su4 R R R R) so2))))))))))
 intro j1 _ hp
 obtain rfl : j1 = y1 := hp.symm
 refine wqt (wcO t0 R (fun h2 t0 => ?_) fun h2 t0 => ?_)
 refine wcr (wlq (v := .agg #[iv a_b.Size, (sl v0a)]) (plb tk_75 pk1 R R R) R (bdO t0 fun v3 hv3 t0 => (wlc (cz1 fa_60 R fun w hw => c_spec_l03Copy w a_b v0a (ra r0 hw) hv3) R fun x2 => (wls (sbx (cs' := [iv v3.Size, (sl x2)]) tk_75 pk1 R R R R R R R) (asg R R (wnt (wct (wqr ?_))))))))
 obtain rfl := oi t0
 exact wq_retc1 R tk_75 R R pz R fun w hw => ⟨x2, R, hw.weak (zc pk1 zn)⟩
 refine wck (wqt (wcr (wlq (pof fo_75_0 R) R (wlq (v := iv a_b.Size) (plx tk_3 pk1 R R) R (wlq (po_build R (bd_75_0 a_b.Size)) R (wle (eal (cs := [iv 0, (sl hn)]) za_75) R fun b3 => (wls (sbx (cs' := [iv a_b.Size, (sl hn)]) tk_75 pz R R R R R R R) (wnt (wcs (wcr (asg R R (wnt (gdO t0 fun g1 t0 => (lpO_inv t0 fun y1 l1 t0 => (wj (J := List GCell) (X := Hd) (fun z => y1 = z) (fun _ _ => [(4, ptr b2 0), (6, ptr b3 0)]) (fun z x => [box b3 [iv a_b.Size, (sl x)], box b2 [iv 0, (sl hn)], ownF (sl x) z]) ?_ ?_)))))))))))))))
 refine wcb (wcf (X := Hd) l1 (fun k1 s1 x1l => [(1, (sl v1a)), (2, ptr b1 0), (4, ptr b2 0), (6, ptr b3 0), (7, iv ((k1 : Nat) : Int))]) (fun k1 s1 x1l => [box b3 [iv a_b.Size, (sl x1l)], box b2 [iv 0, (sl hn)], box b1 [iv a_b.Size, (sl v0a)], ownF (sl x1l) s1]) hn (su5 R R R R R) (zc pz (zc pz (zc pz (zc pick_nil zn)))) fun k1 s1 x1l hN1 l1 => ?_)
 by_cases hk1 : k1 < a_b.Cells.length
 refine fos l1 hk1 fun _ t1 l1 => ?_
 unfold spec_ExchangeBlock_L1 at t1
 have c1 : (decide (((k1 : Nat) : Int) < ((a_b.Cells.length : Nat) : Int))) = true := ddt (by omega)
 refine wcs (wcr (mv R R (wlq (pof fo_75_1 R) R (wlq (v := (sl v0a)) (plx tk_73 pk2 R R) R (wlq (pln (rga r0) el_73 R) R (wlq (pls R R) R (wnt (wft R c1 (wck (wqt (wcs (wcb (wcd [box b3 [iv a_b.Size, (sl x1l)], box b2 [iv 0, (sl hn)], box b1 [iv a_b.Size, (sl v0a)]] 12 mixed (aq 0 R (pof fo_75_1 R) so3 R (aq (v := (sl x1l)) 1 R (plx tk_73 pz R R) so3 R (aq 2 R (pof fo_75_1 R) so3 R (aq (v := (sl v0a)) 3 R (plx tk_73 pk2 R R) so3 R (aq 4 R (pom R) so3 R (aq 5 R (po_ixn (k := k1) (rga r0) el_73 R R hk1) so3 R (aq (v := .agg #[iv ((gx a_b.Cells k1).Split), iv ((gx a_b.Cells k1).A), iv ((gx a_b.Cells k1).B)]) 6 R (po_ldfs (rga r0) tk_119 R hk1 R R R) so3 R (aq 7 R (pom R) so3 R (a1 8 (bdO t1 fun v4 hv4 t1 => (wsc R (cz0 fa_166 R fun w hw => c_spec_ExchangeCell w (gx a_b.Cells k1) a_l v1a (ra r1 hw) hv4) (fun _ => (zt so3)) R fun _ => (a1 9 (wse R (ebs R (sb_73_1 v4.Split v4.A v4.B)) (fun _ => (zt (zc pk1 (zc pk1 (zc pk1 zn))))) R fun b4 => (a1 10 (gdO t1 fun g2 t1 => (wse R (eo_append (xs := s1) (ys := ([v4] : List GCell)) ak_73 pk4 R R (slin_rd fun _ g => Rg.on (rgo (pbo pz (n := 1) (xs := ([v4] : List GCell)) R R (by unfold maxLen; omega))) g) g2) (fun _ => (zt (zc pk2 (zc pk2 (zc pk2 zn))))) R fun x4 => ?_)))))))))))))))))))))))))))))
 refine aq 11 R (pof fo_75_1 R) (zc pk2 (zc pk2 (zc pk2 zn))) R (a1 12 (ws_skipop R (sbx (cs' := [iv a_b.Size, (sl x4)]) tk_73 pk2 R R R R R R R) (sts_past (by kernel_rfl)) ?_))
 refine ae (wqb (wqt (wcg (mv R R (wlq (po_inc R R (by omega)) R ?_)))))
 exact asg R R (wln (wq_rnd hk1 (stpN l1 t1) x4 (su5 R R R R R) (zc pz (zc pk2 (zc pk2 so1)))))
 have c1 : (decide (((k1 : Nat) : Int) < ((a_b.Cells.length : Nat) : Int))) = false := ddf (by omega)
 have en1 := foe l1 hk1
 exact wcs (wcr (mv R R (wlq (pof fo_75_1 R) R (wlq (v := (sl v0a)) (plx tk_73 pk2 R R) R (wlq (pln (rga r0) el_73 R) R (wlq (pls R R) R (wnt (wff R c1 (wcx (wqe (wqe (wbx (wjm _ x1l (Sum.inl.inj en1) (su2 R R) (zc pz (zc pz (zc pk1 zn))))))))))))))))
 intro e1 x3 hp
 obtain rfl : e1 = y1 := hp.symm
 refine wqt (wcr (wlq (v := .agg #[iv a_b.Size, (sl x3)]) (plb tk_75 pz R R R) R (wls (sbx (cs' := [iv a_b.Size, (sl x3)]) tk_75 pk1 R R R R R R R) (asg R R (wnt (wct ?_))))))
 obtain rfl := oi t0
 exact wq_retc1 R tk_75 R R pz R fun w hw => ⟨x3, R, hw.weak (zc pk2 zn)⟩

theorem c_spec_l07Plain (w : World) (a_b : GBlock) (v0a : Hd) (r0 : rdF w (dm w []) (sl v0a) a_b.Cells) {r : GBlock} (t0 : spec_l07Plain a_b = some r) : Calls Tryz.prog 140 #[.agg #[.int .i64 a_b.Size, (sl v0a)]] w fun e w' => ∃ x : Hd, e = .returned (.agg #[.int .i64 r.Size, (sl x)]) ∧ SH w [] [ownF (sl x) r.Cells] w' := by
 refine cwc (args := [_]) Tryz.func140 R Tryz.ntmps140 R ?_
 unfold spec_l07Plain at t0
 refine wcr (wle (eo_box R R) R fun b1 => (wle (eal (cs := [iv 0, (sl hn)]) za_75) R fun b2 => (wnt (wcs (bdO t0 fun v1 hv1 t0 => (bdO t0 fun v2 hv2 t0 => (wcj (X := Nat × Hd) (fun _ => True) (fun z => [(2, ptr b2 0), (3, ptr z.1 0)]) (fun z => [box z.1 [iv v2.1.Size, (sl z.2)], ownF (sl z.2) v2.1.Cells, box b2 [iv 0, (sl hn)]]) ?_ ?_)))))))
 refine wcd [box b2 [iv 0, (sl hn)], box b1 [iv a_b.Size, (sl v0a)]] 10 mixed (aq (v := .agg #[iv a_b.Size, (sl v0a)]) 0 R (plb tk_75 pk1 R R R) so2 R (aq (v := .agg #[iv a_b.Size, (sl v0a)]) 1 R (plb tk_75 pk1 R R R) so2 R (wa_2 (i := 2) (j := 7) (by kernel_rfl) ?_ ?_)))
 refine wsc R (cz1 fa_153 R fun w hw => c_spec_FirstUse w a_b v0a (ra r0 hw) hv1) (fun _ => (zt (zc pk1 (zc pk1 zn)))) R fun x1 => wa_2 (i := 3) (j := 7) (by kernel_rfl) ?_ ?_
 exact wsc R (cz1 fa_152 R fun w hw => c_spec_ExchangeBlock w a_b v0a (ra r0 hw) v1 x1 (Rg.on (rgo pz) hw) hv2) (fun _ => (zt (zc pk2 (zc pk2 zn)))) R fun x2 => aq 4 R (pom R) (zc pk2 (zc pk2 zn)) R (aq 5 R (pex R R) (zc pk2 (zc pk2 zn)) R (aq 6 R (pex R R) (zc pk2 (zc pk2 zn)) R (a1 7 (wse R (eal (cs := [iv 0, (sl hn)]) za_75) (fun _ => (zt (zc pk3 (zc pk3 zn)))) R fun b3 => (a1 8 (ws_skipop R (sbx (cs' := [iv v2.1.Size, (sl x2)]) tk_75 pz R R R R R R R) (zt (zc pk3 (zc pk3 zn))) (aq 9 R (po_assign R) (zc pk3 (zc pk3 zn)) R (ae (wqm (b3, x2) trivial (su2 R R) (zc pz (zc pz (zc pk1 zn))))))))))))
 exact wse R (eal (cs := [iv 0, (sl hn)]) za_75) (fun _ => (zt (zc pk2 (zc pk2 zn)))) R fun b4 => a1 3 (wsc R (cz1 fa_152 R fun w hw => c_spec_ExchangeBlock w a_b v0a (ra r0 hw) v1 x1 (Rg.on (rgo pk1) hw) hv2) (fun _ => (zt (zc pk3 (zc pk3 zn)))) R fun x3 => (aq 4 R (pom R) (zc pk3 (zc pk3 zn)) R (aq 5 R (pex R R) (zc pk3 (zc pk3 zn)) R (aq 6 R (pex R R) (zc pk3 (zc pk3 zn)) R (a1 8 (ws_skipop R (sbx (cs' := [iv v2.1.Size, (sl x3)]) tk_75 pk1 R R R R R R R) (zt (zc pk3 (zc pk3 zn))) (aq 9 R (po_assign R) (zc pk3 (zc pk3 zn)) R (ae (wqm (b4, x3) trivial (su2 R R) (zc pz (zc pz (zc pk1 zn))))))))))))
 exact wse R (eal (cs := [iv 0, (sl hn)]) za_75) (fun _ => (zt (zc pk1 (zc pk1 zn)))) R fun b5 => a1 2 (wsc R (cz1 fa_153 R fun w hw => c_spec_FirstUse w a_b v0a (ra r0 hw) hv1) (fun _ => (zt (zc pk2 (zc pk2 zn)))) R fun x4 => (a1 3 (wsc R (cz1 fa_152 R fun w hw => c_spec_ExchangeBlock w a_b v0a (ra r0 hw) v1 x4 (Rg.on (rgo pz) hw) hv2) (fun _ => (zt (zc pk3 (zc pk3 zn)))) R fun x5 => (aq 4 R (pom R) (zc pk3 (zc pk3 zn)) R (aq 5 R (pex R R) (zc pk3 (zc pk3 zn)) R (aq 6 R (pex R R) (zc pk3 (zc pk3 zn)) R (a1 8 (ws_skipop R (sbx (cs' := [iv v2.1.Size, (sl x5)]) tk_75 pk2 R R R R R R R) (zt (zc pk3 (zc pk3 zn))) (aq 9 R (po_assign R) (zc pk3 (zc pk3 zn)) R (ae (wqm (b5, x5) trivial (su2 R R) (zc pz (zc pz (zc pk1 zn))))))))))))))
 intro x6 _
 refine wqt (wcr (wlq (v := .agg #[iv v2.1.Size, (sl x6.2)]) (plb tk_75 pz R R R) R (wls (sbx (cs' := [iv v2.1.Size, (sl x6.2)]) tk_75 pk2 R R R R R R R) (wnt (wct ?_)))))
 obtain rfl := oi t0
 exact wqc R tk_75 R pz R fun w hw => ⟨x6.2, R, hw.weak (zc pk2 zn)⟩

theorem c_spec_MirrorCell (w : World) (a_c : GCell) {r : GCell} (t0 : spec_MirrorCell a_c = some r) : Calls Tryz.prog 155 #[.agg #[.int .i64 a_c.Split, .int .i64 a_c.A, .int .i64 a_c.B]] w fun e w' => e = .returned (.agg #[.int .i64 r.Split, .int .i64 r.A, .int .i64 r.B]) ∧ SH w [] [] w' := by
 refine cwc (args := [_]) Tryz.func155 R Tryz.ntmps155 R ?_
 unfold spec_MirrorCell at t0
 refine wcr (wle (eo_box R R) R fun b1 => (wle (eal (cs := [iv 0, iv 0, iv 0]) za_119) R fun b2 => (wnt (wcs (wcr (wlq (v := .agg #[iv a_c.Split, iv a_c.A, iv a_c.B]) (plb tk_119 pk1 R R R) R (bdO t0 fun v1 hv1 t0 => (wlc (cz0 fa_88 R fun w hw => c_spec_CellOk w a_c hv1) R fun _ => (wlq (po_not R) R (wnt (wcO t0 R (fun h1 t0 => ?_) fun h1 t0 => ?_)))))))))))
 refine wcr (wlq (po_build R bd_119) R (wls (sbx (cs' := [iv 0, iv 0, iv 0]) tk_119 pz R R R R R R R) (wnt (wct (wqr ?_)))))
 obtain rfl := oi t0
 exact wqc R tk_119 R pz R fun w hw => ⟨R, hw.weak zn⟩
 refine wck (wqt (wcs (wcr (wlq (pof fo_119_0 R) R (wlq (v := iv a_c.Split) (plx tk_3 pk1 R R) R (wlq (pol R R) R (wnt (wcO t0 R (fun h2 t0 => ?_) fun h2 t0 => ?_))))))))
 refine wcr (wlq (v := .agg #[iv a_c.Split, iv a_c.A, iv a_c.B]) (plb tk_119 pk1 R R R) R (wls (sbx (cs' := [iv a_c.Split, iv a_c.A, iv a_c.B]) tk_119 pz R R R R R R R) (wnt (wct (wqr ?_)))))
 obtain rfl := oi t0
 exact wqc R tk_119 R pz R fun w hw => ⟨R, hw.weak zn⟩
 refine wck (wqt (wcr (wlq (pof fo_119_0 R) R (wlq (v := iv a_c.Split) (plx tk_3 pk1 R R) R (wlq (po_sub R R) R (wlq (pof fo_119_2 R) R (wlq (v := iv a_c.B) (plx tk_3 pk1 R R) R (wlq (pof fo_119_1 R) R (wlq (v := iv a_c.A) (plx tk_3 pk1 R R) R (wlq (po_build R (bd_119_0_1_2 (wr (3 - a_c.Split)) a_c.B a_c.A)) R (wls (sbx (cs' := [iv (wr (3 - a_c.Split)), iv a_c.B, iv a_c.A]) tk_119 pz R R R R R R R) (wnt (wct ?_)))))))))))))
 obtain rfl := oi t0
 exact wqc R tk_119 R pz R fun w hw => ⟨R, hw.weak zn⟩

theorem c_spec_MirrorBlock (w : World) (a_b : GBlock) (v0a : Hd) (r0 : rdF w (dm w []) (sl v0a) a_b.Cells) {r : GBlock} (t0 : spec_MirrorBlock a_b = some r) : Calls Tryz.prog 143 #[.agg #[.int .i64 a_b.Size, (sl v0a)]] w fun e w' => ∃ x : Hd, e = .returned (.agg #[.int .i64 r.Size, (sl x)]) ∧ SH w [] [ownF (sl x) r.Cells] w' := by
 refine cwc (args := [_]) Tryz.func143 R Tryz.ntmps143 R ?_
 unfold spec_MirrorBlock at t0
 refine wcr (wle (eo_box R R) R fun b1 => (wle (eal (cs := [iv 0, (sl hn)]) za_75) R fun b2 => (wnt (wcs (wcr (wlq (v := .agg #[iv a_b.Size, (sl v0a)]) (plb tk_75 pk1 R R R) R (bdO t0 fun v1 hv1 t0 => (wlc (cz0 fa_58 R fun w hw => c_spec_BlockOk w a_b v0a (ra r0 hw) hv1) R fun _ => (wlq (po_not R) R (wnt (wcO t0 R (fun h1 t0 => ?_) fun h1 t0 => ?_)))))))))))
 refine wcr (wlq (po_build R bd_75) R (wls (sbx (cs' := [iv 0, (sl hn)]) tk_75 pz R R R R R R R) (wnt (wct (wqr ?_)))))
 obtain rfl := oi t0
 exact wqc R tk_75 R pz R fun w hw => ⟨hn, R, hw.weak (zc pick_nil zn)⟩
 refine wck (wqt (wcr (wlq (pof fo_75_0 R) R (wlq (v := iv a_b.Size) (plx tk_3 pk1 R R) R (wlq (po_build R (bd_75_0 a_b.Size)) R (wle (eal (cs := [iv 0, (sl hn)]) za_75) R fun b3 => (wls (sbx (cs' := [iv a_b.Size, (sl hn)]) tk_75 pz R R R R R R R) (wnt (wcs (wcr (asg R R (wnt (gdO t0 fun g1 t0 => (lpO_inv t0 fun y1 l1 t0 => (wj (J := List GCell) (X := Hd) (fun z => y1 = z) (fun _ _ => [(2, ptr b2 0), (3, ptr b3 0)]) (fun z x => [box b3 [iv a_b.Size, (sl x)], box b2 [iv 0, (sl hn)], ownF (sl x) z]) ?_ ?_)))))))))))))))
 refine wcb (wcf (X := Hd) l1 (fun k1 s1 x1l => [(1, ptr b1 0), (2, ptr b2 0), (3, ptr b3 0), (4, iv ((k1 : Nat) : Int))]) (fun k1 s1 x1l => [box b3 [iv a_b.Size, (sl x1l)], box b2 [iv 0, (sl hn)], box b1 [iv a_b.Size, (sl v0a)], ownF (sl x1l) s1]) hn (su4 R R R R) (zc pz (zc pz (zc pz (zc pick_nil zn)))) fun k1 s1 x1l hN1 l1 => ?_)
 by_cases hk1 : k1 < (a_b.Size).toNat
 refine fos l1 hk1 fun _ t1 l1 => ?_
 unfold spec_MirrorBlock_L1 at t1
 have c1 : (decide (((k1 : Nat) : Int) < a_b.Size)) = true := ddt (by omega)
 refine wcs (wcr (mv R R (wlq (pof fo_75_0 R) R (wlq (v := iv a_b.Size) (plx tk_3 pk2 R R) R (wlq (pls R R) R (wnt (wft R c1 (wck (wqt (wcs (wcb (wcr (asg R R (wnt (lpO_inv t1 fun y2 l2 t1 => (wj (J := List GCell) (X := Hd) (fun z => y2 = z) (fun _ _ => [(1, ptr b1 0), (2, ptr b2 0), (3, ptr b3 0), (4, iv ((k1 : Nat) : Int))]) (fun z x => [box b3 [iv a_b.Size, (sl x)], box b2 [iv 0, (sl hn)], box b1 [iv a_b.Size, (sl v0a)], ownF (sl x) z]) ?_ ?_))))))))))))))))
 refine wcb (wcf (X := Hd) l2 (fun k2 s2 x2l => [(1, ptr b1 0), (2, ptr b2 0), (3, ptr b3 0), (4, iv ((k1 : Nat) : Int)), (5, iv ((k2 : Nat) : Int))]) (fun k2 s2 x2l => [box b3 [iv a_b.Size, (sl x2l)], box b2 [iv 0, (sl hn)], box b1 [iv a_b.Size, (sl v0a)], ownF (sl x2l) s2]) x1l (su5 R R R R R) so4 fun k2 s2 x2l hN2 l2 => ?_)
 by_cases hk2 : k2 < (a_b.Size).toNat
 refine fos l2 hk2 fun _ t2 l2 => ?_
 unfold spec_MirrorBlock_L2 at t2
 have c2 : (decide (((k2 : Nat) : Int) < a_b.Size)) = true := ddt (by omega)
 refine wcs (wcr (mv R R (wlq (pof fo_75_0 R) R (wlq (v := iv a_b.Size) (plx tk_3 pk2 R R) R (wlq (pls R R) R (wnt (wft R c2 (wck (wqt (wcs (wcb (wcd [box b3 [iv a_b.Size, (sl x2l)], box b2 [iv 0, (sl hn)], box b1 [iv a_b.Size, (sl v0a)]] 20 mixed (aq 0 R (pof fo_75_1 R) so3 R (aq (v := (sl x2l)) 1 R (plx tk_73 pz R R) so3 R (aq 2 R (pof fo_75_1 R) so3 R (aq (v := (sl v0a)) 3 R (plx tk_73 pk2 R R) so3 R (aq 4 R (pom R) so3 R (aq 5 R (pof fo_75_0 R) so3 R (aq (v := iv a_b.Size) 6 R (plx tk_3 pk2 R R) so3 R (aq 7 R (po_mul R R) so3 R (aq 8 R (pof fo_75_0 R) so3 R (aq (v := iv a_b.Size) 9 R (plx tk_3 pk2 R R) so3 R (aq 10 R (po_add R R) so3 R (aq 11 R (po_sub R R) so3 R (aq 12 R (pom R) so3 R (aq 13 R (po_sub R R) so3 R (gdO t2 fun g2 t2 => (aq 14 R (po_ixr (rga r0) el_73 R R g2.1 g2.2) so3 R (aq (v := .agg #[iv ((gx a_b.Cells (((wr ((wr ((wr ((wr (((k1 : Nat) : Int) * a_b.Size)) + a_b.Size)) - 1)) - ((k2 : Nat) : Int)))).toNat)).Split), iv ((gx a_b.Cells (((wr ((wr ((wr ((wr (((k1 : Nat) : Int) * a_b.Size)) + a_b.Size)) - 1)) - ((k2 : Nat) : Int)))).toNat)).A), iv ((gx a_b.Cells (((wr ((wr ((wr ((wr (((k1 : Nat) : Int) * a_b.Size)) + a_b.Size)) - 1)) - ((k2 : Nat) : Int)))).toNat)).B)]) 15 R (po_ldfs (rga r0) tk_119 R (ix_lt g2) R R R) so3 R (a1 16 (bdO t2 fun v2 hv2 t2 => (wsc R (cz0 fa_155 R fun w hw => c_spec_MirrorCell w (gx a_b.Cells (((wr ((wr ((wr ((wr (((k1 : Nat) : Int) * a_b.Size)) + a_b.Size)) - 1)) - ((k2 : Nat) : Int)))).toNat)) hv2) (fun _ => (zt so3)) R fun _ => (a1 17 (wse R (ebs R (sb_73_1 v2.Split v2.A v2.B)) (fun _ => (zt (zc pk1 (zc pk1 (zc pk1 zn))))) R fun b4 => (a1 18 (gdO t2 fun g3 t2 => (wse R (eo_append (xs := s2) (ys := ([v2] : List GCell)) ak_73 pk4 R R (slin_rd fun _ g => Rg.on (rgo (pbo pz (n := 1) (xs := ([v2] : List GCell)) R R (by unfold maxLen; omega))) g) g3) (fun _ => (zt (zc pk2 (zc pk2 (zc pk2 zn))))) R fun x3 => ?_)))))))))))))))))))))))))))))))))))))
 refine aq 19 R (pof fo_75_1 R) (zc pk2 (zc pk2 (zc pk2 zn))) R (a1 20 (ws_skipop R (sbx (cs' := [iv a_b.Size, (sl x3)]) tk_73 pk2 R R R R R R R) (sts_past (by kernel_rfl)) ?_))
 refine ae (wqb (wqt (wcg (mv R R (wlq (po_inc R R (by omega)) R ?_)))))
 exact asg R R (wln (wq_rnd hk2 (stpN l2 t2) x3 (su5 R R R R R) (zc pz (zc pk2 (zc pk2 so1)))))
 have c2 : (decide (((k2 : Nat) : Int) < a_b.Size)) = false := ddf (by omega)
 have en1 := foe l2 hk2
 exact wcs (wcr (mv R R (wlq (pof fo_75_0 R) R (wlq (v := iv a_b.Size) (plx tk_3 pk2 R R) R (wlq (pls R R) R (wnt (wff R c2 (wcx (wqe (wqe (wbx (wjm _ x2l (Sum.inl.inj en1) (su4 R R R R) so4))))))))))))
 intro e2 x2 hp
 obtain rfl : e2 = y2 := hp.symm
 refine wqb (wqt (wcg (mv R R (wlq (po_inc R R (by omega)) R ?_))))
 exact asg R R (wln (wq_rnd hk1 (stpN l1 t1) x2 (su4 R R R R) so4))
 have c1 : (decide (((k1 : Nat) : Int) < a_b.Size)) = false := ddf (by omega)
 have en2 := foe l1 hk1
 exact wcs (wcr (mv R R (wlq (pof fo_75_0 R) R (wlq (v := iv a_b.Size) (plx tk_3 pk2 R R) R (wlq (pls R R) R (wnt (wff R c1 (wcx (wqe (wqe (wbx (wjm _ x1l (Sum.inl.inj en2) (su2 R R) (zc pz (zc pz (zc pk1 zn)))))))))))))))
 intro e1 x1 hp
 obtain rfl : e1 = y1 := hp.symm
 refine wqt (wcr (wlq (v := .agg #[iv a_b.Size, (sl x1)]) (plb tk_75 pz R R R) R (wls (sbx (cs' := [iv a_b.Size, (sl x1)]) tk_75 pk1 R R R R R R R) (wnt (wct ?_)))))
 obtain rfl := oi t0
 exact wqc R tk_75 R pz R fun w hw => ⟨x1, R, hw.weak (zc pk2 zn)⟩

theorem c_spec_TurnCell (w : World) (a_c : GCell) {r : GCell} (t0 : spec_TurnCell a_c = some r) : Calls Tryz.prog 156 #[.agg #[.int .i64 a_c.Split, .int .i64 a_c.A, .int .i64 a_c.B]] w fun e w' => e = .returned (.agg #[.int .i64 r.Split, .int .i64 r.A, .int .i64 r.B]) ∧ SH w [] [] w' := by
 refine cwc (args := [_]) Tryz.func156 R Tryz.ntmps156 R ?_
 unfold spec_TurnCell at t0
 refine wcr (wle (eo_box R R) R fun b1 => (wle (eal (cs := [iv 0, iv 0, iv 0]) za_119) R fun b2 => (wnt (wcs (wcr (wlq (v := .agg #[iv a_c.Split, iv a_c.A, iv a_c.B]) (plb tk_119 pk1 R R R) R (bdO t0 fun v1 hv1 t0 => (wlc (cz0 fa_88 R fun w hw => c_spec_CellOk w a_c hv1) R fun _ => (wlq (po_not R) R (wnt (wcO t0 R (fun h1 t0 => ?_) fun h1 t0 => ?_)))))))))))
 refine wcr (wlq (po_build R bd_119) R (wls (sbx (cs' := [iv 0, iv 0, iv 0]) tk_119 pz R R R R R R R) (wnt (wct (wqr ?_)))))
 obtain rfl := oi t0
 exact wqc R tk_119 R pz R fun w hw => ⟨R, hw.weak zn⟩
 refine wck (wqt (wcs (wcr (wlq (pof fo_119_0 R) R (wlq (v := iv a_c.Split) (plx tk_3 pk1 R R) R (wnt (wcb (wcr (wlq (pol R R) R (asg R R (wnt (wcO t0 R (fun h2 t0 => ?_) fun h2 t0 => ?_))))))))))))
 refine wcr (wlq (pof fo_119_2 R) R (wlq (v := iv a_c.B) (plx tk_3 pk1 R R) R (wlq (pof fo_119_1 R) R (wlq (v := iv a_c.A) (plx tk_3 pk1 R R) R (wlq (po_build R (bd_119_0_1_2 2 a_c.B a_c.A)) R (wls (sbx (cs' := [iv 2, iv a_c.B, iv a_c.A]) tk_119 pz R R R R R R R) (wnt (wct (wbr (wqr ?_))))))))))
 obtain rfl := oi t0
 exact wqc R tk_119 R pz R fun w hw => ⟨R, hw.weak zn⟩
 refine wcr (wlq (pol R R) R (asg R R (wnt (wcO t0 R (fun h3 t0 => ?_) fun h3 t0 => ?_))))
 refine wcr (wlq (pof fo_119_1 R) R (wlq (v := iv a_c.A) (plx tk_3 pk1 R R) R (wlq (pof fo_119_2 R) R (wlq (v := iv a_c.B) (plx tk_3 pk1 R R) R (wlq (po_build R (bd_119_0_1_2 1 a_c.A a_c.B)) R (wls (sbx (cs' := [iv 1, iv a_c.A, iv a_c.B]) tk_119 pz R R R R R R R) (wnt (wct (wbr (wqr ?_))))))))))
 obtain rfl := oi t0
 exact wqc R tk_119 R pz R fun w hw => ⟨R, hw.weak zn⟩
 refine wck (wqb (wqt (wcr (wlq (v := .agg #[iv a_c.Split, iv a_c.A, iv a_c.B]) (plb tk_119 pk1 R R R) R (wls (sbx (cs' := [iv a_c.Split, iv a_c.A, iv a_c.B]) tk_119 pz R R R R R R R) (wnt (wct ?_)))))))
 obtain rfl := oi t0
 exact wqc R tk_119 R pz R fun w hw => ⟨R, hw.weak zn⟩

theorem c_spec_TurnBlock (w : World) (a_b : GBlock) (v0a : Hd) (r0 : rdF w (dm w []) (sl v0a) a_b.Cells) {r : GBlock} (t0 : spec_TurnBlock a_b = some r) : Calls Tryz.prog 144 #[.agg #[.int .i64 a_b.Size, (sl v0a)]] w fun e w' => ∃ x : Hd, e = .returned (.agg #[.int .i64 r.Size, (sl x)]) ∧ SH w [] [ownF (sl x) r.Cells] w' := by
 refine cwc (args := [_]) Tryz.func144 R Tryz.ntmps144 R ?_
 unfold spec_TurnBlock at t0
 refine wcr (wle (eo_box R R) R fun b1 => (wle (eal (cs := [iv 0, (sl hn)]) za_75) R fun b2 => (wnt (wcs (wcr (wlq (v := .agg #[iv a_b.Size, (sl v0a)]) (plb tk_75 pk1 R R R) R (bdO t0 fun v1 hv1 t0 => (wlc (cz0 fa_58 R fun w hw => c_spec_BlockOk w a_b v0a (ra r0 hw) hv1) R fun _ => (wlq (po_not R) R (wnt (wcO t0 R (fun h1 t0 => ?_) fun h1 t0 => ?_)))))))))))
 refine wcr (wlq (po_build R bd_75) R (wls (sbx (cs' := [iv 0, (sl hn)]) tk_75 pz R R R R R R R) (wnt (wct (wqr ?_)))))
 obtain rfl := oi t0
 exact wqc R tk_75 R pz R fun w hw => ⟨hn, R, hw.weak (zc pick_nil zn)⟩
 refine wck (wqt (wcr (wlq (pof fo_75_0 R) R (wlq (v := iv a_b.Size) (plx tk_3 pk1 R R) R (wlq (po_build R (bd_75_0 a_b.Size)) R (wle (eal (cs := [iv 0, (sl hn)]) za_75) R fun b3 => (wls (sbx (cs' := [iv a_b.Size, (sl hn)]) tk_75 pz R R R R R R R) (wnt (wcs (wcr (asg R R (wnt (gdO t0 fun g1 t0 => (lpO_inv t0 fun y1 l1 t0 => (wj (J := List GCell) (X := Hd) (fun z => y1 = z) (fun _ _ => [(2, ptr b2 0), (3, ptr b3 0)]) (fun z x => [box b3 [iv a_b.Size, (sl x)], box b2 [iv 0, (sl hn)], ownF (sl x) z]) ?_ ?_)))))))))))))))
 refine wcb (wcf (X := Hd) l1 (fun k1 s1 x1l => [(1, ptr b1 0), (2, ptr b2 0), (3, ptr b3 0), (4, iv ((k1 : Nat) : Int))]) (fun k1 s1 x1l => [box b3 [iv a_b.Size, (sl x1l)], box b2 [iv 0, (sl hn)], box b1 [iv a_b.Size, (sl v0a)], ownF (sl x1l) s1]) hn (su4 R R R R) (zc pz (zc pz (zc pz (zc pick_nil zn)))) fun k1 s1 x1l hN1 l1 => ?_)
 by_cases hk1 : k1 < (a_b.Size).toNat
 refine fos l1 hk1 fun _ t1 l1 => ?_
 unfold spec_TurnBlock_L1 at t1
 have c1 : (decide (((k1 : Nat) : Int) < a_b.Size)) = true := ddt (by omega)
 refine wcs (wcr (mv R R (wlq (pof fo_75_0 R) R (wlq (v := iv a_b.Size) (plx tk_3 pk2 R R) R (wlq (pls R R) R (wnt (wft R c1 (wck (wqt (wcs (wcb (wcr (asg R R (wnt (lpO_inv t1 fun y2 l2 t1 => (wj (J := List GCell) (X := Hd) (fun z => y2 = z) (fun _ _ => [(1, ptr b1 0), (2, ptr b2 0), (3, ptr b3 0), (4, iv ((k1 : Nat) : Int))]) (fun z x => [box b3 [iv a_b.Size, (sl x)], box b2 [iv 0, (sl hn)], box b1 [iv a_b.Size, (sl v0a)], ownF (sl x) z]) ?_ ?_))))))))))))))))
 refine wcb (wcf (X := Hd) l2 (fun k2 s2 x2l => [(1, ptr b1 0), (2, ptr b2 0), (3, ptr b3 0), (4, iv ((k1 : Nat) : Int)), (5, iv ((k2 : Nat) : Int))]) (fun k2 s2 x2l => [box b3 [iv a_b.Size, (sl x2l)], box b2 [iv 0, (sl hn)], box b1 [iv a_b.Size, (sl v0a)], ownF (sl x2l) s2]) x1l (su5 R R R R R) so4 fun k2 s2 x2l hN2 l2 => ?_)
 by_cases hk2 : k2 < (a_b.Size).toNat
 refine fos l2 hk2 fun _ t2 l2 => ?_
 unfold spec_TurnBlock_L2 at t2
 have c2 : (decide (((k2 : Nat) : Int) < a_b.Size)) = true := ddt (by omega)
 refine wcs (wcr (mv R R (wlq (pof fo_75_0 R) R (wlq (v := iv a_b.Size) (plx tk_3 pk2 R R) R (wlq (pls R R) R (wnt (wft R c2 (wck (wqt (wcs (wcb (wcd [box b3 [iv a_b.Size, (sl x2l)], box b2 [iv 0, (sl hn)], box b1 [iv a_b.Size, (sl v0a)]] 20 mixed (aq 0 R (pof fo_75_1 R) so3 R (aq (v := (sl x2l)) 1 R (plx tk_73 pz R R) so3 R (aq 2 R (pof fo_75_1 R) so3 R (aq (v := (sl v0a)) 3 R (plx tk_73 pk2 R R) so3 R (aq 4 R (pof fo_75_0 R) so3 R (aq (v := iv a_b.Size) 5 R (plx tk_3 pk2 R R) so3 R (aq 6 R (po_sub R R) so3 R (aq 7 R (pom R) so3 R (aq 8 R (po_sub R R) so3 R (aq 9 R (pof fo_75_0 R) so3 R (aq (v := iv a_b.Size) 10 R (plx tk_3 pk2 R R) so3 R (aq 11 R (po_mul R R) so3 R (aq 12 R (pom R) so3 R (aq 13 R (po_add R R) so3 R (gdO t2 fun g2 t2 => (aq 14 R (po_ixr (rga r0) el_73 R R g2.1 g2.2) so3 R (aq (v := .agg #[iv ((gx a_b.Cells (((wr ((wr ((wr ((wr (a_b.Size - 1)) - ((k2 : Nat) : Int))) * a_b.Size)) + ((k1 : Nat) : Int)))).toNat)).Split), iv ((gx a_b.Cells (((wr ((wr ((wr ((wr (a_b.Size - 1)) - ((k2 : Nat) : Int))) * a_b.Size)) + ((k1 : Nat) : Int)))).toNat)).A), iv ((gx a_b.Cells (((wr ((wr ((wr ((wr (a_b.Size - 1)) - ((k2 : Nat) : Int))) * a_b.Size)) + ((k1 : Nat) : Int)))).toNat)).B)]) 15 R (po_ldfs (rga r0) tk_119 R (ix_lt g2) R R R) so3 R (a1 16 (bdO t2 fun v2 hv2 t2 => (wsc R (cz0 fa_156 R fun w hw => c_spec_TurnCell w (gx a_b.Cells (((wr ((wr ((wr ((wr (a_b.Size - 1)) - ((k2 : Nat) : Int))) * a_b.Size)) + ((k1 : Nat) : Int)))).toNat)) hv2) (fun _ => (zt so3)) R fun _ => (a1 17 (wse R (ebs R (sb_73_1 v2.Split v2.A v2.B)) (fun _ => (zt (zc pk1 (zc pk1 (zc pk1 zn))))) R fun b4 => (a1 18 (gdO t2 fun g3 t2 => (wse R (eo_append (xs := s2) (ys := ([v2] : List GCell)) ak_73 pk4 R R (slin_rd fun _ g => Rg.on (rgo (pbo pz (n := 1) (xs := ([v2] : List GCell)) R R (by unfold maxLen; omega))) g) g3) (fun _ => (zt (zc pk2 (zc pk2 (zc pk2 zn))))) R fun x3 => ?_)))))))))))))))))))))))))))))))))))))
 refine aq 19 R (pof fo_75_1 R) (zc pk2 (zc pk2 (zc pk2 zn))) R (a1 20 (ws_skipop R (sbx (cs' := [iv a_b.Size, (sl x3)]) tk_73 pk2 R R R R R R R) (sts_past (by kernel_rfl)) ?_))
 refine ae (wqb (wqt (wcg (mv R R (wlq (po_inc R R (by omega)) R ?_)))))
 exact asg R R (wln (wq_rnd hk2 (stpN l2 t2) x3 (su5 R R R R R) (zc pz (zc pk2 (zc pk2 so1)))))
 have c2 : (decide (((k2 : Nat) : Int) < a_b.Size)) = false := ddf (by omega)
 have en1 := foe l2 hk2
 exact wcs (wcr (mv R R (wlq (pof fo_75_0 R) R (wlq (v := iv a_b.Size) (plx tk_3 pk2 R R) R (wlq (pls R R) R (wnt (wff R c2 (wcx (wqe (wqe (wbx (wjm _ x2l (Sum.inl.inj en1) (su4 R R R R) so4))))))))))))
 intro e2 x2 hp
 obtain rfl : e2 = y2 := hp.symm
 refine wqb (wqt (wcg (mv R R (wlq (po_inc R R (by omega)) R ?_))))
 exact asg R R (wln (wq_rnd hk1 (stpN l1 t1) x2 (su4 R R R R) so4))
 have c1 : (decide (((k1 : Nat) : Int) < a_b.Size)) = false := ddf (by omega)
 have en2 := foe l1 hk1
 exact wcs (wcr (mv R R (wlq (pof fo_75_0 R) R (wlq (v := iv a_b.Size) (plx tk_3 pk2 R R) R (wlq (pls R R) R (wnt (wff R c1 (wcx (wqe (wqe (wbx (wjm _ x1l (Sum.inl.inj en2) (su2 R R) (zc pz (zc pz (zc pk1 zn)))))))))))))))
 intro e1 x1 hp
 obtain rfl : e1 = y1 := hp.symm
 refine wqt (wcr (wlq (v := .agg #[iv a_b.Size, (sl x1)]) (plb tk_75 pz R R R) R (wls (sbx (cs' := [iv a_b.Size, (sl x1)]) tk_75 pk1 R R R R R R R) (wnt (wct ?_)))))
 obtain rfl := oi t0
 exact wqc R tk_75 R pz R fun w hw => ⟨x1, R, hw.weak (zc pk2 zn)⟩

theorem c_spec_SeenFrom (w : World) (a_b : GBlock) (v0a : Hd) (r0 : rdF w (dm w []) (sl v0a) a_b.Cells) (a_k : Int) {r : GBlock} (t0 : spec_SeenFrom a_b a_k = some r) : Calls Tryz.prog 132 #[.agg #[.int .i64 a_b.Size, (sl v0a)], .int .i64 a_k] w fun e w' => ∃ x : Hd, e = .returned (.agg #[.int .i64 r.Size, (sl x)]) ∧ SH w [] [ownF (sl x) r.Cells] w' := by
 refine cwc (args := [_, _]) Tryz.func132 R Tryz.ntmps132 R ?_
 unfold spec_SeenFrom at t0
 refine wcr (wle (eo_box R R) R fun b1 => (wle (eal (cs := [iv 0, (sl hn)]) za_75) R fun b2 => (wnt (wcs (wcs (bdO t0 fun y1 t1 t0 => (wj (J := Bool) (X := Unit) (fun z => y1 = z) (fun z _ => [(1, iv a_k), (2, ptr b1 0), (4, ptr b2 0), (14, .bool z)]) (fun _ _ => [box b2 [iv 0, (sl hn)], box b1 [iv a_b.Size, (sl v0a)]]) ?_ ?_)))))))
 refine wcg (wlq (v := .agg #[iv a_b.Size, (sl v0a)]) (plb tk_75 pk1 R R R) R (bdO t1 fun v1 hv1 t1 => (wlc (cz0 fa_58 R fun w hw => c_spec_BlockOk w a_b v0a (ra r0 hw) hv1) R fun _ => (wlq (po_not R) R (mv R R (wlo (t := 10) t1 R (fun h1 t1 => ?_) fun h1 t1 => ?_))))))
 exact wgf (j := 3) R R R R R (wgf (j := 3) R R R R R (wgf (j := 3) R R R R R (wlq (pit R R) R (wln (wjm _ () (mtE t1) (su4 R R R R) so2)))))
 exact wgn (j := 3) R R R (mv R R (bdO t1 fun v2 hv2 t1 => (wgn (j := 3) R R R (wlc (cz0 fa_36 R fun w hw => c_spec_l01In w a_k 0 7 hv2) R (fun _ => (wgn (j := 3) R R R (wlq (po_not R) R (wlq (pif R R) R (wln (wjm _ () (mtE t1) (su4 R R R R) so2))))))))))
 intro j1 _ hp
 obtain rfl : j1 = y1 := hp.symm
 refine wqt (wcO t0 R (fun h2 t0 => ?_) fun h2 t0 => ?_)
 refine wcr (wlq (po_build R bd_75) R (wls (sbx (cs' := [iv 0, (sl hn)]) tk_75 pz R R R R R R R) (wnt (wct (wqr ?_)))))
 obtain rfl := oi t0
 exact wqc R tk_75 R pz R fun w hw => ⟨hn, R, hw.weak (zc pick_nil zn)⟩
 refine wck (wqt (wcr (wlq (v := .agg #[iv a_b.Size, (sl v0a)]) (plb tk_75 pk1 R R R) R (bdO t0 fun v3 hv3 t0 => (wlc (cz1 fa_60 R fun w hw => c_spec_l03Copy w a_b v0a (ra r0 hw) hv3) R fun x2 => (wle (eal (cs := [iv 0, (sl hn)]) za_75) R fun b3 => (wls (sbx (cs' := [iv v3.Size, (sl x2)]) tk_75 pz R R R R R R R) (wnt (wcs (wcr (mv R R (wlq (po_geq R R) R (wnt (bdO t0 fun y1 t1 t0 => (wj (J := GBlock) (X := Hd) (fun z => y1 = z) (fun _ _ => [(1, iv a_k), (4, ptr b2 0), (5, ptr b3 0)]) (fun z x => [box b3 [iv ((z).Size), (sl x)], box b2 [iv 0, (sl hn)], ownF (sl x) ((z).Cells)]) ?_ ?_)))))))))))))))
 refine wcO t1 R (fun h3 t1 => ?_) fun h3 t1 => ?_
 exact wcg (wlq (v := .agg #[iv a_b.Size, (sl v0a)]) (plb tk_75 pk3 R R R) R (bdO t1 fun v4 hv4 t1 => (wlc (cz1 fa_143 R fun w hw => c_spec_MirrorBlock w a_b v0a (ra r0 hw) hv4) R fun x4 => (wls (sbx (cs' := [iv v4.Size, (sl x4)]) tk_75 pk1 R R R R R R R) (wln (wjm _ x4 (mtE t1) (su3 R R R) (zc pz (zc pk2 so1))))))))
 exact wck (wjm _ x2 (mtE t1) (su3 R R R) (zc pz (zc pk1 so1)))
 intro j2 x3 hp
 obtain rfl : j2 = y1 := hp.symm
 refine wqt (wcs (wcr (asg R R (wnt (gdO t0 fun g1 t0 => (lpO_inv t0 fun y1 l1 t0 => (wj (J := Int × (List GCell)) (X := Hd) (fun z => y1 = z) (fun _ _ => [(4, ptr b2 0), (5, ptr b3 0)]) (fun z x => [box b3 [iv z.1, (sl x)], box b2 [iv 0, (sl hn)], ownF (sl x) z.2]) ?_ ?_)))))))
 refine wcb (wcf (X := Hd) l1 (fun k1 s1 x1l => [(1, iv a_k), (4, ptr b2 0), (5, ptr b3 0), (6, iv ((k1 : Nat) : Int))]) (fun k1 s1 x1l => [box b3 [iv s1.1, (sl x1l)], box b2 [iv 0, (sl hn)], ownF (sl x1l) s1.2]) x3 (su4 R R R R) so3 fun k1 s1 x1l hN1 l1 => ?_)
 by_cases hk1 : k1 < ((a_k.tmod 4)).toNat
 refine fos l1 hk1 fun _ t1 l1 => ?_
 unfold spec_SeenFrom_L1 at t1
 have c1 : (decide (((k1 : Nat) : Int) < (a_k.tmod 4))) = true := ddt (by omega)
 refine wcs (wcr (mv R R (mv R R (wlq (po_rem R R (by decide)) R ?_))))
 refine wlq (pls R R) R (wnt (wft R c1 (wck (wqt (wcs (wcb (wcg (wlq (v := .agg #[iv s1.1, (sl x1l)]) (plb tk_75 pz R R R) R (bdO t1 fun v5 hv5 t1 => (wlc (cz1 fa_144 R fun w hw => c_spec_TurnBlock w (GBlock.mk s1.1 s1.2) x1l (Rg.on (rgo pk2) hw) hv5) R fun x6 => (wls (sbx (cs' := [iv v5.Size, (sl x6)]) tk_75 pk1 R R R R R R R) (wln (wqb (wqt (wcg (mv R R (wlq (po_inc R R (by omega)) R ?_)))))))))))))))))
 exact asg R R (wln (wq_rnd hk1 (stpN l1 t1) x6 (su4 R R R R) (zc pz (zc pk1 so1))))
 have c1 : (decide (((k1 : Nat) : Int) < (a_k.tmod 4))) = false := ddf (by omega)
 have en1 := foe l1 hk1
 refine wcs (wcr (mv R R (mv R R (wlq (po_rem R R (by decide)) R ?_))))
 exact wlq (pls R R) R (wnt (wff R c1 (wcx (wqe (wqe (wbx (wjm _ x1l (Sum.inl.inj en1) (su2 R R) so3)))))))
 intro e1 x5 hp
 obtain rfl : e1 = y1 := hp.symm
 refine wqt (wcr (wlq (v := .agg #[iv e1.1, (sl x5)]) (plb tk_75 pz R R R) R (wls (sbx (cs' := [iv e1.1, (sl x5)]) tk_75 pk1 R R R R R R R) (wnt (wct ?_)))))
 obtain rfl := oi t0
 exact wqc R tk_75 R pz R fun w hw => ⟨x5, R, hw.weak (zc pk2 zn)⟩

theorem c_spec_l01Figure (w : World) (a_x : Int) {r : UInt8} (t0 : spec_l01Figure a_x = some r) : Calls Tryz.prog 175 #[.int .i64 a_x] w fun e w' => e = .returned (.int .u8 (r.toNat : Int)) ∧ SH w [] [] w' := by
 refine cwc (args := [_]) Tryz.func175 R Tryz.ntmps175 R ?_
 unfold spec_l01Figure at t0
 refine wcr (asg R R (wnt (wcs (wcr (mv R R (wlq (pls R R) R (wnt (wcO t0 R (fun h1 t0 => ?_) fun h1 t0 => ?_))))))))
 refine wcr (mv R R (wlq (po_add R R) R (wlq (po_intu8 isInt_3 isU8_5 R) R (asg R R (wnt (wct (wqr ?_)))))))
 obtain rfl := oi t0
 exact wq1 R R fun w hw => ⟨R, hw.weak zn⟩
 refine wck (wqt (wcr (mv R R (wlq (po_add R R) R (wlq (po_sub R R) R (wlq (po_intu8 isInt_3 isU8_5 R) R (asg R R (wnt (wct ?_)))))))))
 obtain rfl := oi t0
 exact wq1 R R fun w hw => ⟨R, hw.weak zn⟩

theorem c_spec_FormatInt (w : World) (a_n : Int) {r : Str} (t0 : spec_FormatInt a_n = some r) : Calls Tryz.prog 167 #[.int .i64 a_n] w fun e w' => e = .returned (bs r) ∧ SH w [] [] w' := by
 refine cwc (args := [_]) Tryz.func167 R Tryz.ntmps167 R ?_
 unfold spec_FormatInt at t0
 refine wcr (asg R R (wnt (wcs (wcr (mv R R (wlq (pol R R) R (wnt (wcO t0 R (fun h1 t0 => ?_) fun h1 t0 => ?_))))))))
 refine wcr (asg R R (wnt (wct (wqr ?_))))
 obtain rfl := oi t0
 exact wq1 R R fun w hw => ⟨R, hw.weak zn⟩
 refine wck (wqt (wcr (mv R R (wlq (pls R R) R (asg R R (wnt (wcr (asg R R (wnt (wcs (wlO_inv t0 fun y1 l1 t0 => (wj (J := Int × Str) (X := Unit) (fun z => y1 = z) (fun z _ => [(3, .bool (decide (a_n < 0))), (4, bs z.2)]) (fun _ _ => []) ?_ ?_))))))))))))
 refine wcb (wc_whO (X := Unit) l1 (fun s1 x1l => [(0, iv s1.1), (3, .bool (decide (a_n < 0))), (4, bs s1.2)]) (fun s1 x1l => []) () (su3 R R R) zn fun m1 s1 x1l l1 => (whO_step l1 fun _ t1 l1 => ?_))
 unfold spec_FormatInt_L1 at t1
 refine wcs (wcr (mv R R (wlq (po_neq R R) R (wnt (wcO t1 R (fun h2 t1 => ?_) fun h2 t1 => ?_)))))
 refine wck (wqt (wcb (wcr (mv R R (wlq (po_rem R R (by decide)) R ?_)))))
 refine asg R R (wnt (wcs (wcr (mv R R (wlq (pls R R) R (wnt (wcj (X := Unit) (fun _ => True) (fun _ => [(0, iv s1.1), (3, .bool (decide (a_n < 0))), (4, bs s1.2), (5, iv (bif (decide ((s1.1.tmod 10) < 0)) then (wr (0 - (s1.1.tmod 10))) else (s1.1.tmod 10)))]) (fun _ => []) ?_ ?_)))))))
 refine wc_cond R (fun h3 => ?_) fun h3 => ?_
 exact wcg (mv R R (wlq (po_neg R) R (asg R R (wln (wqm () trivial (yc R (yc R (yc R (sub_i R (by simp only [h3, cond_true]) yn)))) zn)))))
 exact wck (wqm () trivial (yc R (yc R (yc R (sub_i R (by simp only [h3, cond_false]) yn)))) zn)
 intro _ _
 refine wqt (wcr (mv R R (bdO t1 fun v1 hv1 t1 => (wlc (cz0 fa_175 R fun w hw => c_spec_l01Figure w (bif (decide ((s1.1.tmod 10) < 0)) then (wr (0 - (s1.1.tmod 10))) else (s1.1.tmod 10)) hv1) R fun _ => (wle (ebs R (sb_163_1 v1)) R fun b1 => (wlq (po_b2s (rgo (pbo pz (n := 1) (xs := ([v1] : List UInt8)) R R (by unfold maxLen; omega))) isBytes_163 isStr_9 R) R ?_))))))
 refine mv R R (gdO t1 fun g1 t1 => (wlq (po_sadd R R g1) R (asg R R (wnt (wcg (mv R R (wlq (po_quo R R (by decide)) R ?_)))))))
 exact asg R R (wln (wqb (wq_rndw (stwN l1 t1) () (su3 R R R) zn)))
 exact wcx (wqe (wqe (wbx (wjm _ () (Sum.inl.inj (stwB l1 t1)) (su2 R R) zn))))
 intro e1 _ hp
 obtain rfl : e1 = y1 := hp.symm
 refine wqt (wcs (wcr (mv R R (wnt (wcO t0 R (fun h4 t0 => ?_) fun h4 t0 => ?_)))))
 refine wcr (mv R R (gdO t0 fun g2 t0 => (wlq (po_sadd R R g2) R (asg R R (wnt (wct (wqr ?_)))))))
 obtain rfl := oi t0
 exact wq1 R R fun w hw => ⟨R, hw.weak zn⟩
 refine wck (wqt (wcr (mv R R (asg R R (wnt (wct ?_))))))
 obtain rfl := oi t0
 exact wq1 R R fun w hw => ⟨R, hw.weak zn⟩

end Go.Proofs.YtmkmlnfkokfmaabGreatDoor
