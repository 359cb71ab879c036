/-
  The structures of the program, and what their values mean in memory.
-/
import Derived.Test.YtjfjbgihojiijacGreatDoorSh
namespace Go.Proofs.YtjfjbgihojiijacGreatDoor
open Go Go.RowKit

structure GAct where
  Kind : Int
  A : Int
  B : Int

instance : Flat GAct := ⟨3, by decide, (GAct.mk 0 0 0), fun x => [.int .i64 x.Kind, .int .i64 x.A, .int .i64 x.B], fun _ => rfl, fun _ v h => by
  simp at h
  rcases h with rfl | rfl | rfl <;> rfl⟩
instance : Fit GAct := ⟨fun x => Fit.ok (x.Kind, x.A, x.B)⟩

structure GMember where
  Number : Int
  Since : Int
  Paid : Int

instance : Flat GMember := ⟨3, by decide, (GMember.mk 0 0 0), fun x => [.int .i64 x.Number, .int .i64 x.Since, .int .i64 x.Paid], fun _ => rfl, fun _ v h => by
  simp at h
  rcases h with rfl | rfl | rfl <;> rfl⟩
instance : Fit GMember := ⟨fun x => Fit.ok (x.Number, x.Since, x.Paid)⟩

structure GCell where
  Split : Int
  A : Int
  B : Int

instance : Flat GCell := ⟨3, by decide, (GCell.mk 0 0 0), fun x => [.int .i64 x.Split, .int .i64 x.A, .int .i64 x.B], fun _ => rfl, fun _ v h => by
  simp at h
  rcases h with rfl | rfl | rfl <;> rfl⟩
instance : Fit GCell := ⟨fun x => Fit.ok (x.Split, x.A, x.B)⟩

structure GBlock where
  Size : Int
  Cells : List GCell

instance : Rep GBlock := Rep.via (fun x => (x.Size, x.Cells)) (GBlock.mk 0 ([] : List GCell))
instance : Fit GBlock := ⟨fun x => Fit.ok (x.Size, x.Cells)⟩
theorem ZhY {w : World} {B : Nat → Prop} {us : List Value} {x : GBlock} : Rep.rd w B us x ↔ ∃ (h0 : Hd), us = [.int .i64 x.Size, sl h0] ∧ rdF w B (sl h0) x.Cells := by
  constructor
  · intro h
    obtain ⟨_, _, rfl, rfl, _, u0, rfl, r0⟩ := h
    obtain ⟨h0, rfl⟩ := r0.1.hd
    exact ⟨h0, rfl, r0.flat⟩
  · rintro ⟨h0, rfl, r0⟩
    exact ⟨_, _, rfl, rfl, ⟨_, _, rfl, r0⟩⟩
theorem ZiP {W : World → List Nat → Prop} {v : Value} {us : List Value} {xs : List GBlock} {k : Nat} {h0 : Hd} (hc : Za4 us k (Rep.sz GBlock) = [.int .i64 ((gx xs k).Size), sl h0]) (h : Rg W v us xs) (hk : k < xs.length) : Rg W (sl h0) (encs ((gx xs k).Cells)) ((gx xs k).Cells) := fun w fp hw => by
  obtain ⟨g0, e, r0⟩ := ZhY.1 (ZnH h hk w fp hw)
  rw [hc] at e
  have q : h0 = g0 := Zrb (by have q := congrArg (fun l : List Value => l[1]?) e; simpa using q)
  rw [q]; exact r0
theorem Zpg {L0 L1 : List Asn} {x : GBlock} {h0 : Hd} (p0 : Pick (ownF (sl h0) x.Cells) L0 L1) : Pick (owc [.int .i64 x.Size, sl h0] x) L0 L1 := fun w fp h => by
  obtain ⟨_, ⟨f0, r0, rfl, o0, h⟩, e0⟩ := p0 w fp h
  refine ⟨(([] ++ f0)) ++ r0, ⟨([] ++ f0), r0, rfl, ⟨_, _, [], f0, rfl, rfl, ⟨rfl, rfl⟩, ⟨_, _, rfl, o0⟩⟩, h⟩, ?_⟩
  simpa [List.append_assoc] using e0
theorem Zs8 {L : List Asn} {x : GBlock} {h0 : Hd} : Ent (ownF (sl h0) x.Cells :: L) (owc [.int .i64 x.Size, sl h0] x :: L) := Zrx (As := [ownF (sl h0) x.Cells]) fun w f h => by
  obtain ⟨_, _, fa0, fb0, e, rfl, ⟨rfl, rfl⟩, v0, _, rfl, o0⟩ := h
  obtain rfl := Option.some.inj (show some (sl h0) = some v0 from congrArg (fun l : List Value => l[1]?) e)
  exact ⟨(fb0 ++ []), ⟨fb0, [], rfl, o0.toF, rfl⟩, by simp⟩
structure GEntry where
  Owner : Int
  Day : Int
  Block : GBlock

instance : Rep GEntry := Rep.via (fun x => (x.Owner, x.Day, x.Block)) (GEntry.mk 0 0 (GBlock.mk 0 ([] : List GCell)))
instance : Fit GEntry := ⟨fun x => Fit.ok (x.Owner, x.Day, x.Block)⟩
theorem ZaX {w : World} {B : Nat → Prop} {us : List Value} {x : GEntry} : Rep.rd w B us x ↔ ∃ (h0 : Hd), us = [.int .i64 x.Owner, .int .i64 x.Day, .int .i64 x.Block.Size, sl h0] ∧ rdF w B (sl h0) x.Block.Cells := by
  constructor
  · intro h
    obtain ⟨_, _, rfl, rfl, _, _, rfl, rfl, s0⟩ := h
    obtain ⟨g1, rfl, q1⟩ := ZhY.1 s0
    exact ⟨g1, rfl, q1⟩
  · rintro ⟨h0, rfl, r0⟩
    exact ⟨_, _, rfl, rfl, _, _, rfl, rfl, (ZhY.2 ⟨_, rfl, r0⟩)⟩
theorem Zbg {W : World → List Nat → Prop} {v : Value} {us : List Value} {xs : List GEntry} {k : Nat} {h0 : Hd} (hc : Za4 us k (Rep.sz GEntry) = [.int .i64 ((gx xs k).Owner), .int .i64 ((gx xs k).Day), .int .i64 (((gx xs k).Block).Size), sl h0]) (h : Rg W v us xs) (hk : k < xs.length) : Rg W (sl h0) (encs (((gx xs k).Block).Cells)) (((gx xs k).Block).Cells) := fun w fp hw => by
  obtain ⟨g0, e, r0⟩ := ZaX.1 (ZnH h hk w fp hw)
  rw [hc] at e
  have q : h0 = g0 := Zrb (by have q := congrArg (fun l : List Value => l[3]?) e; simpa using q)
  rw [q]; exact r0
theorem Zjt {L0 L1 : List Asn} {x : GEntry} {h0 : Hd} (p0 : Pick (ownF (sl h0) x.Block.Cells) L0 L1) : Pick (owc [.int .i64 x.Owner, .int .i64 x.Day, .int .i64 x.Block.Size, sl h0] x) L0 L1 := fun w fp h => by
  obtain ⟨_, ⟨f0, r0, rfl, o0, h⟩, e0⟩ := p0 w fp h
  refine ⟨(([] ++ ([] ++ ([] ++ f0)))) ++ r0, ⟨([] ++ ([] ++ ([] ++ f0))), r0, rfl, ⟨_, _, [], ([] ++ ([] ++ f0)), rfl, rfl, ⟨rfl, rfl⟩, ⟨_, _, [], ([] ++ f0), rfl, rfl, ⟨rfl, rfl⟩, ⟨_, _, [], f0, rfl, rfl, ⟨rfl, rfl⟩, ⟨_, _, rfl, o0⟩⟩⟩⟩, h⟩, ?_⟩
  simpa [List.append_assoc] using e0
structure GBooking where
  Day : Int
  From : Int
  To : Int
  Sum : Int

instance : Flat GBooking := ⟨4, by decide, (GBooking.mk 0 0 0 0), fun x => [.int .i64 x.Day, .int .i64 x.From, .int .i64 x.To, .int .i64 x.Sum], fun _ => rfl, fun _ v h => by
  simp at h
  rcases h with rfl | rfl | rfl | rfl <;> rfl⟩
instance : Fit GBooking := ⟨fun x => Fit.ok (x.Day, x.From, x.To, x.Sum)⟩

structure GGuild where
  Members : List GMember
  Stock : List Int
  Entries : List GEntry
  Books : List GBooking
  Round : Int
  Year : Int

instance : Rep GGuild := Rep.via (fun x => (x.Members, x.Stock, x.Entries, x.Books, x.Round, x.Year)) (GGuild.mk ([] : List GMember) ([] : List Int) ([] : List GEntry) ([] : List GBooking) 0 0)
instance : Fit GGuild := ⟨fun x => Fit.ok (x.Members, x.Stock, x.Entries, x.Books, x.Round, x.Year)⟩
end Go.Proofs.YtjfjbgihojiijacGreatDoor
