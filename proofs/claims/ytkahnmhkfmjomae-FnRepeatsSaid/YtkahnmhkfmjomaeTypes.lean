/-
  The structures of the program, and what their values mean in memory.
-/
import Derived.Test.YtkahnmhkfmjomaeMap
namespace Go.Proofs.Ytkahnmhkfmjomae
open Go Go.RowKit

structure GSpot where
  Block : Int
  Seen : Int

instance : Flat GSpot := ⟨2, by decide, (GSpot.mk 0 0), fun x => [.int .i64 x.Block, .int .i64 x.Seen], fun _ => rfl, fun _ v h => by
  simp at h
  rcases h with rfl | rfl <;> rfl⟩
instance : Fit GSpot := ⟨fun x => Fit.ok (x.Block, x.Seen)⟩

structure GQuilt where
  Width : Int
  Height : Int
  Spots : List GSpot

instance : Rep GQuilt := Rep.via (fun x => (x.Width, x.Height, x.Spots)) (GQuilt.mk 0 0 ([] : List GSpot))
instance : Fit GQuilt := ⟨fun x => Fit.ok (x.Width, x.Height, x.Spots)⟩
structure GCell where
  Split : Int
  A : Int
  B : Int

instance : Flat GCell := ⟨3, by decide, (GCell.mk 0 0 0), fun x => [.int .i64 x.Split, .int .i64 x.A, .int .i64 x.B], fun _ => rfl, fun _ v h => by
  simp at h
  rcases h with rfl | rfl | rfl <;> rfl⟩
instance : Fit GCell := ⟨fun x => Fit.ok (x.Split, x.A, x.B)⟩

structure GBlock where
  Size : Int
  Cells : List GCell

instance : Rep GBlock := Rep.via (fun x => (x.Size, x.Cells)) (GBlock.mk 0 ([] : List GCell))
instance : Fit GBlock := ⟨fun x => Fit.ok (x.Size, x.Cells)⟩
theorem rd_GBlock {w : World} {B : Nat → Prop} {us : List Value} {x : GBlock} : Rep.rd w B us x ↔ ∃ (h0 : Hd), us = [.int .i64 x.Size, sl h0] ∧ rdF w B (sl h0) x.Cells := by
  constructor
  · intro h
    obtain ⟨_, _, rfl, rfl, _, u0, rfl, r0⟩ := h
    obtain ⟨h0, rfl⟩ := r0.1.hd
    exact ⟨h0, rfl, r0.flat⟩
  · rintro ⟨h0, rfl, r0⟩
    exact ⟨_, _, rfl, rfl, ⟨_, _, rfl, r0⟩⟩
theorem er_GBlock_0 {W : World → List Nat → Prop} {v : Value} {us : List Value} {xs : List GBlock} {k : Nat} {h0 : Hd} (hc : chunk us k (Rep.sz GBlock) = [.int .i64 ((gx xs k).Size), sl h0]) (h : Rg W v us xs) (hk : k < xs.length) : Rg W (sl h0) (encs ((gx xs k).Cells)) ((gx xs k).Cells) := fun w fp hw => by
  obtain ⟨g0, e, r0⟩ := rd_GBlock.1 (rds_elem h hk w fp hw)
  rw [hc] at e
  have q : h0 = g0 := sl_inj (by have q := congrArg (fun l : List Value => l[1]?) e; simpa using q)
  rw [q]; exact r0
theorem pow_GBlock {L0 L1 : List Asn} {x : GBlock} {h0 : Hd} (p0 : Pick (ownF (sl h0) x.Cells) L0 L1) : Pick (owc [.int .i64 x.Size, sl h0] x) L0 L1 := fun w fp h => by
  obtain ⟨_, ⟨f0, r0, rfl, o0, h⟩, e0⟩ := p0 w fp h
  refine ⟨(([] ++ f0)) ++ r0, ⟨([] ++ f0), r0, rfl, ⟨_, _, [], f0, rfl, rfl, ⟨rfl, rfl⟩, ⟨_, _, rfl, o0⟩⟩, h⟩, ?_⟩
  simpa [List.append_assoc] using e0
structure Gl01Cur where
  b : List UInt8
  i : Int
  h : Int

instance : Rep Gl01Cur := Rep.via (fun x => (x.b, x.i, x.h)) (Gl01Cur.mk ([] : List UInt8) 0 0)
instance : Fit Gl01Cur := ⟨fun x => Fit.ok (x.b, x.i, x.h)⟩
end Go.Proofs.Ytkahnmhkfmjomae
