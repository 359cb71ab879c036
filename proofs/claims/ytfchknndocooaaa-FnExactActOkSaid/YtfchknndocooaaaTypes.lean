/-
  The structures of the program, and what their values mean in memory.
-/
import Derived.Test.YtfchknndocooaaaRd
namespace Go.Proofs.Ytfchknndocooaaa
open Go Go.RowKit

structure GAct where
  Kind : Int
  A : Int
  B : Int

instance : Flat GAct := ⟨3, by decide, (GAct.mk 0 0 0), fun x => [.int .i64 x.Kind, .int .i64 x.A, .int .i64 x.B], fun _ => rfl, fun _ v h => by
  simp at h
  rcases h with rfl | rfl | rfl <;> rfl⟩
instance : Fit GAct := ⟨fun x => Fit.ok (x.Kind, x.A, x.B)⟩

structure GCell where
  Split : Int
  A : Int
  B : Int

instance : Flat GCell := ⟨3, by decide, (GCell.mk 0 0 0), fun x => [.int .i64 x.Split, .int .i64 x.A, .int .i64 x.B], fun _ => rfl, fun _ v h => by
  simp at h
  rcases h with rfl | rfl | rfl <;> rfl⟩
instance : Fit GCell := ⟨fun x => Fit.ok (x.Split, x.A, x.B)⟩

structure GBlock where
  Size : Int
  Cells : List GCell

instance : Rep GBlock := Rep.via (fun x => (x.Size, x.Cells)) (GBlock.mk 0 ([] : List GCell))
instance : Fit GBlock := ⟨fun x => Fit.ok (x.Size, x.Cells)⟩
theorem rd_GBlock {w : World} {B : Nat} {us : List Value} {x : GBlock} : Rep.rd w B us x ↔ ∃ (h0 : Hd), us = [.int .i64 x.Size, sl h0] ∧ rdF w B (sl h0) x.Cells := by
  constructor
  · intro h
    obtain ⟨_, _, rfl, rfl, _, u0, rfl, r0⟩ := h
    obtain ⟨h0, rfl⟩ := r0.1.hd
    exact ⟨h0, rfl, r0.flat⟩
  · rintro ⟨h0, rfl, r0⟩
    exact ⟨_, _, rfl, rfl, ⟨_, _, rfl, r0⟩⟩

end Go.Proofs.Ytfchknndocooaaa
