/-
  The structures of the program, and what their values mean in memory.
-/
import Derived.Test.YtidkcdeddlnbdaaDoorHole
namespace Go.Proofs.YtidkcdeddlnbdaaDoor
open Go Go.RowKit

structure GAct where
  Kind : Int
  A : Int
  B : Int

instance : Flat GAct := ⟨3, by decide, (GAct.mk 0 0 0), fun x => [.int .i64 x.Kind, .int .i64 x.A, .int .i64 x.B], fun _ => rfl, fun _ v h => by
  simp at h
  rcases h with rfl | rfl | rfl <;> rfl⟩
instance : Fit GAct := ⟨fun x => Fit.ok (x.Kind, x.A, x.B)⟩

end Go.Proofs.YtidkcdeddlnbdaaDoor
