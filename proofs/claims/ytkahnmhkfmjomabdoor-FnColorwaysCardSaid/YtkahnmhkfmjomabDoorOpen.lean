/-
  What a reading of an argument of each type shows.
-/
import Derived.Test.YtkahnmhkfmjomabDoorLaw
import Derived.Test.YtkahnmhkfmjomabDoorFacts
namespace Go.Proofs.YtkahnmhkfmjomabDoor
open Go Go.RowKit Go.Proofs
theorem laidOut : laidOutB Tryd.prog = true := by kernel_rfl
theorem op_5 : Opens Tryd.prog 5 UInt8 := opens_u8 Tryd.underlying5
theorem op_22 : Opens Tryd.prog 22 (List UInt8) := opens_list Tryd.underlying22 (by kernel_rfl) op_5
end Go.Proofs.YtkahnmhkfmjomabDoor
