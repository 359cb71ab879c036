/-
  What a reading of an argument of each type shows.
-/
import Derived.Test.YtjfjbgihojiijaaGreatDoorLaw
import Derived.Test.YtjfjbgihojiijaaGreatDoorFacts
namespace Go.Proofs.YtjfjbgihojiijaaGreatDoor
open Go Go.RowKit Go.Proofs
theorem laidOut : laidOutB Tryz.prog = true := by kernel_rfl
theorem op_5 : Opens Tryz.prog 5 UInt8 := opens_u8 Tryz.underlying5
theorem op_22 : Opens Tryz.prog 22 (List UInt8) := opens_list Tryz.underlying22 (by kernel_rfl) op_5
end Go.Proofs.YtjfjbgihojiijaaGreatDoor
