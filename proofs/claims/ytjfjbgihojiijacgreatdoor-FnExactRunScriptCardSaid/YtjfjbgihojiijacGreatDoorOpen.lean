/-
  What a reading of an argument of each type shows.
-/
import Derived.Test.YtjfjbgihojiijacGreatDoorLaw
import Derived.Test.YtjfjbgihojiijacGreatDoorFacts
namespace Go.Proofs.YtjfjbgihojiijacGreatDoor
open Go Go.RowKit Go.Proofs
theorem Zvq : laidOutB Tryz.prog = true := by kernel_rfl
end Go.Proofs.YtjfjbgihojiijacGreatDoor
