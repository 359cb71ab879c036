/-
  What a reading of an argument of each type shows.
-/
import Derived.Test.YtjfjbgihojiijabGreatDoorLaw
import Derived.Test.YtjfjbgihojiijabGreatDoorFacts
namespace Go.Proofs.YtjfjbgihojiijabGreatDoor
open Go Go.RowKit Go.Proofs
theorem ZvL : laidOutB Tryz.prog = true := by kernel_rfl
theorem op_5 : ZiO Tryz.prog 5 UInt8 := ZuV Tryz.underlying5
theorem ZxN : ZiO Tryz.prog 22 (List UInt8) := Zti Tryz.underlying22 (by kernel_rfl) op_5
end Go.Proofs.YtjfjbgihojiijabGreatDoor
