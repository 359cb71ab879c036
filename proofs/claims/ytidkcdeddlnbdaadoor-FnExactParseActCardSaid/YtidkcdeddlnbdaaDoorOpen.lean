/-
  What a reading of an argument of each type shows.
-/
import Derived.Test.YtidkcdeddlnbdaaDoorLaw
import Derived.Test.YtidkcdeddlnbdaaDoorFacts
namespace Go.Proofs.YtidkcdeddlnbdaaDoor
open Go Go.RowKit Go.Proofs
theorem laidOut : laidOutB Tryd.prog = true := by kernel_rfl
theorem op_9 : Opens Tryd.prog 9 Str := opens_str Tryd.underlying9
end Go.Proofs.YtidkcdeddlnbdaaDoor
