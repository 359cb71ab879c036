/-
  What a reading of an argument of each type shows.
-/
import Derived.Test.YtnfdinafbfggeabLaw
import Derived.Test.YtnfdinafbfggeabFacts
namespace Go.Proofs.Ytnfdinafbfggeab
open Go Go.RowKit Go.Proofs
theorem laidOut : laidOutB Try.prog = true := by kernel_rfl

end Go.Proofs.Ytnfdinafbfggeab
