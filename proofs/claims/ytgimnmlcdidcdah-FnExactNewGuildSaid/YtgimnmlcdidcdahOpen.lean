/-
  What a reading of an argument of each type shows.
-/
import Derived.Test.YtgimnmlcdidcdahLaw
import Derived.Test.YtgimnmlcdidcdahFacts
namespace Go.Proofs.Ytgimnmlcdidcdah
open Go Go.RowKit Go.Proofs
theorem laidOut : laidOutB Try.prog = true := by kernel_rfl
theorem op_3 : Opens Try.prog 3 Int := opens_int Try.underlying3
end Go.Proofs.Ytgimnmlcdidcdah
