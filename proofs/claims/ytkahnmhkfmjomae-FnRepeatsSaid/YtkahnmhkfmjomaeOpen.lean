/-
  What a reading of an argument of each type shows.
-/
import Derived.Test.YtkahnmhkfmjomaeLaw
import Derived.Test.YtkahnmhkfmjomaeFacts
namespace Go.Proofs.Ytkahnmhkfmjomae
open Go Go.RowKit Go.Proofs
theorem laidOut : laidOutB Try.prog = true := by kernel_rfl
theorem op_5 : Opens Try.prog 5 UInt8 := opens_u8 Try.underlying5
theorem op_22 : Opens Try.prog 22 (List UInt8) := opens_list Try.underlying22 (by kernel_rfl) op_5
end Go.Proofs.Ytkahnmhkfmjomae
