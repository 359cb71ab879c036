/-
  What a reading of an argument of each type shows.
-/
import Derived.Test.YtfchknndocooaaaLaw
import Derived.Test.YtfchknndocooaaaFacts
namespace Go.Proofs.Ytfchknndocooaaa
open Go Go.RowKit Go.Proofs
theorem laidOut : laidOutB Try.prog = true := by kernel_rfl
theorem op_3 : Opens Try.prog 3 Int := opens_int Try.underlying3
theorem op_23 : Opens Try.prog 23 GAct := (opens_struct (α := Int × Int × Int) Try.underlying23 (by kernel_rfl)
  (opens_field rfl (by kernel_rfl) op_3 (opens_field rfl (by kernel_rfl) op_3 (opens_last rfl (by kernel_rfl) op_3)))).over (fun x => ⟨x.1, x.2.1, x.2.2⟩) (fun w B cs x h => by
    obtain ⟨_, _, rfl, rfl, _, _, rfl, rfl, rfl⟩ := h
    rfl) (fun _ h => h)
end Go.Proofs.Ytfchknndocooaaa
