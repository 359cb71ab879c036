/-
  What a reading of an argument of each type shows.
-/
import Derived.Test.YtfnfngicgikhgaaDoorLaw
import Derived.Test.YtfnfngicgikhgaaDoorFacts
namespace Go.Proofs.YtfnfngicgikhgaaDoor
open Go Go.RowKit Go.Proofs
theorem laidOut : laidOutB Tryd.prog = true := by kernel_rfl
theorem op_3 : Opens Tryd.prog 3 Int := opens_int Tryd.underlying3
theorem op_23 : Opens Tryd.prog 23 GAct := (opens_struct (α := Int × Int × Int) Tryd.underlying23 (by kernel_rfl)
  (opens_field rfl (by kernel_rfl) op_3 (opens_field rfl (by kernel_rfl) op_3 (opens_last rfl (by kernel_rfl) op_3)))).over (fun x => ⟨x.1, x.2.1, x.2.2⟩) (fun w B cs x h => by
    obtain ⟨_, _, rfl, rfl, _, _, rfl, rfl, rfl⟩ := h
    rfl) (fun _ h => h)
end Go.Proofs.YtfnfngicgikhgaaDoor
