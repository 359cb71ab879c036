/-
  What a reading of an argument of each type shows.
-/
import Derived.Test.YtkahnmhkfmjomadDoorLaw
import Derived.Test.YtkahnmhkfmjomadDoorFacts
namespace Go.Proofs.YtkahnmhkfmjomadDoor
open Go Go.RowKit Go.Proofs
theorem laidOut : laidOutB Tryd.prog = true := by kernel_rfl
theorem op_3 : Opens Tryd.prog 3 Int := opens_int Tryd.underlying3
theorem op_35 : Opens Tryd.prog 35 GAct := (opens_struct (α := Int × Int × Int) Tryd.underlying35 (by kernel_rfl)
  (opens_field rfl (by kernel_rfl) op_3 (opens_field rfl (by kernel_rfl) op_3 (opens_last rfl (by kernel_rfl) op_3)))).over (fun x => ⟨x.1, x.2.1, x.2.2⟩) (fun w B cs x h => by
    obtain ⟨_, _, rfl, rfl, _, _, rfl, rfl, rfl⟩ := h
    rfl) (fun _ h => h)
theorem op_22 : Opens Tryd.prog 22 (List GAct) := opens_list Tryd.underlying22 (by kernel_rfl) op_35
end Go.Proofs.YtkahnmhkfmjomadDoor
