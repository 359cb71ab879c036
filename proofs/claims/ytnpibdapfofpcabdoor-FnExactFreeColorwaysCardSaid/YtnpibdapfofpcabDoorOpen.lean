/-
  What a reading of an argument of each type shows.
-/
import Derived.Test.YtnpibdapfofpcabDoorLaw
import Derived.Test.YtnpibdapfofpcabDoorFacts
namespace Go.Proofs.YtnpibdapfofpcabDoor
open Go Go.RowKit Go.Proofs
theorem laidOut : laidOutB Tryd.prog = true := by kernel_rfl
theorem op_3 : Opens Tryd.prog 3 Int := opens_int Tryd.underlying3
theorem op_56 : Opens Tryd.prog 56 GCell := (opens_struct (α := Int × Int × Int) Tryd.underlying56 (by kernel_rfl)
  (opens_field rfl (by kernel_rfl) op_3 (opens_field rfl (by kernel_rfl) op_3 (opens_last rfl (by kernel_rfl) op_3)))).over (fun x => ⟨x.1, x.2.1, x.2.2⟩) (fun w B cs x h => by
    obtain ⟨_, _, rfl, rfl, _, _, rfl, rfl, rfl⟩ := h
    rfl) (fun _ h => h)
theorem op_22 : Opens Tryd.prog 22 (List GCell) := opens_list Tryd.underlying22 (by kernel_rfl) op_56
theorem op_24 : Opens Tryd.prog 24 GBlock := (opens_struct (α := Int × (List GCell)) Tryd.underlying24 (by kernel_rfl)
  (opens_field rfl (by kernel_rfl) op_3 (opens_last rfl (by kernel_rfl) op_22))).over (fun x => ⟨x.1, x.2⟩) (fun _ _ _ _ h => h) (fun _ h => h)
end Go.Proofs.YtnpibdapfofpcabDoor
