/-
  What a reading of an argument of each type shows.
-/
import Derived.Test.YtlfhlajpdmcnaabGreatDoorLaw
import Derived.Test.YtlfhlajpdmcnaabGreatDoorFacts
namespace Go.Proofs.YtlfhlajpdmcnaabGreatDoor
open Go Go.RowKit Go.Proofs
theorem laidOut : laidOutB Tryz.prog = true := by kernel_rfl
theorem op_3 : Opens Tryz.prog 3 Int := opens_int Tryz.underlying3
theorem op_80 : Opens Tryz.prog 80 GCell := (opens_struct (α := Int × Int × Int) Tryz.underlying80 (by kernel_rfl)
  (opens_field rfl (by kernel_rfl) op_3 (opens_field rfl (by kernel_rfl) op_3 (opens_last rfl (by kernel_rfl) op_3)))).over (fun x => ⟨x.1, x.2.1, x.2.2⟩) (fun w B cs x h => by
    obtain ⟨_, _, rfl, rfl, _, _, rfl, rfl, rfl⟩ := h
    rfl) (fun _ h => h)
theorem op_22 : Opens Tryz.prog 22 (List GCell) := opens_list Tryz.underlying22 (by kernel_rfl) op_80
theorem op_24 : Opens Tryz.prog 24 GBlock := (opens_struct (α := Int × (List GCell)) Tryz.underlying24 (by kernel_rfl)
  (opens_field rfl (by kernel_rfl) op_3 (opens_last rfl (by kernel_rfl) op_22))).over (fun x => ⟨x.1, x.2⟩) (fun _ _ _ _ h => h) (fun _ h => h)
theorem op_26 : Opens Tryz.prog 26 GEntry := (opens_struct (α := Int × Int × GBlock) Tryz.underlying26 (by kernel_rfl)
  (opens_field rfl (by kernel_rfl) op_3 (opens_field rfl (by kernel_rfl) op_3 (opens_last rfl (by kernel_rfl) op_24)))).over (fun x => ⟨x.1, x.2.1, x.2.2⟩) (fun _ _ _ _ h => h) (fun _ h => h)
theorem op_37 : Opens Tryz.prog 37 (List GEntry) := opens_list Tryz.underlying37 (by kernel_rfl) op_26
end Go.Proofs.YtlfhlajpdmcnaabGreatDoor
