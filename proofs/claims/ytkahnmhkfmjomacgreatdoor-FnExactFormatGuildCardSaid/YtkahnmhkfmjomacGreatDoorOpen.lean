/-
  What a reading of an argument of each type shows.
-/
import Derived.Test.YtkahnmhkfmjomacGreatDoorLaw
import Derived.Test.YtkahnmhkfmjomacGreatDoorFacts
namespace Go.Proofs.YtkahnmhkfmjomacGreatDoor
open Go Go.RowKit Go.Proofs
theorem laidOut : laidOutB Tryz.prog = true := by kernel_rfl
theorem op_3 : Opens Tryz.prog 3 Int := opens_int Tryz.underlying3
theorem op_89 : Opens Tryz.prog 89 GMember := (opens_struct (α := Int × Int × Int) Tryz.underlying89 (by kernel_rfl)
  (opens_field rfl (by kernel_rfl) op_3 (opens_field rfl (by kernel_rfl) op_3 (opens_last rfl (by kernel_rfl) op_3)))).over (fun x => ⟨x.1, x.2.1, x.2.2⟩) (fun w B cs x h => by
    obtain ⟨_, _, rfl, rfl, _, _, rfl, rfl, rfl⟩ := h
    rfl) (fun _ h => h)
theorem op_22 : Opens Tryz.prog 22 (List GMember) := opens_list Tryz.underlying22 (by kernel_rfl) op_89
theorem op_23 : Opens Tryz.prog 23 (List Int) := opens_list Tryz.underlying23 (by kernel_rfl) op_3
theorem op_123 : Opens Tryz.prog 123 GCell := (opens_struct (α := Int × Int × Int) Tryz.underlying123 (by kernel_rfl)
  (opens_field rfl (by kernel_rfl) op_3 (opens_field rfl (by kernel_rfl) op_3 (opens_last rfl (by kernel_rfl) op_3)))).over (fun x => ⟨x.1, x.2.1, x.2.2⟩) (fun w B cs x h => by
    obtain ⟨_, _, rfl, rfl, _, _, rfl, rfl, rfl⟩ := h
    rfl) (fun _ h => h)
theorem op_70 : Opens Tryz.prog 70 (List GCell) := opens_list Tryz.underlying70 (by kernel_rfl) op_123
theorem op_72 : Opens Tryz.prog 72 GBlock := (opens_struct (α := Int × (List GCell)) Tryz.underlying72 (by kernel_rfl)
  (opens_field rfl (by kernel_rfl) op_3 (opens_last rfl (by kernel_rfl) op_70))).over (fun x => ⟨x.1, x.2⟩) (fun _ _ _ _ h => h) (fun _ h => h)
theorem op_74 : Opens Tryz.prog 74 GEntry := (opens_struct (α := Int × Int × GBlock) Tryz.underlying74 (by kernel_rfl)
  (opens_field rfl (by kernel_rfl) op_3 (opens_field rfl (by kernel_rfl) op_3 (opens_last rfl (by kernel_rfl) op_72)))).over (fun x => ⟨x.1, x.2.1, x.2.2⟩) (fun _ _ _ _ h => h) (fun _ h => h)
theorem op_24 : Opens Tryz.prog 24 (List GEntry) := opens_list Tryz.underlying24 (by kernel_rfl) op_74
theorem op_94 : Opens Tryz.prog 94 GBooking := (opens_struct (α := Int × Int × Int × Int) Tryz.underlying94 (by kernel_rfl)
  (opens_field rfl (by kernel_rfl) op_3 (opens_field rfl (by kernel_rfl) op_3 (opens_field rfl (by kernel_rfl) op_3 (opens_last rfl (by kernel_rfl) op_3))))).over (fun x => ⟨x.1, x.2.1, x.2.2.1, x.2.2.2⟩) (fun w B cs x h => by
    obtain ⟨_, _, rfl, rfl, _, _, rfl, rfl, _, _, rfl, rfl, rfl⟩ := h
    rfl) (fun _ h => h)
theorem op_25 : Opens Tryz.prog 25 (List GBooking) := opens_list Tryz.underlying25 (by kernel_rfl) op_94
theorem op_27 : Opens Tryz.prog 27 GGuild := (opens_struct (α := (List GMember) × (List Int) × (List GEntry) × (List GBooking) × Int × Int) Tryz.underlying27 (by kernel_rfl)
  (opens_field rfl (by kernel_rfl) op_22 (opens_field rfl (by kernel_rfl) op_23 (opens_field rfl (by kernel_rfl) op_24 (opens_field rfl (by kernel_rfl) op_25 (opens_field rfl (by kernel_rfl) op_3 (opens_last rfl (by kernel_rfl) op_3))))))).over (fun x => ⟨x.1, x.2.1, x.2.2.1, x.2.2.2.1, x.2.2.2.2.1, x.2.2.2.2.2⟩) (fun _ _ _ _ h => h) (fun _ h => h)
end Go.Proofs.YtkahnmhkfmjomacGreatDoor
