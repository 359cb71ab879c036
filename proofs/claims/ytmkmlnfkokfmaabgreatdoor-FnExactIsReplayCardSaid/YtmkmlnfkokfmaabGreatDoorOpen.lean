/-
  What a reading of an argument of each type shows.
-/
import Derived.Test.YtmkmlnfkokfmaabGreatDoorLaw
import Derived.Test.YtmkmlnfkokfmaabGreatDoorFacts
namespace Go.Proofs.YtmkmlnfkokfmaabGreatDoor
open Go Go.RowKit Go.Proofs
theorem laidOut : laidOutB Tryz.prog = true := by kernel_rfl
theorem op_3 : Opens Tryz.prog 3 Int := opens_int Tryz.underlying3
theorem op_87 : Opens Tryz.prog 87 GMember := (opens_struct (α := Int × Int × Int) Tryz.underlying87 (by kernel_rfl)
  (opens_field rfl (by kernel_rfl) op_3 (opens_field rfl (by kernel_rfl) op_3 (opens_last rfl (by kernel_rfl) op_3)))).over (fun x => ⟨x.1, x.2.1, x.2.2⟩) (fun w B cs x h => by
    obtain ⟨_, _, rfl, rfl, _, _, rfl, rfl, rfl⟩ := h
    rfl) (fun _ h => h)
theorem op_22 : Opens Tryz.prog 22 (List GMember) := opens_list Tryz.underlying22 (by kernel_rfl) op_87
theorem op_23 : Opens Tryz.prog 23 (List Int) := opens_list Tryz.underlying23 (by kernel_rfl) op_3
theorem op_137 : Opens Tryz.prog 137 GCell := (opens_struct (α := Int × Int × Int) Tryz.underlying137 (by kernel_rfl)
  (opens_field rfl (by kernel_rfl) op_3 (opens_field rfl (by kernel_rfl) op_3 (opens_last rfl (by kernel_rfl) op_3)))).over (fun x => ⟨x.1, x.2.1, x.2.2⟩) (fun w B cs x h => by
    obtain ⟨_, _, rfl, rfl, _, _, rfl, rfl, rfl⟩ := h
    rfl) (fun _ h => h)
theorem op_64 : Opens Tryz.prog 64 (List GCell) := opens_list Tryz.underlying64 (by kernel_rfl) op_137
theorem op_66 : Opens Tryz.prog 66 GBlock := (opens_struct (α := Int × (List GCell)) Tryz.underlying66 (by kernel_rfl)
  (opens_field rfl (by kernel_rfl) op_3 (opens_last rfl (by kernel_rfl) op_64))).over (fun x => ⟨x.1, x.2⟩) (fun _ _ _ _ h => h) (fun _ h => h)
theorem op_68 : Opens Tryz.prog 68 GEntry := (opens_struct (α := Int × Int × GBlock) Tryz.underlying68 (by kernel_rfl)
  (opens_field rfl (by kernel_rfl) op_3 (opens_field rfl (by kernel_rfl) op_3 (opens_last rfl (by kernel_rfl) op_66)))).over (fun x => ⟨x.1, x.2.1, x.2.2⟩) (fun _ _ _ _ h => h) (fun _ h => h)
theorem op_24 : Opens Tryz.prog 24 (List GEntry) := opens_list Tryz.underlying24 (by kernel_rfl) op_68
theorem op_92 : Opens Tryz.prog 92 GBooking := (opens_struct (α := Int × Int × Int × Int) Tryz.underlying92 (by kernel_rfl)
  (opens_field rfl (by kernel_rfl) op_3 (opens_field rfl (by kernel_rfl) op_3 (opens_field rfl (by kernel_rfl) op_3 (opens_last rfl (by kernel_rfl) op_3))))).over (fun x => ⟨x.1, x.2.1, x.2.2.1, x.2.2.2⟩) (fun w B cs x h => by
    obtain ⟨_, _, rfl, rfl, _, _, rfl, rfl, _, _, rfl, rfl, rfl⟩ := h
    rfl) (fun _ h => h)
theorem op_25 : Opens Tryz.prog 25 (List GBooking) := opens_list Tryz.underlying25 (by kernel_rfl) op_92
theorem op_27 : Opens Tryz.prog 27 GGuild := (opens_struct (α := (List GMember) × (List Int) × (List GEntry) × (List GBooking) × Int × Int) Tryz.underlying27 (by kernel_rfl)
  (opens_field rfl (by kernel_rfl) op_22 (opens_field rfl (by kernel_rfl) op_23 (opens_field rfl (by kernel_rfl) op_24 (opens_field rfl (by kernel_rfl) op_25 (opens_field rfl (by kernel_rfl) op_3 (opens_last rfl (by kernel_rfl) op_3))))))).over (fun x => ⟨x.1, x.2.1, x.2.2.1, x.2.2.2.1, x.2.2.2.2.1, x.2.2.2.2.2⟩) (fun _ _ _ _ h => h) (fun _ h => h)
theorem op_58 : Opens Tryz.prog 58 GAct := (opens_struct (α := Int × Int × Int) Tryz.underlying58 (by kernel_rfl)
  (opens_field rfl (by kernel_rfl) op_3 (opens_field rfl (by kernel_rfl) op_3 (opens_last rfl (by kernel_rfl) op_3)))).over (fun x => ⟨x.1, x.2.1, x.2.2⟩) (fun w B cs x h => by
    obtain ⟨_, _, rfl, rfl, _, _, rfl, rfl, rfl⟩ := h
    rfl) (fun _ h => h)
theorem op_28 : Opens Tryz.prog 28 (List GAct) := opens_list Tryz.underlying28 (by kernel_rfl) op_58
end Go.Proofs.YtmkmlnfkokfmaabGreatDoor
