/-
  What a reading of an argument of each type shows.
-/
import Derived.Test.YtgimnmlcdidcdafLaw
import Derived.Test.YtgimnmlcdidcdafFacts
namespace Go.Proofs.Ytgimnmlcdidcdaf
open Go Go.RowKit Go.Proofs
theorem laidOut : laidOutB Try.prog = true := by kernel_rfl
theorem op_3 : Opens Try.prog 3 Int := opens_int Try.underlying3
theorem op_75 : Opens Try.prog 75 GMember := (opens_struct (α := Int × Int × Int) Try.underlying75 (by kernel_rfl)
  (opens_field rfl (by kernel_rfl) op_3 (opens_field rfl (by kernel_rfl) op_3 (opens_last rfl (by kernel_rfl) op_3)))).over (fun x => ⟨x.1, x.2.1, x.2.2⟩) (fun w B cs x h => by
    obtain ⟨_, _, rfl, rfl, _, _, rfl, rfl, rfl⟩ := h
    rfl) (fun _ h => h)
theorem op_22 : Opens Try.prog 22 (List GMember) := opens_list Try.underlying22 (by kernel_rfl) op_75
theorem op_23 : Opens Try.prog 23 (List Int) := opens_list Try.underlying23 (by kernel_rfl) op_3
theorem op_94 : Opens Try.prog 94 GCell := (opens_struct (α := Int × Int × Int) Try.underlying94 (by kernel_rfl)
  (opens_field rfl (by kernel_rfl) op_3 (opens_field rfl (by kernel_rfl) op_3 (opens_last rfl (by kernel_rfl) op_3)))).over (fun x => ⟨x.1, x.2.1, x.2.2⟩) (fun w B cs x h => by
    obtain ⟨_, _, rfl, rfl, _, _, rfl, rfl, rfl⟩ := h
    rfl) (fun _ h => h)
theorem op_63 : Opens Try.prog 63 (List GCell) := opens_list Try.underlying63 (by kernel_rfl) op_94
theorem op_65 : Opens Try.prog 65 GBlock := (opens_struct (α := Int × (List GCell)) Try.underlying65 (by kernel_rfl)
  (opens_field rfl (by kernel_rfl) op_3 (opens_last rfl (by kernel_rfl) op_63))).over (fun x => ⟨x.1, x.2⟩) (fun _ _ _ _ h => h) (fun _ h => h)
theorem op_67 : Opens Try.prog 67 GEntry := (opens_struct (α := Int × Int × GBlock) Try.underlying67 (by kernel_rfl)
  (opens_field rfl (by kernel_rfl) op_3 (opens_field rfl (by kernel_rfl) op_3 (opens_last rfl (by kernel_rfl) op_65)))).over (fun x => ⟨x.1, x.2.1, x.2.2⟩) (fun _ _ _ _ h => h) (fun _ h => h)
theorem op_24 : Opens Try.prog 24 (List GEntry) := opens_list Try.underlying24 (by kernel_rfl) op_67
theorem op_78 : Opens Try.prog 78 GBooking := (opens_struct (α := Int × Int × Int × Int) Try.underlying78 (by kernel_rfl)
  (opens_field rfl (by kernel_rfl) op_3 (opens_field rfl (by kernel_rfl) op_3 (opens_field rfl (by kernel_rfl) op_3 (opens_last rfl (by kernel_rfl) op_3))))).over (fun x => ⟨x.1, x.2.1, x.2.2.1, x.2.2.2⟩) (fun w B cs x h => by
    obtain ⟨_, _, rfl, rfl, _, _, rfl, rfl, _, _, rfl, rfl, rfl⟩ := h
    rfl) (fun _ h => h)
theorem op_25 : Opens Try.prog 25 (List GBooking) := opens_list Try.underlying25 (by kernel_rfl) op_78
theorem op_27 : Opens Try.prog 27 GGuild := (opens_struct (α := (List GMember) × (List Int) × (List GEntry) × (List GBooking) × Int × Int) Try.underlying27 (by kernel_rfl)
  (opens_field rfl (by kernel_rfl) op_22 (opens_field rfl (by kernel_rfl) op_23 (opens_field rfl (by kernel_rfl) op_24 (opens_field rfl (by kernel_rfl) op_25 (opens_field rfl (by kernel_rfl) op_3 (opens_last rfl (by kernel_rfl) op_3))))))).over (fun x => ⟨x.1, x.2.1, x.2.2.1, x.2.2.2.1, x.2.2.2.2.1, x.2.2.2.2.2⟩) (fun _ _ _ _ h => h) (fun _ h => h)
end Go.Proofs.Ytgimnmlcdidcdaf
