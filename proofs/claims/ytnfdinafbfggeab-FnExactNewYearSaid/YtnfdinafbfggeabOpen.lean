/-
  What a reading of an argument of each type shows.
-/
import Derived.Test.YtnfdinafbfggeabLaw
import Derived.Test.YtnfdinafbfggeabFacts
namespace Go.Proofs.Ytnfdinafbfggeab
open Go Go.RowKit Go.Proofs
theorem laidOut : laidOutB Try.prog = true := by kernel_rfl
theorem op_3 : Opens Try.prog 3 Int := opens_int Try.underlying3
theorem op_126 : Opens Try.prog 126 GMember := (opens_struct (α := Int × Int × Int) Try.underlying126 (by kernel_rfl)
  (opens_field rfl (by kernel_rfl) op_3 (opens_field rfl (by kernel_rfl) op_3 (opens_last rfl (by kernel_rfl) op_3)))).over (fun x => ⟨x.1, x.2.1, x.2.2⟩) (fun w B cs x h => by
    obtain ⟨_, _, rfl, rfl, _, _, rfl, rfl, rfl⟩ := h
    rfl) (fun _ h => h)
theorem op_43 : Opens Try.prog 43 (List GMember) := opens_list Try.underlying43 (by kernel_rfl) op_126
theorem op_34 : Opens Try.prog 34 (List Int) := opens_list Try.underlying34 (by kernel_rfl) op_3
theorem op_103 : Opens Try.prog 103 GCell := (opens_struct (α := Int × Int × Int) Try.underlying103 (by kernel_rfl)
  (opens_field rfl (by kernel_rfl) op_3 (opens_field rfl (by kernel_rfl) op_3 (opens_last rfl (by kernel_rfl) op_3)))).over (fun x => ⟨x.1, x.2.1, x.2.2⟩) (fun w B cs x h => by
    obtain ⟨_, _, rfl, rfl, _, _, rfl, rfl, rfl⟩ := h
    rfl) (fun _ h => h)
theorem op_22 : Opens Try.prog 22 (List GCell) := opens_list Try.underlying22 (by kernel_rfl) op_103
theorem op_24 : Opens Try.prog 24 GBlock := (opens_struct (α := Int × (List GCell)) Try.underlying24 (by kernel_rfl)
  (opens_field rfl (by kernel_rfl) op_3 (opens_last rfl (by kernel_rfl) op_22))).over (fun x => ⟨x.1, x.2⟩) (fun _ _ _ _ h => h) (fun _ h => h)
theorem op_119 : Opens Try.prog 119 GEntry := (opens_struct (α := Int × Int × GBlock) Try.underlying119 (by kernel_rfl)
  (opens_field rfl (by kernel_rfl) op_3 (opens_field rfl (by kernel_rfl) op_3 (opens_last rfl (by kernel_rfl) op_24)))).over (fun x => ⟨x.1, x.2.1, x.2.2⟩) (fun _ _ _ _ h => h) (fun _ h => h)
theorem op_44 : Opens Try.prog 44 (List GEntry) := opens_list Try.underlying44 (by kernel_rfl) op_119
theorem op_129 : Opens Try.prog 129 GBooking := (opens_struct (α := Int × Int × Int × Int) Try.underlying129 (by kernel_rfl)
  (opens_field rfl (by kernel_rfl) op_3 (opens_field rfl (by kernel_rfl) op_3 (opens_field rfl (by kernel_rfl) op_3 (opens_last rfl (by kernel_rfl) op_3))))).over (fun x => ⟨x.1, x.2.1, x.2.2.1, x.2.2.2⟩) (fun w B cs x h => by
    obtain ⟨_, _, rfl, rfl, _, _, rfl, rfl, _, _, rfl, rfl, rfl⟩ := h
    rfl) (fun _ h => h)
theorem op_45 : Opens Try.prog 45 (List GBooking) := opens_list Try.underlying45 (by kernel_rfl) op_129
theorem op_47 : Opens Try.prog 47 GGuild := (opens_struct (α := (List GMember) × (List Int) × (List GEntry) × (List GBooking) × Int × Int) Try.underlying47 (by kernel_rfl)
  (opens_field rfl (by kernel_rfl) op_43 (opens_field rfl (by kernel_rfl) op_34 (opens_field rfl (by kernel_rfl) op_44 (opens_field rfl (by kernel_rfl) op_45 (opens_field rfl (by kernel_rfl) op_3 (opens_last rfl (by kernel_rfl) op_3))))))).over (fun x => ⟨x.1, x.2.1, x.2.2.1, x.2.2.2.1, x.2.2.2.2.1, x.2.2.2.2.2⟩) (fun _ _ _ _ h => h) (fun _ h => h)
end Go.Proofs.Ytnfdinafbfggeab
