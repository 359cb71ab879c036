/-
  What a reading of an argument of each type shows.
-/
import Derived.Test.YtnfdinafbfggeaaLaw
import Derived.Test.YtnfdinafbfggeaaFacts
namespace Go.Proofs.Ytnfdinafbfggeaa
open Go Go.RowKit Go.Proofs
theorem laidOut : laidOutB Try.prog = true := by kernel_rfl
theorem op_3 : Opens Try.prog 3 Int := opens_int Try.underlying3
theorem op_116 : Opens Try.prog 116 GSpot := (opens_struct (α := Int × Int) Try.underlying116 (by kernel_rfl)
  (opens_field rfl (by kernel_rfl) op_3 (opens_last rfl (by kernel_rfl) op_3))).over (fun x => ⟨x.1, x.2⟩) (fun w B cs x h => by
    obtain ⟨_, _, rfl, rfl, rfl⟩ := h
    rfl) (fun _ h => h)
theorem op_22 : Opens Try.prog 22 (List GSpot) := opens_list Try.underlying22 (by kernel_rfl) op_116
theorem op_24 : Opens Try.prog 24 GQuilt := (opens_struct (α := Int × Int × (List GSpot)) Try.underlying24 (by kernel_rfl)
  (opens_field rfl (by kernel_rfl) op_3 (opens_field rfl (by kernel_rfl) op_3 (opens_last rfl (by kernel_rfl) op_22)))).over (fun x => ⟨x.1, x.2.1, x.2.2⟩) (fun _ _ _ _ h => h) (fun _ h => h)
theorem op_113 : Opens Try.prog 113 GCell := (opens_struct (α := Int × Int × Int) Try.underlying113 (by kernel_rfl)
  (opens_field rfl (by kernel_rfl) op_3 (opens_field rfl (by kernel_rfl) op_3 (opens_last rfl (by kernel_rfl) op_3)))).over (fun x => ⟨x.1, x.2.1, x.2.2⟩) (fun w B cs x h => by
    obtain ⟨_, _, rfl, rfl, _, _, rfl, rfl, rfl⟩ := h
    rfl) (fun _ h => h)
theorem op_43 : Opens Try.prog 43 (List GCell) := opens_list Try.underlying43 (by kernel_rfl) op_113
theorem op_45 : Opens Try.prog 45 GBlock := (opens_struct (α := Int × (List GCell)) Try.underlying45 (by kernel_rfl)
  (opens_field rfl (by kernel_rfl) op_3 (opens_last rfl (by kernel_rfl) op_43))).over (fun x => ⟨x.1, x.2⟩) (fun _ _ _ _ h => h) (fun _ h => h)
theorem op_25 : Opens Try.prog 25 (List GBlock) := opens_list Try.underlying25 (by kernel_rfl) op_45
end Go.Proofs.Ytnfdinafbfggeaa
