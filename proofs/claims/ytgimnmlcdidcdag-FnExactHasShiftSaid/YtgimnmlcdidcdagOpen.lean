/-
  What a reading of an argument of each type shows.
-/
import Derived.Test.YtgimnmlcdidcdagLaw
import Derived.Test.YtgimnmlcdidcdagFacts
namespace Go.Proofs.Ytgimnmlcdidcdag
open Go Go.RowKit Go.Proofs
theorem laidOut : laidOutB Try.prog = true := by kernel_rfl
theorem op_3 : Opens Try.prog 3 Int := opens_int Try.underlying3
theorem op_65 : Opens Try.prog 65 GSpot := (opens_struct (α := Int × Int) Try.underlying65 (by kernel_rfl)
  (opens_field rfl (by kernel_rfl) op_3 (opens_last rfl (by kernel_rfl) op_3))).over (fun x => ⟨x.1, x.2⟩) (fun w B cs x h => by
    obtain ⟨_, _, rfl, rfl, rfl⟩ := h
    rfl) (fun _ h => h)
theorem op_22 : Opens Try.prog 22 (List GSpot) := opens_list Try.underlying22 (by kernel_rfl) op_65
theorem op_24 : Opens Try.prog 24 GQuilt := (opens_struct (α := Int × Int × (List GSpot)) Try.underlying24 (by kernel_rfl)
  (opens_field rfl (by kernel_rfl) op_3 (opens_field rfl (by kernel_rfl) op_3 (opens_last rfl (by kernel_rfl) op_22)))).over (fun x => ⟨x.1, x.2.1, x.2.2⟩) (fun _ _ _ _ h => h) (fun _ h => h)
theorem op_76 : Opens Try.prog 76 GCell := (opens_struct (α := Int × Int × Int) Try.underlying76 (by kernel_rfl)
  (opens_field rfl (by kernel_rfl) op_3 (opens_field rfl (by kernel_rfl) op_3 (opens_last rfl (by kernel_rfl) op_3)))).over (fun x => ⟨x.1, x.2.1, x.2.2⟩) (fun w B cs x h => by
    obtain ⟨_, _, rfl, rfl, _, _, rfl, rfl, rfl⟩ := h
    rfl) (fun _ h => h)
theorem op_40 : Opens Try.prog 40 (List GCell) := opens_list Try.underlying40 (by kernel_rfl) op_76
theorem op_42 : Opens Try.prog 42 GBlock := (opens_struct (α := Int × (List GCell)) Try.underlying42 (by kernel_rfl)
  (opens_field rfl (by kernel_rfl) op_3 (opens_last rfl (by kernel_rfl) op_40))).over (fun x => ⟨x.1, x.2⟩) (fun _ _ _ _ h => h) (fun _ h => h)
theorem op_25 : Opens Try.prog 25 (List GBlock) := opens_list Try.underlying25 (by kernel_rfl) op_42
end Go.Proofs.Ytgimnmlcdidcdag
