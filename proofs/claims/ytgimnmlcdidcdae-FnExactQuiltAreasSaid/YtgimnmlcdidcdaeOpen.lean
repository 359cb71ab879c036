/-
  What a reading of an argument of each type shows.
-/
import Derived.Test.YtgimnmlcdidcdaeLaw
import Derived.Test.YtgimnmlcdidcdaeFacts
namespace Go.Proofs.Ytgimnmlcdidcdae
open Go Go.RowKit Go.Proofs
theorem laidOut : laidOutB Try.prog = true := by kernel_rfl
theorem op_3 : Opens Try.prog 3 Int := opens_int Try.underlying3
theorem op_68 : Opens Try.prog 68 GSpot := (opens_struct (α := Int × Int) Try.underlying68 (by kernel_rfl)
  (opens_field rfl (by kernel_rfl) op_3 (opens_last rfl (by kernel_rfl) op_3))).over (fun x => ⟨x.1, x.2⟩) (fun w B cs x h => by
    obtain ⟨_, _, rfl, rfl, rfl⟩ := h
    rfl) (fun _ h => h)
theorem op_22 : Opens Try.prog 22 (List GSpot) := opens_list Try.underlying22 (by kernel_rfl) op_68
theorem op_24 : Opens Try.prog 24 GQuilt := (opens_struct (α := Int × Int × (List GSpot)) Try.underlying24 (by kernel_rfl)
  (opens_field rfl (by kernel_rfl) op_3 (opens_field rfl (by kernel_rfl) op_3 (opens_last rfl (by kernel_rfl) op_22)))).over (fun x => ⟨x.1, x.2.1, x.2.2⟩) (fun _ _ _ _ h => h) (fun _ h => h)
theorem op_77 : Opens Try.prog 77 GCell := (opens_struct (α := Int × Int × Int) Try.underlying77 (by kernel_rfl)
  (opens_field rfl (by kernel_rfl) op_3 (opens_field rfl (by kernel_rfl) op_3 (opens_last rfl (by kernel_rfl) op_3)))).over (fun x => ⟨x.1, x.2.1, x.2.2⟩) (fun w B cs x h => by
    obtain ⟨_, _, rfl, rfl, _, _, rfl, rfl, rfl⟩ := h
    rfl) (fun _ h => h)
theorem op_45 : Opens Try.prog 45 (List GCell) := opens_list Try.underlying45 (by kernel_rfl) op_77
theorem op_47 : Opens Try.prog 47 GBlock := (opens_struct (α := Int × (List GCell)) Try.underlying47 (by kernel_rfl)
  (opens_field rfl (by kernel_rfl) op_3 (opens_last rfl (by kernel_rfl) op_45))).over (fun x => ⟨x.1, x.2⟩) (fun _ _ _ _ h => h) (fun _ h => h)
theorem op_25 : Opens Try.prog 25 (List GBlock) := opens_list Try.underlying25 (by kernel_rfl) op_47
end Go.Proofs.Ytgimnmlcdidcdae
