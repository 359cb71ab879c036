/-
  What a reading of an argument of each type shows.
-/
import Derived.Test.YtgimnmlcdidcdacLaw
import Derived.Test.YtgimnmlcdidcdacFacts
namespace Go.Proofs.Ytgimnmlcdidcdac
open Go Go.RowKit Go.Proofs
theorem laidOut : laidOutB Try.prog = true := by kernel_rfl
theorem op_3 : Opens Try.prog 3 Int := opens_int Try.underlying3
theorem op_71 : Opens Try.prog 71 GSpot := (opens_struct (α := Int × Int) Try.underlying71 (by kernel_rfl)
  (opens_field rfl (by kernel_rfl) op_3 (opens_last rfl (by kernel_rfl) op_3))).over (fun x => ⟨x.1, x.2⟩) (fun w B cs x h => by
    obtain ⟨_, _, rfl, rfl, rfl⟩ := h
    rfl) (fun _ h => h)
theorem op_22 : Opens Try.prog 22 (List GSpot) := opens_list Try.underlying22 (by kernel_rfl) op_71
theorem op_24 : Opens Try.prog 24 GQuilt := (opens_struct (α := Int × Int × (List GSpot)) Try.underlying24 (by kernel_rfl)
  (opens_field rfl (by kernel_rfl) op_3 (opens_field rfl (by kernel_rfl) op_3 (opens_last rfl (by kernel_rfl) op_22)))).over (fun x => ⟨x.1, x.2.1, x.2.2⟩) (fun _ _ _ _ h => h) (fun _ h => h)
theorem op_79 : Opens Try.prog 79 GCell := (opens_struct (α := Int × Int × Int) Try.underlying79 (by kernel_rfl)
  (opens_field rfl (by kernel_rfl) op_3 (opens_field rfl (by kernel_rfl) op_3 (opens_last rfl (by kernel_rfl) op_3)))).over (fun x => ⟨x.1, x.2.1, x.2.2⟩) (fun w B cs x h => by
    obtain ⟨_, _, rfl, rfl, _, _, rfl, rfl, rfl⟩ := h
    rfl) (fun _ h => h)
theorem op_48 : Opens Try.prog 48 (List GCell) := opens_list Try.underlying48 (by kernel_rfl) op_79
theorem op_50 : Opens Try.prog 50 GBlock := (opens_struct (α := Int × (List GCell)) Try.underlying50 (by kernel_rfl)
  (opens_field rfl (by kernel_rfl) op_3 (opens_last rfl (by kernel_rfl) op_48))).over (fun x => ⟨x.1, x.2⟩) (fun _ _ _ _ h => h) (fun _ h => h)
theorem op_25 : Opens Try.prog 25 (List GBlock) := opens_list Try.underlying25 (by kernel_rfl) op_50
theorem op_27 : Opens Try.prog 27 GOrder := (opens_struct (α := GQuilt × (List GBlock) × Int) Try.underlying27 (by kernel_rfl)
  (opens_field rfl (by kernel_rfl) op_24 (opens_field rfl (by kernel_rfl) op_25 (opens_last rfl (by kernel_rfl) op_3)))).over (fun x => ⟨x.1, x.2.1, x.2.2⟩) (fun _ _ _ _ h => h) (fun _ h => h)
end Go.Proofs.Ytgimnmlcdidcdac
