/-
  Functions of the library.
-/
import Derived.Test.YtkahnmhkfmjomabDoorFacts
import Derived.WalkKit
namespace Go.Proofs.YtkahnmhkfmjomabDoor
open Go Go.RowKit Go.Proofs
set_option maxRecDepth 100000

theorem c_strconv_Itoa (w : World) (a_i : Int) {r : Str} (t0 : strconv_Itoa a_i = some r) : Calls Tryd.prog 87 #[.int .i64 a_i] w fun e w' => e = .returned (bs r) ∧ SH w [] [] w' := by
  unfold strconv_Itoa at t0
  refine gdO t0 fun h t0 => ?_
  obtain rfl := Option.some.inj t0
  have key : Calls Tryd.prog 87 #[.int .i64 a_i] w fun e w' => e = .returned (bs ⟨[UInt8.ofNat (48 + a_i.toNat)]⟩) ∧ w' = w := by
    have hn : a_i = 0 ∨ a_i = 1 ∨ a_i = 2 ∨ a_i = 3 ∨ a_i = 4 ∨ a_i = 5 ∨ a_i = 6 ∨ a_i = 7 ∨ a_i = 8 ∨ a_i = 9 := by omega
    rcases hn with rfl | rfl | rfl | rfl | rfl | rfl | rfl | rfl | rfl | rfl
    all_goals
      go_enter Tryd.func87, Tryd.ntmps87
      go_wp2
      go_ret
      exact ⟨rfl, rfl⟩
  refine key.mono fun e w' ⟨h1, h2⟩ => ⟨h1, ?_⟩
  rw [h2]; exact SH.start w

end Go.Proofs.YtkahnmhkfmjomabDoor
