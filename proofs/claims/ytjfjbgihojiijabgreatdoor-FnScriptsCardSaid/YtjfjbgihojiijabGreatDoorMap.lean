/-
  Maps of the call's own, whose keys are texts: made, set, counted.
-/
import Derived.Test.YtjfjbgihojiijabGreatDoorSh
import Derived.ChangeMaps4
namespace Go.Proofs.YtjfjbgihojiijabGreatDoor
open Go Go.RowKit Go.Instr

/-- Block b is a map of one's own, with the keys ks, in the order in which they came. -/
def mp (b : Nat) (ks : List Str) : Asn where
  P := fun w f => f = [b] ∧ ∃ (es : Array MapEntry) (n : Nat), w.heap[b]? = some (.map es n) ∧ es.toList.map (·.key) = ks.map bs
  loc := fun _ _ _ ⟨h, es, n, h1, h2⟩ hk => ⟨h, es, n, (hk b (by simp [h])).trans h1, h2⟩

/-- The bits of one of the two. -/
def xorI (x y : Int) : Int := wr ((BitVec.ofInt 64 x ^^^ BitVec.ofInt 64 y).toNat : Int)

section
variable {c : Cx} {E : Env} {L L' : List Asn}
theorem ZwG {t u : TypeId} {x y : Operand} {p q : Int} (hx : ev E x = some (.int .i64 p)) (hy : ev E y = some (.int .i64 q)) : Zw c E L (.binOp .xor t x y u) (.int .i64 (xorI p q)) := fun a w o hf _ ho => by
  have e : Op.intBits .xor .i64 p q = pure (.int .i64 (xorI p q)) := rfl
  simp [execOp, ho, hf.eval hx, hf.eval hy, eqGuard, binOp, e]
end
end Go.Proofs.YtjfjbgihojiijabGreatDoor
