/-
  Results of the type error: nil, or a pointer that is not nil.
-/
import Derived.Test.YtjfjbgihojiijacGreatDoorSh
namespace Go.Proofs.YtjfjbgihojiijacGreatDoor
open Go Go.RowKit
section
variable {c : Cx} {E : Env} {L : List Asn}
def errv (t : Nat) (b : Bool) (n : Nat) : Value := bif b then .iface t (.pointer (some ⟨n, 0, none⟩)) else .nilIface
def ZmW (P : Program) (t : TypeId) : Bool := match P.underlying t with
  | some (.interface _) => true
  | _ => false
theorem Ztu {P : Program} {t : TypeId} (h : ZmW P t = true) : ∃ ms, P.underlying t = some (.interface ms) := by
  unfold ZmW at h
  split at h
  · rename_i ms e; exact ⟨ms, e⟩
  · cases h
theorem ZpS {P : Program} {t te : TypeId} {b : Bool} {n : Nat} (ht : ZmW P t = true) (w : World) : (Op.equal t (errv te b n) .nilIface).run P w = .ok (!b) w := by
  obtain ⟨ms, hu⟩ := Ztu ht
  have h : ∀ d : Nat, (Op.equalIn (d + 1) t (errv te b n) .nilIface).run P w = .ok (!b) w := fun d => by
    cases b <;> simp [Op.equalIn, run_underlying hu, errv]
  exact h 9999
theorem Zt0 {t u te : TypeId} {x : Operand} {b : Bool} {n : Nat} (ht : ZmW c.P t = true) (hx : ev E x = some (errv te b n)) : Zz c E L (.binOp .neq t x (.const .nilIface) u) (.bool b) := fun a w o hf _ ho => by
  have h1 := ZpS (P := c.P) (t := t) (te := te) (b := b) (n := n) ht w
  have h2 : a.eval (.const .nilIface) = .nilIface := rfl
  cases b
  · have e : errv te false n = .nilIface := rfl
    rw [e] at h1
    simp [execOp, ho, hf.eval hx, h2, eqGuard, binOp, e, h1]
  · have e : errv te true n = .iface te (.pointer (some ⟨n, 0, none⟩)) := rfl
    rw [e] at h1
    simp [execOp, ho, hf.eval hx, h2, eqGuard, binOp, e, h1]
theorem Zwq {f : Nat} {xs : List Operand} {ts : Array TypeId} {vs : List Value} {X : Type} {v : X → Value} (hfn : FnAt c.P f) (hx : evs E xs = some vs)
    (h : ∀ w, SH c.w0 c.ex L w → Calls c.P f vs.toArray w fun e w' => ∃ x, e = .returned (v x) ∧ SH w [] [] w') :
    ZcG c E L (.call { callee := .value (.func f), args := xs.toArray, argTypes := ts }) v (fun _ => L) := by
  obtain ⟨fn, cd, h1, h2, h3⟩ := hfn
  exact ZpW (X := X) (v := v) (L1 := fun _ => []) h1 h2 h3 hx h
end
end Go.Proofs.YtjfjbgihojiijacGreatDoor
