/-
  An element taken out of a list that is owned, and put back.
-/
import Derived.Test.YtkahnmhkfmjomaeStr
namespace Go.Proofs.Ytkahnmhkfmjomae
open Go Go.RowKit

/-- L gives L2, with the same blocks. -/
def Ent (L2 L : List Asn) : Prop := ∀ (w : World) (fp : List Nat), sat w L fp → ∃ fp', sat w L2 fp' ∧ fp'.Perm fp
theorem Ent.trans {L1 L2 L3 : List Asn} (h : Ent L1 L2) (g : Ent L2 L3) : Ent L1 L3 := fun w fp hs => by
  obtain ⟨f1, h1, p1⟩ := g w fp hs
  obtain ⟨f2, h2, p2⟩ := h w f1 h1
  exact ⟨f2, h2, p2.trans p1⟩
section
variable {c : Cx} {E : Env} {L L2 : List Asn} {Q : Post}
end

section
variable {α : Type} [Rep α] {L L' L1 L2 : List Asn} {v : Value} {us cells : List Value} {xs : List α} {k : Nat}
end

section
variable {α : Type} [Rep α] {c : Cx} {E : Env} {L L' : List Asn} {v : Value} {us : List Value} {xs : List α} {k : Nat} {Q : Post}
end
theorem RdL.hl {α : Type} [Rep α] {w : World} {B : Nat → Prop} {x : Hd} {us : List Value} {xs : List α} (h : RdL w B (sl x) us xs) : xs.length = x.l := by
  obtain ⟨⟨a, len, cap, e, h2, _⟩, hl, _⟩ := h
  have e1 : len = x.l := by simp [sl] at e; exact e.2.1.symm
  rw [← e1]
  exact Nat.eq_of_mul_eq_mul_right (Rep.pos (α := α)) (hl.symm.trans h2)
/-! Many orders, which meet again and again. -/
structure NdS where
  fuel : Nat
  listed : Array Bool
  X : Type
  E : X → Env
  L : X → List Asn
end Go.Proofs.Ytkahnmhkfmjomae
