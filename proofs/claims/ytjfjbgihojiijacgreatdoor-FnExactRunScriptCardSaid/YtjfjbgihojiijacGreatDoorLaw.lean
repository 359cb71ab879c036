/-
  From what the claim's reading of an argument says, to what Rep says; the last step of a law.
-/
import Derived.Test.YtjfjbgihojiijacGreatDoorRd
import Derived.Deep.Slices
import Derived.Carry
import Derived.OpenShut
import Derived.ChangeSame
import Derived.Below
namespace Go.Proofs.YtjfjbgihojiijacGreatDoor
open Go Go.RowKit Go.WideShapes Go.ChangeShapes

def ZqW (P : Program) (t : TypeId) (α : Type) [Rep α] [Fit α] : Prop :=
  ∀ (H : Type) (enc : TypeId × Value → H) (w : World) (spare : Nat → Bool) (held : Bool) (fuel : Nat) (cs : List Value) (x : DataW H × List MemPlace),
    DataW.trod enc P w 0 spare held fuel t cs = some x → ∃ y : α, Rep.rd w (dm w []) cs y ∧ Fit.ok y

section
variable {P : Program} {t : TypeId}

theorem ZtB (ht : P.underlying t = some .string) : ZqW P t Str := fun _ _ _ _ _ _ _ _ h => by
  obtain ⟨s, rfl, _, hl⟩ := DataW.trod_string ht h
  refine ⟨⟨s.data.toList⟩, ?_, ?_⟩
  · show [Value.string s] = [bs ⟨s.data.toList⟩]
    simp [bs]
  · show s.data.toList.length ≤ maxLen
    simpa using hl

/-- Over to a structure of one's own. -/
theorem ZqW.over {α β : Type} [Rep α] [Fit α] [Rep β] [Fit β] (h : ZqW P t α) (g : α → β) (hr : ∀ w B cs x, Rep.rd w B cs x → Rep.rd w B cs (g x)) (ho : ∀ x, Fit.ok x → Fit.ok (g x)) : ZqW P t β := fun H enc w spare held fuel cs x hx => by
  obtain ⟨y, hy, hyo⟩ := h H enc w spare held fuel cs x hx
  exact ⟨g y, hr _ _ _ _ hy, ho _ hyo⟩
end

section
variable {H : Type} {enc : TypeId × Value → H} {P : Program} {w : World} {t : TypeId} {v : Value} {d : DataW H} {p : List MemPlace} {r : Reach} {base : Nat}
theorem ZwQ (ht : P.underlying t = some .string) (hv : Value.okWide P w r base t v) (h : DataW.Trod enc P w 0 (fun _ => true) true t v d p) : ∃ s : Str, v = bs s ∧ Fit.ok s := by
  obtain ⟨n, rfl⟩ := okWide_string ht hv
  obtain ⟨fuel, h⟩ := h
  obtain ⟨y, h1, h2⟩ := ZtB ht H enc w _ _ fuel _ _ h
  have e : [Value.string n] = [bs y] := h1
  exact ⟨y, by injection e, h2⟩
end

theorem SH.below {w w' : World} (h : SH w [] [] w') : Below w.heap.size w w' := h.keep.below

section
variable {H : Type} {enc : TypeId × Value → H} {P : Program}
/-- The end of a law: the arguments' memory is as it was. -/
theorem Zu9 {f : Func} {s : ChangeSpec} {W W' : World} {args : Array Value} {v : Value} {ds : List (DataW H)} {before pa : List MemPlace} (hps : before = pa)
    (hW : DataW.Whole enc P f.params.toList s.vars false W args.toList ds [] before) (hvs : s.vars = [])
    (hres : ∀ (b : Nat) (sp : Nat → Bool) (hd : Bool), DataW.TrodAll enc P W' b sp hd f.resultTypes.toList (v.resultList f.resultTypes.size) (s.fn H (ds ++ [])).results [])
    (hargs : DataW.TrodAll enc P W' 0 (fun b => decide (b < W.heap.size)) true f.params.toList args.toList (s.fn H (ds ++ [])).args pa)
    (hgs : (s.fn H (ds ++ [])).vars = []) (hb : Below W.heap.size W W') :
    s.post enc P f false true false false W args v W' := by
  subst hps
  have hv : ∀ sp : Nat → Bool, DataW.TrodVars enc P W' sp s.vars (s.fn H (ds ++ [])).vars [] := fun sp => by rw [hvs, hgs]; rfl
  refine ⟨ds, [], before, [], before, [], hW, hres _ _ _, hargs, hv _, World.keptBut_mono (fun p hp => ⟨hp, ?_⟩) (hb.frame (· ∈ before)), fun h => ?_⟩
  · simpa using hp
  · cases h
end
end Go.Proofs.YtjfjbgihojiijacGreatDoor
