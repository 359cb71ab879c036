/-
  From what the claim's reading of an argument says, to what Rep says; the last step of a law.
-/
import Derived.Test.YtjfjbgihojiijabGreatDoorRd
import Derived.Deep.Slices
import Derived.Carry
import Derived.OpenShut
import Derived.ChangeSame
import Derived.Below
namespace Go.Proofs.YtjfjbgihojiijabGreatDoor
open Go Go.RowKit Go.WideShapes Go.ChangeShapes

def ZiO (P : Program) (t : TypeId) (α : Type) [Rep α] [Fit α] : Prop :=
  ∀ (H : Type) (enc : TypeId × Value → H) (w : World) (spare : Nat → Bool) (held : Bool) (fuel : Nat) (cs : List Value) (x : DataW H × List MemPlace),
    DataW.trod enc P w 0 spare held fuel t cs = some x → ∃ y : α, Rep.rd w (dm w []) cs y ∧ Fit.ok y

section
variable {P : Program} {t : TypeId}

theorem ZuV (ht : P.underlying t = some (.int .u8)) : ZiO P t UInt8 := fun _ _ _ _ _ _ _ _ h => by
  obtain ⟨n, rfl, _, hw⟩ := DataW.trod_int ht h
  simp [Lit.wf, show IntKind.min .u8 = 0 from rfl, show IntKind.max .u8 = 255 from rfl] at hw
  refine ⟨UInt8.ofNat n.toNat, ?_, trivial⟩
  show [Value.int .u8 n] = [Value.int .u8 ((UInt8.ofNat n.toNat).toNat : Int)]
  have : (UInt8.ofNat n.toNat).toNat = n.toNat := by simp; omega
  rw [this, Int.toNat_of_nonneg (by omega)]
theorem Zti {α : Type} [Rep α] [Fit α] {e : TypeId} (ht : P.underlying t = some (.slice e)) (hc : P.cellsOf e = Rep.sz α) (he : ZiO P e α) : ZiO P t (List α) := fun H enc w spare held fuel cs x h => by
  rcases Deep.open_slice ht h with ⟨rfl, _⟩ | ⟨a, len, cap, m, n, D, Pl, rfl, hb, hl, hm, hmm, _, hx⟩
  · exact ⟨[], ⟨_, [], rfl, ⟨none, 0, 0, rfl, by simp, Nat.le_refl _, Nat.zero_le _, fun h => absurd h (by omega)⟩, by simp, by simp⟩, by simp [maxLen], by simp⟩
  · have hm' : len ≤ m := by rw [hmm]; split <;> omega
    have key : ∀ i, i < len → ∃ r : List Value × α, w.cells? 0 (a.add (i * P.cellsOf e)) (P.cellsOf e) = some r.1 ∧ Rep.rd w (dm w []) r.1 r.2 ∧ Fit.ok r.2 := fun i hi => by
      obtain ⟨cs', h1, h2⟩ := hx i (by omega)
      obtain ⟨y, h3, h4⟩ := he H enc w spare held n cs' _ h2
      exact ⟨(cs', y), h1, h3, h4⟩
    have : Inhabited (List Value × α) := ⟨([], Rep.dflt)⟩
    obtain ⟨R, hR⟩ := Deep.choose_lt key
    have hsz := Rep.pos (α := α)
    -- the cells, one after the other
    have hlen : ∀ i, i < len → (R i).1.length = Rep.sz α := fun i hi => Rep.rd_len (hR i hi).2.1
    have hus : ∀ n, n ≤ len → ((List.range n).flatMap fun i => (R i).1).length = n * Rep.sz α := fun n => by
      induction n with
      | zero => simp
      | succ n ih =>
        intro hn
        rw [List.range_succ, List.flatMap_append, List.length_append, ih (by omega)]
        simp [hlen n (by omega), Nat.add_mul]
    have hch : ∀ n, n ≤ len → ∀ k, k < n → ZaG ((List.range n).flatMap fun i => (R i).1) k (Rep.sz α) = (R k).1 := fun n => by
      induction n with
      | zero => intro _ k hk; omega
      | succ n ih =>
        intro hn k hk
        rw [List.range_succ, List.flatMap_append]
        have hl' := hus n (by omega)
        by_cases hkn : k < n
        · rw [← ih (by omega) k hkn]
          unfold ZaG
          have hkk : k * Rep.sz α + Rep.sz α ≤ n * Rep.sz α := by
            rw [← Nat.succ_mul]; exact Nat.mul_le_mul_right _ hkn
          rw [List.drop_append_of_le_length (by omega), List.take_append_of_le_length (by rw [List.length_drop]; omega)]
        · have : k = n := by omega
          subst this
          unfold ZaG
          rw [List.drop_append_of_le_length (by omega), List.drop_of_length_le (by omega)]
          simp only [List.flatMap_cons, List.flatMap_nil, List.append_nil, List.nil_append]
          rw [List.take_of_length_le (by rw [hlen k (by omega)]; exact Nat.le_refl _)]
    refine ⟨(List.range len).map fun i => (R i).2, ⟨_, (List.range len).flatMap fun i => (R i).1, rfl, ⟨_, len, cap, rfl, hus len (Nat.le_refl _), hl, hm, fun h0 => ?_⟩, ?_, ?_⟩, ?_, ?_⟩
    · obtain ⟨_, hl0, hc0⟩ := World.cells?_some (hR 0 h0).1
      rw [hc] at hl0 hc0
      have h00 := hc0 0 hsz
      simp only [Nat.zero_mul, Addr.add, if_true] at h00
      rw [List.getElem?_eq_getElem (by omega)] at h00
      obtain ⟨b, off, spot⟩ := a
      have hsp : spot = none := by
        cases spot with
        | none => rfl
        | some s =>
          unfold World.cell? at h00
          split at h00 <;> simp at h00
      subst hsp
      have hblk : b < w.heap.size := by
        unfold World.cell? at h00
        split at h00
        · rename_i h; exact (Array.getElem?_eq_some_iff.1 h).1
        · exact absurd h00 (by simp)
      refine ⟨b, off, rfl, ⟨hblk, by simp⟩, fun j u hj => ?_⟩
      have hjl : j < len * Rep.sz α := by
        have := (List.getElem?_eq_some_iff.1 hj).1
        rwa [hus len (Nat.le_refl _)] at this
      have hq : j / Rep.sz α < len := Nat.div_lt_of_lt_mul (by rw [Nat.mul_comm]; exact hjl)
      have hr : j % Rep.sz α < Rep.sz α := Nat.mod_lt _ hsz
      have hjj : (j / Rep.sz α) * Rep.sz α + j % Rep.sz α = j := by rw [Nat.mul_comm]; exact Nat.div_add_mod _ _
      have hcell := (World.cells?_some (hR _ hq).1).2.2 (j % Rep.sz α) (by rw [hc]; exact hr)
      rw [← hch len (Nat.le_refl _) _ hq] at hcell
      have e2 : (ZaG ((List.range len).flatMap fun i => (R i).1) (j / Rep.sz α) (Rep.sz α))[j % Rep.sz α]? = some u := by
        unfold ZaG
        rw [List.getElem?_take_of_lt hr, List.getElem?_drop, hjj, hj]
      rw [e2, hc, Deep.add_add, hjj] at hcell
      rw [← hcell]
      unfold Addr.add
      by_cases hj0 : j = 0 <;> simp [hj0]
    · rw [hus len (Nat.le_refl _)]; simp
    · intro k x hk
      have hk' : k < len := by simpa using (List.getElem?_eq_some_iff.1 hk).1
      rw [hch len (Nat.le_refl _) k hk']
      have : x = (R k).2 := by simp [hk'] at hk; exact hk.symm
      rw [this]
      exact (hR k hk').2.1
    · show ((List.range len).map fun i => (R i).2).length ≤ maxLen
      simp; omega
    · intro x hx'
      obtain ⟨i, hi, rfl⟩ := List.mem_map.1 hx'
      exact (hR i (List.mem_range.1 hi)).2.2

/-- Over to a structure of one's own. -/
theorem ZiO.over {α β : Type} [Rep α] [Fit α] [Rep β] [Fit β] (h : ZiO P t α) (g : α → β) (hr : ∀ w B cs x, Rep.rd w B cs x → Rep.rd w B cs (g x)) (ho : ∀ x, Fit.ok x → Fit.ok (g x)) : ZiO P t β := fun H enc w spare held fuel cs x hx => by
  obtain ⟨y, hy, hyo⟩ := h H enc w spare held fuel cs x hx
  exact ⟨g y, hr _ _ _ _ hy, ho _ hyo⟩
end

section
variable {H : Type} {enc : TypeId × Value → H} {P : Program} {w : World} {t : TypeId} {v : Value} {d : DataW H} {p : List MemPlace} {r : Reach} {base : Nat}
/-- .. a slice. -/
theorem Zxy {e : TypeId} {α : Type} [Rep α] [Fit α] (ht : P.underlying t = some (.slice e)) (ho : ZiO P t (List α)) (hv : Value.okWide P w r base t v) (h : DataW.Trod enc P w 0 (fun _ => true) true t v d p) :
    ∃ (x : Hd) (us : List Value) (xs : List α), v = sl x ∧ RdL w (dm w []) (sl x) us xs ∧ Fit.ok xs := by
  obtain ⟨a, l, c, rfl⟩ := okWide_slice ht hv
  obtain ⟨fuel, h⟩ := h
  obtain ⟨y, ⟨v, us, e, h1⟩, h2⟩ := ho H enc w _ _ fuel _ _ h
  have e : [Value.slice a l c] = [v] := e
  injection e with e _
  subst e
  exact ⟨⟨a, l, c⟩, us, y, rfl, h1, h2⟩
theorem ZxJ {e : TypeId} {α : Type} [Flat α] [Fit α] (ht : P.underlying t = some (.slice e)) (ho : ZiO P t (List α)) (hv : Value.okWide P w r base t v) (h : DataW.Trod enc P w 0 (fun _ => true) true t v d p) :
    ∃ (x : Hd) (xs : List α), v = sl x ∧ rdF w (dm w []) (sl x) xs ∧ Fit.ok xs := by
  obtain ⟨x, us, xs, h1, h2, h3⟩ := Zxy ht ho hv h
  exact ⟨x, xs, h1, h2.flat, h3⟩
end

theorem SH.below {w w' : World} (h : SH w [] [] w') : Below w.heap.size w w' := h.keep.below

section
variable {H : Type} {enc : TypeId × Value → H} {P : Program}
/-- The end of a law: the arguments' memory is as it was. -/
theorem Zv8 {f : Func} {s : ChangeSpec} {W W' : World} {args : Array Value} {v : Value} {ds : List (DataW H)} {before pa : List MemPlace} (hps : before = pa)
    (hW : DataW.Whole enc P f.params.toList s.vars false W args.toList ds [] before) (hvs : s.vars = [])
    (hres : ∀ (b : Nat) (sp : Nat → Bool) (hd : Bool), DataW.TrodAll enc P W' b sp hd f.resultTypes.toList (v.resultList f.resultTypes.size) (s.fn H (ds ++ [])).results [])
    (hargs : DataW.TrodAll enc P W' 0 (fun b => decide (b < W.heap.size)) true f.params.toList args.toList (s.fn H (ds ++ [])).args pa)
    (hgs : (s.fn H (ds ++ [])).vars = []) (hb : Below W.heap.size W W') :
    s.post enc P f false true false false W args v W' := by
  subst hps
  have hv : ∀ sp : Nat → Bool, DataW.TrodVars enc P W' sp s.vars (s.fn H (ds ++ [])).vars [] := fun sp => by rw [hvs, hgs]; rfl
  refine ⟨ds, [], before, [], before, [], hW, hres _ _ _, hargs, hv _, World.keptBut_mono (fun p hp => ⟨hp, ?_⟩) (hb.frame (· ∈ before)), fun h => ?_⟩
  · simpa using hp
  · cases h
end
end Go.Proofs.YtjfjbgihojiijabGreatDoor
