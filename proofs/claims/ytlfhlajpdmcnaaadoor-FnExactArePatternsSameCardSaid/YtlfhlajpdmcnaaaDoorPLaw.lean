/-
  The plain laws: what the functions compute, in Lean alone.
-/
import Derived.Test.YtlfhlajpdmcnaaaDoorPure
namespace Go.Proofs.YtlfhlajpdmcnaaaDoor
open Go

theorem gd_pos {α : Type} {p : Prop} [Decidable p] (h : p) (t : Option α) : gd p t = t := by simp [gd, h]
@[simp] theorem sq_inl {J C : Type} (j : J) (k : J → Option C) : sq (some (.inl j)) k = k j := rfl
@[simp] theorem sq_inr {J C : Type} (c : C) (k : J → Option C) : sq (some (.inr c)) k = some c := rfl

section
variable {S C : Type} {f : Nat → S → Option (Res S C)} {N : Nat}
theorem forO_at (st : Nat → S) (h : ∀ k, k < N → f k (st k) = some (.next (st (k + 1)))) : ∀ m k, k + m = N → forO f m k (st k) = some (.inl (st N))
  | 0, k, e => by simp at e; subst e; rfl
  | m + 1, k, e => by
    rw [forO, h k (by omega)]
    exact forO_at st h m (k + 1) (by omega)
theorem forO_st (st : Nat → S) {s0 : S} (h0 : s0 = st 0) (h : ∀ k, k < N → f k (st k) = some (.next (st (k + 1)))) : forO f N 0 s0 = some (.inl (st N)) := by
  rw [h0]; exact forO_at st h N 0 (by omega)
theorem forO_upto (st : Nat → S) (K : Nat) (hK : K < N) (h : ∀ k, k < K → f k (st k) = some (.next (st (k + 1)))) : ∀ m k, k + m = N → k ≤ K → forO f m k (st k) = forO f (N - K) K (st K)
  | 0, k, e, hk => by omega
  | m + 1, k, e, hk => by
    rcases Nat.lt_or_ge k K with hlt | hge
    · rw [forO, h k hlt]
      exact forO_upto st K hK h m (k + 1) (by omega) (by omega)
    · have : k = K := by omega
      subst this
      rw [show N - k = m + 1 by omega]
theorem forO_retAt (st : Nat → S) {s0 : S} (h0 : s0 = st 0) (K : Nat) (hK : K < N) (h : ∀ k, k < K → f k (st k) = some (.next (st (k + 1)))) {c : C} (hr : f K (st K) = some (.ret c)) : forO f N 0 s0 = some (.inr c) := by
  rw [h0, forO_upto st K hK h N 0 (by omega) (by omega), show N - K = (N - K - 1) + 1 by omega, forO, hr]; rfl
theorem forO_brkAt (st : Nat → S) {s0 : S} (h0 : s0 = st 0) (K : Nat) (hK : K < N) (h : ∀ k, k < K → f k (st k) = some (.next (st (k + 1)))) {s' : S} (hr : f K (st K) = some (.brk s')) : forO f N 0 s0 = some (.inl s') := by
  rw [h0, forO_upto st K hK h N 0 (by omega) (by omega), show N - K = (N - K - 1) + 1 by omega, forO, hr]; rfl
/-- A loop that looks for the first place where p fails. -/
theorem forO_all (p : Nat → Bool) {s : S} {c : C} (h : ∀ k, k < N → f k s = some (bif p k then .next s else .ret c)) : forO f N 0 s = some (bif (List.range N).all p then .inl s else .inr c) := by
  cases ha : (List.range N).all p with
  | true =>
    rw [List.all_eq_true] at ha
    exact forO_st (fun _ => s) rfl fun k hk => by rw [h k hk, ha k (by simpa using hk)]; rfl
  | false =>
    have : ∃ k, k < N ∧ p k = false := by
      rw [List.all_eq_false] at ha
      obtain ⟨k, hk, hp⟩ := ha
      exact ⟨k, by simpa using hk, by simpa using hp⟩
    have hmin : ∃ k, k < N ∧ p k = false ∧ ∀ j, j < k → p j = true := by
      obtain ⟨k, hk, hp⟩ := this
      induction k using Nat.strongRecOn with
      | _ k ih =>
        by_cases hx : ∃ j, j < k ∧ p j = false
        · obtain ⟨j, hj, hpj⟩ := hx
          exact ih j hj (by omega) hpj
        · refine ⟨k, hk, hp, fun j hj => ?_⟩
          cases hpj : p j with
          | true => rfl
          | false => exact absurd ⟨j, hj, hpj⟩ hx
    obtain ⟨k, hk, hp, hall⟩ := hmin
    exact forO_retAt (fun _ => s) rfl k hk (fun j hj => by rw [h j (by omega), hall j hj]; rfl) (by rw [h k hk, hp]; rfl)
/-- A loop that returns at the first place where p holds. -/
theorem forO_find (p : Nat → Bool) {s : S} (c : Nat → C) (h : ∀ k, k < N → f k s = some (bif p k then .ret (c k) else .next s)) : forO f N 0 s = some (match (List.range N).find? p with | some k => .inr (c k) | none => .inl s) := by
  cases ha : (List.range N).find? p with
  | none =>
    rw [List.find?_eq_none] at ha
    exact forO_st (fun _ => s) rfl fun k hk => by
      rw [h k hk]
      have := ha k (by simpa using hk)
      simp at this
      rw [this]; rfl
  | some K =>
    have hp := List.find?_some ha
    have hK : K < N := by simpa using List.mem_of_find?_eq_some ha
    refine forO_retAt (fun _ => s) rfl K hK (fun j hj => ?_) (by rw [h K hK, hp]; rfl)
    rw [h j (by omega)]
    have : p j = false := by
      rw [List.find?_range_eq_some] at ha
      simpa using ha.2.2 j hj
    rw [this]; rfl
end
section
variable {S : Type} {f : Nat → S → Option (Res S Empty)} {N : Nat}
theorem lpO_st (st : Nat → S) {s0 : S} (h0 : s0 = st 0) (h : ∀ k, k < N → f k (st k) = some (.next (st (k + 1)))) : lpO f N s0 = some (st N) := by
  unfold lpO; rw [forO_st st h0 h]; rfl
/-- A state that each round turns by g. -/
def fold {S : Type} (g : Nat → S → S) (s0 : S) : Nat → S
  | 0 => s0
  | n + 1 => g n (fold g s0 n)
theorem lpO_fold (g : Nat → S → S) {s0 : S} (h : ∀ k, k < N → f k (fold g s0 k) = some (.next (g k (fold g s0 k)))) : lpO f N s0 = some (fold g s0 N) :=
  lpO_st (fold g s0) rfl h
end
section
variable {α : Type} {f : Nat → List α → Option (Res (List α) Empty)} {N : Nat}
theorem lpO_app (F : Nat → α) {xs : List α} (h : ∀ k s, k < N → s.length = xs.length + k → f k s = some (.next (s ++ [F k]))) : lpO f N xs = some (xs ++ (List.range N).map F) :=
  lpO_st (fun k => xs ++ (List.range k).map F) (by simp) fun k hk => by
    rw [h k _ hk (by simp)]
    simp [List.range_succ]
theorem lpO_filter (p : Nat → Bool) (F : Nat → α) {xs : List α} (h : ∀ k s, k < N → s.length ≤ xs.length + k → f k s = some (.next (bif p k then s ++ [F k] else s))) : lpO f N xs = some (xs ++ ((List.range N).filter p).map F) :=
  lpO_st (fun k => xs ++ ((List.range k).filter p).map F) (by simp) fun k hk => by
    rw [h k _ hk (by
      have := List.length_filter_le p (List.range k)
      simp at this ⊢; omega)]
    cases hp : p k <;> simp [List.range_succ, List.filter_append, hp]
theorem lpO_cat (F : Nat → List α) {xs : List α} (h : ∀ k s, k < N → s = xs ++ (List.range k).flatMap F → f k s = some (.next (s ++ F k))) : lpO f N xs = some (xs ++ (List.range N).flatMap F) :=
  lpO_st (fun k => xs ++ (List.range k).flatMap F) (by simp) fun k hk => by
    rw [h k _ hk rfl]
    simp [List.range_succ]
end
theorem map_gx {α β : Type} [Rep α] (F : α → β) (xs : List α) : (List.range xs.length).map (fun k => F (gx xs k)) = xs.map F := by
  apply List.ext_getElem
  · simp
  · intro i h1 h2
    simp at h1
    simp [gx, List.getD, h1]
theorem all_gx {α : Type} [Rep α] (F : α → Bool) (xs : List α) : (List.range xs.length).all (fun k => F (gx xs k)) = xs.all F := by
  have := map_gx F xs
  calc (List.range xs.length).all (fun k => F (gx xs k)) = ((List.range xs.length).map (fun k => F (gx xs k))).all id := by simp [List.all_map]
    _ = xs.all F := by rw [this]; simp [List.all_map]
theorem gx_lt {α : Type} [Rep α] {xs : List α} {k : Nat} (h : k < xs.length) : gx xs k = xs[k] := by simp [gx, List.getD, h]
theorem gx_mem {α : Type} [Rep α] {xs : List α} {k : Nat} (h : k < xs.length) : gx xs k ∈ xs := by rw [gx_lt h]; exact List.getElem_mem h
theorem wr_of {n : Int} (h1 : -4611686018427387904 ≤ n) (h2 : n ≤ 4611686018427387904) : wr n = n := wr_id (by omega) (by omega)

/-- What is small enough for all bounds. -/
class Sm (α : Type) where
  ok : α → Prop
instance : Sm Int := ⟨fun _ => True⟩
instance : Sm Bool := ⟨fun _ => True⟩
instance : Sm Str := ⟨fun s => s.b.length ≤ 1048576⟩
instance (α : Type) [Sm α] : Sm (List α) := ⟨fun xs => xs.length ≤ 1048576 ∧ ∀ x ∈ xs, Sm.ok x⟩
theorem sm_len {α : Type} [Sm α] {xs : List α} (h : Sm.ok xs) : xs.length ≤ 1048576 := h.1
theorem sm_gx {α : Type} [Sm α] [Rep α] {xs : List α} (h : Sm.ok xs) {k : Nat} (hk : k < xs.length) : Sm.ok (gx xs k) := h.2 _ (gx_mem hk)
theorem sm_ints {xs : List Int} (h : xs.length ≤ 1048576) : Sm.ok xs := ⟨h, fun _ _ => trivial⟩

theorem gx_set_ne {α : Type} [Rep α] {xs : List α} {k j : Nat} {e : α} (h : j ≠ k) : gx (xs.set k e) j = gx xs j := by
  simp [gx, List.getD, List.getElem?_set_ne (Ne.symm h)]
theorem gx_ext {α : Type} [Rep α] {xs ys : List α} (hl : xs.length = ys.length) (h : ∀ k, k < xs.length → gx xs k = gx ys k) : xs = ys := by
  apply List.ext_getElem hl
  intro i h1 h2
  have := h i h1
  rwa [gx_lt h1, gx_lt h2] at this

theorem to_list {α : Type} [Rep α] {f : Nat → List α → Option (Res (List α) Empty)} (a : List α) (z : α) (h : ∀ k s, k < a.length → s.length = a.length → f k s = some (.next (s.set k (gx a k)))) : lpO f a.length (List.replicate a.length z) = some a := by
  have := lpO_st (f := f) (N := a.length) (fun k => a.take k ++ List.replicate (a.length - k) z) (s0 := List.replicate a.length z) (by simp) fun k hk => by
    rw [h k _ hk (by simp; omega)]
    congr 2
    apply List.ext_getElem
    · simp; omega
    · intro i h1 h2
      rw [List.getElem_set]
      split
      · rename_i e; subst e
        rw [gx_lt hk, List.getElem_append_left (by simp; omega)]
        simp
      · rename_i hne
        rcases Nat.lt_or_ge i k with hi | hi
        · rw [List.getElem_append_left (by simp; omega), List.getElem_append_left (by simp; omega)]; simp
        · rw [List.getElem_append_right (by simp; omega), List.getElem_append_right (by simp; omega)]; simp
  simpa using this
theorem all_next {C : Type} {f : Nat → Unit → Option (Res Unit C)} {N : Nat} (h : ∀ k, k < N → f k () = some (.next ())) : forO f N 0 () = some (.inl ()) := forO_st (fun _ => ()) rfl h

theorem mark_list {α : Type} [Rep α] {f : Nat → List α × Int → Option (Res (List α × Int) Empty)} (a : List α) (j0 B M : Int) (R : α → Int → Int → Prop) (hB : 0 ≤ B) (hM : j0 + B * a.length ≤ M)
    (h : ∀ k s j, k < a.length → s.length = a.length → gx s k = gx a k → j0 ≤ j → j + B ≤ M → ∃ e j', f k (s, j) = some (.next (s.set k e, j')) ∧ j ≤ j' ∧ j' ≤ j + B ∧ R e j j') :
    ∃ (a' : List α) (js : Nat → Int), lpO f a.length (a, j0) = some (a', js a.length) ∧ a'.length = a.length ∧ js 0 = j0 ∧ j0 ≤ js a.length ∧ js a.length ≤ j0 + B * a.length ∧ ∀ k, k < a.length → R (gx a' k) (js k) (js (k + 1)) ∧ j0 ≤ js k := by
  have key : ∀ m k (s : List α) (j : Int), k + m = a.length → s.length = a.length → (∀ i, k ≤ i → i < a.length → gx s i = gx a i) → j0 ≤ j → j ≤ j0 + B * k →
      ∃ (a' : List α) (js : Nat → Int), forO f m k (s, j) = some (.inl (a', js a.length)) ∧ a'.length = a.length ∧ js k = j ∧ j ≤ js a.length ∧ js a.length ≤ j0 + B * a.length ∧ (∀ i, i < k → gx a' i = gx s i) ∧ ∀ i, k ≤ i → i < a.length → R (gx a' i) (js i) (js (i + 1)) ∧ j ≤ js i := by
    intro m
    induction m with
    | zero =>
      intro k s j hk hl _ h0 h1
      have e : k = a.length := by omega
      subst e
      exact ⟨s, fun _ => j, rfl, hl, rfl, Int.le_refl _, h1, fun _ _ => rfl, fun i h1 h2 => by omega⟩
    | succ m ih =>
      intro k s j hk hl hs h0 h1
      have hle : B * (k : Int) + B ≤ B * a.length := by
        have : (k : Int) + 1 ≤ a.length := by omega
        have := Int.mul_le_mul_of_nonneg_left this hB
        rw [Int.mul_add, Int.mul_one] at this
        exact this
      obtain ⟨e, j', hf, g1, g2, hR⟩ := h k s j (by omega) hl (hs k (Nat.le_refl _) (by omega)) h0 (by omega)
      obtain ⟨a', js, i1, i2, i3, i3', i4, i5, i6⟩ := ih (k + 1) (s.set k e) j' (by omega) (by simpa using hl) (fun i h1 h2 => by rw [gx_set_ne (by omega)]; exact hs i (by omega) h2) (by omega) (by
        have e1 : B * ((k + 1 : Nat) : Int) = B * k + B := by rw [Int.natCast_add, Int.mul_add]; simp
        rw [e1]; omega)
      refine ⟨a', fun i => if i = k then j else js i, ?_, i2, by simp, ?_, ?_, fun i hi => ?_, fun i h1 h2 => ?_⟩
      · rw [forO, hf]
        have hne : a.length ≠ k := by omega
        simp only [Option.bind_some, hne, if_false]
        exact i1
      · have hne : a.length ≠ k := by omega
        simp only [hne, if_false]
        omega
      · have hne : a.length ≠ k := by omega
        simp only [hne, if_false]
        exact i4
      · rw [i5 i (by omega), gx_set_ne (by omega)]
      · rcases Nat.eq_or_lt_of_le h1 with e1 | e1
        · subst e1
          have hne : k + 1 ≠ k := by omega
          simp only [if_true, hne, if_false]
          rw [i3, i5 k (by omega), gx_set (by omega)]
          exact ⟨hR, Int.le_refl _⟩
        · have n1 : i ≠ k := by omega
          have n2 : i + 1 ≠ k := by omega
          simp only [n1, n2, if_false]
          obtain ⟨q1, q2⟩ := i6 i (by omega) h2
          exact ⟨q1, by omega⟩
  obtain ⟨a', js, i1, i2, i3, i3', i4, _, i6⟩ := key a.length 0 a j0 (by omega) rfl (fun _ _ _ => rfl) (Int.le_refl _) (by simp)
  refine ⟨a', js, ?_, i2, i3, i3', i4, fun k hk => i6 k (Nat.zero_le _) hk⟩
  unfold lpO
  rw [i1]; rfl
theorem held_list {C : Type} {f : Nat → Int → Option (Res Int C)} {N : Nat} (js : Nat → Int) {j0 : Int} (h0 : js 0 = j0) (h : ∀ k, k < N → f k (js k) = some (.next (js (k + 1)))) : forO f N 0 j0 = some (.inl (js N)) := forO_st js h0.symm h
/-- Sizes: each round takes off what an element has, or ends. -/
theorem size_list {f : Nat → Int → Option (Res Int Int)} {N : Nat} (P : Nat → Prop) (l : Int) (h : ∀ k j, k < N → 0 ≤ j → j ≤ l → (f k j = some (.ret (-1))) ∨ ∃ j', f k j = some (.next j') ∧ 0 ≤ j' ∧ j' ≤ j ∧ P k) (hl : 0 ≤ l) :
    forO f N 0 l = some (.inr (-1)) ∨ ∃ j, forO f N 0 l = some (.inl j) ∧ 0 ≤ j ∧ j ≤ l ∧ ∀ k, k < N → P k := by
  have key : ∀ m k j, k + m = N → 0 ≤ j → j ≤ l → (∀ i, i < k → P i) → forO f m k j = some (.inr (-1)) ∨ ∃ j', forO f m k j = some (.inl j') ∧ 0 ≤ j' ∧ j' ≤ l ∧ ∀ i, i < N → P i := by
    intro m
    induction m with
    | zero => intro k j hk h0 h1 hP; exact .inr ⟨j, rfl, h0, h1, fun i hi => hP i (by omega)⟩
    | succ m ih =>
      intro k j hk h0 h1 hP
      rcases h k j (by omega) h0 h1 with hr | ⟨j', hr, g1, g2, g3⟩
      · left; rw [forO, hr]; rfl
      · rw [forO, hr]
        exact ih (k + 1) j' (by omega) g1 (by omega) (fun i hi => by
          rcases Nat.lt_or_ge i k with h | h
          · exact hP i h
          · have : i = k := by omega
            subst this; exact g3)
  exact key N 0 l (by omega) hl (Int.le_refl _) (fun i hi => by omega)
theorem all_of_gx {α : Type} [Rep α] {xs : List α} {P : α → Prop} (h : ∀ k, k < xs.length → P (gx xs k)) : ∀ x ∈ xs, P x := fun x hx => by
  obtain ⟨i, hi, rfl⟩ := List.getElem_of_mem hx
  have := h i hi
  rwa [gx_lt hi] at this

-- type GCell
instance : Sm GCell := ⟨fun _ => True⟩

@[simp] theorem to_Cell (a : GCell) : laws_toCell a = some a := by cases a; rfl

@[simp] theorem eq_Cell (a : GCell) : laws_eqCell a a = some true := by simp [laws_eqCell]

theorem to_CellS (a : List GCell) (hs : Sm.ok a) : laws_toCellS a = some a := by
  have hl := sm_len hs
  unfold laws_toCellS
  rw [gd_pos (by omega), gd_pos (by omega), to_list (f := laws_toCellS_L1 a) a _ (fun k s hk hl' => by
    simp only [laws_toCellS_L1, to_Cell, Option.bind_some]
    rw [gd_pos (by omega)])]
  rfl

theorem eq_CellS (a : List GCell) (hs : Sm.ok a) : laws_eqCellS a a = some true := by
  have hl := sm_len hs
  unfold laws_eqCellS
  simp only [bne_self_eq_false, cond_false]
  rw [gd_pos (by omega), all_next (f := laws_eqCellS_L1 a a) (fun k hk => by
    simp only [laws_eqCellS_L1, eq_Cell (gx a k), Option.bind_some]
    rw [gd_pos hk]; rfl)]
  rfl

theorem sz_CellS (a : List GCell) (l : Int) (h0 : 0 ≤ l) (h1 : l ≤ 1048576) (hf : a.length ≤ maxLen) : ∃ r, laws_szCellS a l = some r ∧ (r < 0 ∨ (Sm.ok a ∧ 0 ≤ r ∧ r ≤ l)) := by
  unfold maxLen at hf
  have e : wr (l - (a.length : Int)) = l - (a.length : Int) := wr_id (by omega) (by omega)
  unfold laws_szCellS
  rw [e]
  by_cases h : l - (a.length : Int) < 0
  · exact ⟨-1, by simp [h], .inl (by omega)⟩
  · exact ⟨l - (a.length : Int), by simp [h], .inr ⟨⟨by omega, fun _ _ => trivial⟩, by omega, by omega⟩⟩

-- type GBlock
instance : Sm GBlock := ⟨fun x => Sm.ok x.Cells⟩

theorem to_Block (a : GBlock) (hs : Sm.ok a) : laws_toBlock a = some a := by simp only [laws_toBlock, to_CellS a.Cells hs, Option.bind_some]

theorem eq_Block (a : GBlock) (hs : Sm.ok a) : laws_eqBlock a a = some true := by simp only [laws_eqBlock, bne_self_eq_false, cond_false, Option.bind_some, Bool.not_true, eq_CellS a.Cells hs]

theorem sz_Block (a : GBlock) (l : Int) (h0 : 0 ≤ l) (h1 : l ≤ 1048576) (hf : Fit.ok a) : ∃ r, laws_szBlock a l = some r ∧ (r < 0 ∨ (Sm.ok a ∧ 0 ≤ r ∧ r ≤ l)) := by
  obtain ⟨f0, f1⟩ := hf
  unfold laws_szBlock
  obtain ⟨r0, hr0, hc0⟩ := sz_CellS a.Cells l (by omega) (by omega) f1.1
  rcases hc0 with hc0 | ⟨s0, u0, w0⟩
  · exact ⟨-1, by simp [hr0, hc0], .inl (by omega)⟩
  have p0 : ¬ r0 < 0 := by omega
  exact ⟨r0, by simp [hr0, p0], .inr ⟨s0, by omega, by omega⟩⟩

def inR (x a b : Int) : Bool := decide (x ≥ a) && decide (x ≤ b)
theorem inR_iff {x a b : Int} : inR x a b = true ↔ a ≤ x ∧ x ≤ b := by simp [inR]
theorem inR_not {x a b : Int} : inR x a b = false ↔ ¬(a ≤ x ∧ x ≤ b) := by rw [← inR_iff]; simp

@[simp] theorem l01In_eq (x a b : Int) : spec_l01In x a b = some (inR x a b) := rfl

@[simp] theorem within_eq (x a b : Int) : impl_within x a b = some (inR x a b) := rfl

@[simp] theorem isColor_eq (a : Int) : impl_isColor a = some (inR a 0 5) := rfl

def CellOkM (c : GCell) : Bool := inR c.Split 0 2 && inR c.A 0 5 && inR c.B 0 5 && ((c.Split == 0) == (c.A == c.B))

@[simp] theorem spec_CellOk_eq (c : GCell) : spec_CellOk c = some (CellOkM c) := by
  unfold spec_CellOk CellOkM
  simp only [l01In_eq, Option.bind_some]
  cases inR c.Split 0 2 <;> cases inR c.A 0 5 <;> cases inR c.B 0 5 <;> simp

@[simp] theorem impl_CellOk_eq (c : GCell) : impl_CellOk c = some (CellOkM c) := by
  unfold impl_CellOk CellOkM
  simp only [within_eq, isColor_eq, Option.bind_some]
  cases inR c.Split 0 2 <;> cases inR c.A 0 5 <;> cases inR c.B 0 5 <;> simp

theorem cellOk_spec {c : GCell} (h : CellOkM c = true) : 0 ≤ c.Split ∧ c.Split ≤ 2 ∧ 0 ≤ c.A ∧ c.A ≤ 5 ∧ 0 ≤ c.B ∧ c.B ≤ 5 ∧ (c.Split = 0 ↔ c.A = c.B) := by
  simp only [CellOkM, Bool.and_eq_true, inR_iff, beq_iff_eq] at h
  obtain ⟨⟨⟨⟨h1, h2⟩, h3, h4⟩, h5, h6⟩, h7⟩ := h
  refine ⟨h1, h2, h3, h4, h5, h6, ?_⟩
  have e1 : (c.Split == 0) = decide (c.Split = 0) := by cases h : c.Split == 0 <;> simp_all
  have e2 : (c.A == c.B) = decide (c.A = c.B) := by cases h : c.A == c.B <;> simp_all
  rw [e1, e2] at h7
  constructor
  · intro h; simp [h] at h7; exact h7
  · intro h; simp [h] at h7; exact h7
theorem cellOk_of {c : GCell} (h1 : 0 ≤ c.Split) (h2 : c.Split ≤ 2) (h3 : 0 ≤ c.A) (h4 : c.A ≤ 5) (h5 : 0 ≤ c.B) (h6 : c.B ≤ 5) (h7 : c.Split = 0 ↔ c.A = c.B) : CellOkM c = true := by
  have e1 : inR c.Split 0 2 = true := inR_iff.2 ⟨h1, h2⟩
  have e2 : inR c.A 0 5 = true := inR_iff.2 ⟨h3, h4⟩
  have e3 : inR c.B 0 5 = true := inR_iff.2 ⟨h5, h6⟩
  unfold CellOkM
  rw [e1, e2, e3]
  by_cases h : c.Split = 0
  · have := h7.1 h; simp [h, this]
  · have : ¬ c.A = c.B := fun e => h (h7.2 e)
    have q1 : (c.Split == 0) = false := beq_eq_false_iff_ne.2 h
    have q2 : (c.A == c.B) = false := beq_eq_false_iff_ne.2 this
    rw [q1, q2]; rfl

def WholeCellM (a : Int) : GCell := bif inR a 0 5 then ⟨0, a, a⟩ else ⟨0, 0, 0⟩

@[simp] theorem spec_WholeCell_eq (a : Int) : spec_WholeCell a = some (WholeCellM a) := by
  unfold spec_WholeCell WholeCellM
  simp only [l01In_eq, Option.bind_some]
  cases inR a 0 5 <;> rfl

@[simp] theorem impl_WholeCell_eq (a : Int) : impl_WholeCell a = some (WholeCellM a) := by
  unfold impl_WholeCell WholeCellM
  simp only [isColor_eq, Option.bind_some]
  cases inR a 0 5 <;> rfl

def SplitCellM (s a b : Int) : GCell := bif a == b then WholeCellM a else bif CellOkM ⟨s, a, b⟩ then ⟨s, a, b⟩ else ⟨0, 0, 0⟩

@[simp] theorem spec_SplitCell_eq (s a b : Int) : spec_SplitCell s a b = some (SplitCellM s a b) := by
  unfold spec_SplitCell SplitCellM
  simp only [spec_WholeCell_eq, spec_CellOk_eq, Option.bind_some]
  cases a == b <;> cases CellOkM ⟨s, a, b⟩ <;> rfl

@[simp] theorem impl_SplitCell_eq (s a b : Int) : impl_SplitCell s a b = some (SplitCellM s a b) := by
  unfold impl_SplitCell SplitCellM
  simp only [impl_WholeCell_eq, impl_CellOk_eq, Option.bind_some]
  cases a == b <;> cases CellOkM ⟨s, a, b⟩ <;> rfl

/-- Row by row. -/
def cellsM {α : Type} (h w : Nat) (F : Nat → Nat → α) : List α := (List.range h).flatMap fun y => (List.range w).map fun x => F y x
theorem cellsM_length {α : Type} (h w : Nat) (F : Nat → Nat → α) : (cellsM h w F).length = h * w := by
  induction h with
  | zero => simp [cellsM]
  | succ h ih =>
    unfold cellsM at ih ⊢
    rw [List.range_succ, List.flatMap_append, List.length_append, ih]
    simp [Nat.add_mul]
theorem cellsM_succ {α : Type} (h w : Nat) (F : Nat → Nat → α) : cellsM (h + 1) w F = cellsM h w F ++ (List.range w).map fun x => F h x := by
  simp [cellsM, List.range_succ]
theorem cellsM_gx {α : Type} [Rep α] {h w : Nat} {F : Nat → Nat → α} {y x : Nat} (hy : y < h) (hx : x < w) : gx (cellsM h w F) (y * w + x) = F y x := by
  induction h with
  | zero => omega
  | succ h ih =>
    rw [cellsM_succ]
    rcases Nat.lt_or_ge y h with hlt | hge
    · have hl : y * w + x < h * w := by
        have := Nat.mul_le_mul_right w (show y + 1 ≤ h from hlt)
        rw [Nat.add_mul] at this; omega
      have := ih hlt
      unfold gx List.getD at this ⊢
      rw [List.getElem?_append_left (by rw [cellsM_length]; exact hl)]
      exact this
    · have e : y = h := by omega
      subst e
      unfold gx List.getD
      rw [List.getElem?_append_right (by rw [cellsM_length]; omega), cellsM_length]
      simp [hx]
theorem cellsM_all {α : Type} {h w : Nat} {F : Nat → Nat → α} {P : α → Prop} (hF : ∀ y x, y < h → x < w → P (F y x)) : ∀ c ∈ cellsM h w F, P c := by
  intro c hc
  simp only [cellsM, List.mem_flatMap, List.mem_map, List.mem_range] at hc
  obtain ⟨y, hy, x, hx, rfl⟩ := hc
  exact hF y x hy hx
theorem loop2 {α : Type} {f1 : Nat → List α → Option (Res (List α) Empty)} {f2 : Nat → Nat → List α → Option (Res (List α) Empty)} {h w : Nat} (F : Nat → Nat → α) (h1 : ∀ k s, f1 k s = (lpO (f2 k) w s).bind fun e => some (.next e))
    (h2 : ∀ k1 k2 s, k1 < h → k2 < w → s.length < h * w → f2 k1 k2 s = some (.next (s ++ [F k1 k2]))) : lpO f1 h [] = some (cellsM h w F) := by
  refine (lpO_cat (xs := []) (fun y => (List.range w).map fun x => F y x) fun k s hk hs => ?_).trans (by simp [cellsM])
  have hl : s.length = k * w := by
    rw [hs, List.nil_append]; exact cellsM_length k w F
  rw [h1, lpO_app (xs := s) (fun x => F k x) fun k2 s2 hk2 hs2 => h2 k k2 s2 hk hk2 (by
    have := Nat.mul_le_mul_right w (show k + 1 ≤ h from hk)
    rw [Nat.add_mul] at this; omega)]
  rfl

theorem made_eq (n : Nat) (one : Int → Int → Option GCell) (F : Nat → Nat → GCell) (hn : n ≤ 1000) (h : ∀ y x : Nat, y < n → x < n → one (x : Int) (y : Int) = some (F y x)) : impl_made (n : Int) one = some ⟨n, cellsM n n F⟩ := by
  unfold impl_made
  have hN : ((n : Int)).toNat = n := by simp
  rw [hN, gd_pos (by omega), loop2 (f1 := impl_made_L1 n one) (f2 := impl_made_L2 one) (h := n) (w := n) F (fun k s => by simp only [impl_made_L1, hN]) (fun k1 k2 s h1 h2 h3 => by
    have : n * n ≤ 1000 * 1000 := Nat.mul_le_mul hn hn
    simp only [impl_made_L2, h k1 k2 h1 h2, Option.bind_some]
    rw [gd_pos (by omega)])]
  rfl

def BlockOkM (b : GBlock) : Bool := inR b.Size 1 4 && ((b.Cells.length : Int) == b.Size * b.Size) && b.Cells.all CellOkM
theorem size_cases {n : Int} (h : inR n 1 4 = true) : n = 1 ∨ n = 2 ∨ n = 3 ∨ n = 4 := by
  rw [inR_iff] at h; omega

@[simp] theorem spec_BlockOk_eq (b : GBlock) : spec_BlockOk b = some (BlockOkM b) := by
  unfold spec_BlockOk BlockOkM
  simp only [l01In_eq, Option.bind_some]
  cases h : inR b.Size 1 4
  · rfl
  · have hw : wr (b.Size * b.Size) = b.Size * b.Size := by rcases size_cases h with e | e | e | e <;> rw [e] <;> decide
    rw [hw]
    cases hl : ((b.Cells.length : Int) == b.Size * b.Size)
    · have : (((b.Cells.length : Nat) : Int) != b.Size * b.Size) = true := by simp [bne, hl]
      simp [this]
    · have hl' : (b.Cells.length : Int) = b.Size * b.Size := by simpa using hl
      have : (((b.Cells.length : Nat) : Int) != b.Size * b.Size) = false := by simp [bne, hl]
      simp only [this, Bool.not_true, cond_false, Option.bind_some]
      rw [gd_pos (by rcases size_cases h with e | e | e | e <;> rw [e] at hl' <;> omega), forO_all (f := spec_BlockOk_L1 b) (fun k => CellOkM (gx b.Cells k)) (fun k hk => by
        simp only [spec_BlockOk_L1, spec_CellOk_eq, Option.bind_some]; cases CellOkM (gx b.Cells k) <;> rfl), all_gx]
      cases b.Cells.all CellOkM <;> rfl

@[simp] theorem impl_BlockOk_eq (b : GBlock) : impl_BlockOk b = some (BlockOkM b) := by
  unfold impl_BlockOk BlockOkM
  simp only [within_eq, Option.bind_some]
  cases h : inR b.Size 1 4
  · rfl
  · have hw : wr (b.Size * b.Size) = b.Size * b.Size := by rcases size_cases h with e | e | e | e <;> rw [e] <;> decide
    rw [hw]
    cases hl : ((b.Cells.length : Int) == b.Size * b.Size)
    · have : (((b.Cells.length : Nat) : Int) != b.Size * b.Size) = true := by simp [bne, hl]
      simp [this]
    · have hl' : (b.Cells.length : Int) = b.Size * b.Size := by simpa using hl
      have : (((b.Cells.length : Nat) : Int) != b.Size * b.Size) = false := by simp [bne, hl]
      simp only [this, Bool.not_true, cond_false, Option.bind_some]
      rw [gd_pos (by rcases size_cases h with e | e | e | e <;> rw [e] at hl' <;> omega), forO_all (f := impl_BlockOk_L1 b) (fun k => CellOkM (gx b.Cells k)) (fun k hk => by
        simp only [impl_BlockOk_L1, impl_CellOk_eq, Option.bind_some]; cases CellOkM (gx b.Cells k) <;> rfl), all_gx]
      cases b.Cells.all CellOkM <;> rfl

/-- A valid block: its side as a number, and its cells. -/
theorem blockOk_spec {b : GBlock} (h : BlockOkM b = true) : ∃ n : Nat, b.Size = n ∧ 1 ≤ n ∧ n ≤ 4 ∧ b.Cells.length = n * n ∧ ∀ c ∈ b.Cells, CellOkM c = true := by
  simp only [BlockOkM, Bool.and_eq_true, beq_iff_eq, List.all_eq_true] at h
  obtain ⟨⟨h1, h2⟩, h3⟩ := h
  rcases size_cases h1 with e | e | e | e <;> rw [e] at h2
  · exact ⟨1, e, by omega, by omega, by omega, h3⟩
  · exact ⟨2, e, by omega, by omega, by omega, h3⟩
  · exact ⟨3, e, by omega, by omega, by omega, h3⟩
  · exact ⟨4, e, by omega, by omega, by omega, h3⟩
theorem blockOk_of {n : Nat} {cs : List GCell} (h1 : 1 ≤ n) (h2 : n ≤ 4) (hl : cs.length = n * n) (hc : ∀ c ∈ cs, CellOkM c = true) : BlockOkM ⟨n, cs⟩ = true := by
  simp only [BlockOkM, Bool.and_eq_true, beq_iff_eq, List.all_eq_true]
  exact ⟨⟨inR_iff.2 ⟨by omega, by omega⟩, by rw [hl]; simp⟩, hc⟩
theorem blockOk_sm {b : GBlock} (h : BlockOkM b = true) : Sm.ok b := by
  obtain ⟨n, _, h1, h2, hl, _⟩ := blockOk_spec h
  have : n * n ≤ 4 * 4 := Nat.mul_le_mul h2 h2
  exact ⟨by omega, fun _ _ => trivial⟩
theorem zero_sm : Sm.ok (⟨0, []⟩ : GBlock) := ⟨by simp, fun _ h => by simp at h⟩

def TurnCellM (c : GCell) : GCell := bif CellOkM c then (bif c.Split == 1 then ⟨2, c.B, c.A⟩ else bif c.Split == 2 then ⟨1, c.A, c.B⟩ else c) else ⟨0, 0, 0⟩
theorem turnCell_ok {c : GCell} (h : CellOkM c = true) : CellOkM (TurnCellM c) = true := by
  obtain ⟨h1, h2, h3, h4, h5, h6, h7⟩ := cellOk_spec h
  unfold TurnCellM
  rw [h]
  by_cases e1 : c.Split = 1
  · simp only [e1, beq_self_eq_true, cond_true]
    exact cellOk_of (show (0 : Int) ≤ 2 by decide) (show (2 : Int) ≤ 2 by decide) h5 h6 h3 h4 ⟨fun h => by simp at h, fun h => by have := h7.2 h.symm; omega⟩
  · by_cases e2 : c.Split = 2
    · have : (c.Split == 1) = false := by simp [e1]
      simp only [e2, cond_true, cond_false, beq_self_eq_true, show ((2 : Int) == 1) = false from rfl]
      exact cellOk_of (show (0 : Int) ≤ 1 by decide) (show (1 : Int) ≤ 2 by decide) h3 h4 h5 h6 ⟨fun h => by simp at h, fun h => by have := h7.2 h; omega⟩
    · rw [beq_eq_false_iff_ne.2 e1, beq_eq_false_iff_ne.2 e2]; exact h

@[simp] theorem spec_TurnCell_eq (c : GCell) : spec_TurnCell c = some (TurnCellM c) := by
  unfold spec_TurnCell TurnCellM
  simp only [spec_CellOk_eq, Option.bind_some]
  cases CellOkM c <;> cases c.Split == 1 <;> cases c.Split == 2 <;> rfl

@[simp] theorem impl_TurnCell_eq (c : GCell) : impl_TurnCell c = some (TurnCellM c) := by
  unfold impl_TurnCell TurnCellM
  simp only [impl_CellOk_eq, Option.bind_some]
  cases CellOkM c <;> cases c.Split == 1 <;> cases c.Split == 2 <;> rfl

def MirrorCellM (c : GCell) : GCell := bif CellOkM c then (bif c.Split == 0 then c else ⟨3 - c.Split, c.B, c.A⟩) else ⟨0, 0, 0⟩
theorem mirrorCell_ok {c : GCell} (h : CellOkM c = true) : CellOkM (MirrorCellM c) = true := by
  obtain ⟨h1, h2, h3, h4, h5, h6, h7⟩ := cellOk_spec h
  unfold MirrorCellM
  rw [h]
  by_cases e0 : c.Split = 0
  · simp [e0, h]
  · have : (c.Split == 0) = false := by simp [e0]
    simp only [this, cond_true, cond_false]
    exact cellOk_of (by simp only; omega) (by simp only; omega) h5 h6 h3 h4 ⟨fun h => by simp only at h; omega, fun h => absurd (h7.2 h.symm) e0⟩

@[simp] theorem spec_MirrorCell_eq (c : GCell) : spec_MirrorCell c = some (MirrorCellM c) := by
  unfold spec_MirrorCell MirrorCellM
  simp only [spec_CellOk_eq, Option.bind_some]
  cases h : CellOkM c
  · rfl
  · obtain ⟨h1, h2, _⟩ := cellOk_spec h
    rw [wr_of (by omega) (by omega)]
    cases c.Split == 0 <;> rfl

@[simp] theorem impl_MirrorCell_eq (c : GCell) : impl_MirrorCell c = some (MirrorCellM c) := by
  unfold impl_MirrorCell MirrorCellM
  simp only [impl_CellOk_eq, Option.bind_some]
  cases h : CellOkM c
  · rfl
  · obtain ⟨h1, h2, _⟩ := cellOk_spec h
    rw [wr_of (by omega) (by omega)]
    cases c.Split == 0 <;> rfl

def CellAtM (b : GBlock) (x y : Int) : GCell := bif BlockOkM b && inR x 0 (b.Size - 1) && inR y 0 (b.Size - 1) then gx b.Cells (y * b.Size + x).toNat else ⟨0, 0, 0⟩
theorem idx_lt {n y x : Nat} (hy : y < n) (hx : x < n) : y * n + x < n * n := by
  have := Nat.mul_le_mul_right n (show y + 1 ≤ n from hy)
  rw [Nat.add_mul] at this; omega
theorem idx_lt2 {h w y x : Nat} (hy : y < h) (hx : x < w) : y * w + x < h * w := by
  have := Nat.mul_le_mul_right w (show y + 1 ≤ h from hy)
  rw [Nat.add_mul] at this; omega
theorem cellAtM_nat {b : GBlock} {n x y : Nat} (h : BlockOkM b = true) (hn : b.Size = n) (hx : x < n) (hy : y < n) : CellAtM b x y = gx b.Cells (y * n + x) := by
  have e1 : inR (x : Int) 0 (b.Size - 1) = true := inR_iff.2 ⟨by omega, by omega⟩
  have e2 : inR (y : Int) 0 (b.Size - 1) = true := inR_iff.2 ⟨by omega, by omega⟩
  have e3 : ((y : Int) * b.Size + x).toNat = y * n + x := by
    rw [hn]
    have : ((y : Int) * (n : Int) + (x : Int)) = ((y * n + x : Nat) : Int) := by simp
    rw [this, Int.toNat_natCast]
  simp [CellAtM, h, e1, e2, e3]

theorem impl_isPlace_eq (b : GBlock) (x y : Int) : impl_Block_isPlace b x y = some (BlockOkM b && inR x 0 (b.Size - 1) && inR y 0 (b.Size - 1)) := by
  unfold impl_Block_isPlace
  simp only [impl_BlockOk_eq, within_eq, Option.bind_some]
  cases h : BlockOkM b
  · rfl
  · obtain ⟨n, hn, h1, h2, _⟩ := blockOk_spec h
    rw [wr_of (by omega) (by omega)]
    cases inR x 0 (b.Size - 1) <;> cases inR y 0 (b.Size - 1) <;> rfl

@[simp] theorem impl_CellAt_eq (b : GBlock) (x y : Int) : impl_CellAt b x y = some (CellAtM b x y) := by
  unfold impl_CellAt CellAtM
  simp only [impl_isPlace_eq, Option.bind_some]
  cases h : (BlockOkM b && inR x 0 (b.Size - 1) && inR y 0 (b.Size - 1))
  · rfl
  · simp only [Bool.and_eq_true, inR_iff] at h
    obtain ⟨⟨h0, hx⟩, hy⟩ := h
    obtain ⟨n, hn, h1, h2, hl, _⟩ := blockOk_spec h0
    rw [hn] at hx hy ⊢
    obtain ⟨x', rfl⟩ := Int.eq_ofNat_of_zero_le hx.1
    obtain ⟨y', rfl⟩ := Int.eq_ofNat_of_zero_le hy.1
    have hlt : y' * n + x' < n * n := idx_lt (by omega) (by omega)
    have hnn : n * n ≤ 4 * 4 := Nat.mul_le_mul h2 h2
    have hy' : y' * n ≤ n * n := by omega
    have e : wr (wr ((y' : Int) * (n : Int)) + (x' : Int)) = ((y' * n + x' : Nat) : Int) := by
      have : (y' : Int) * (n : Int) = ((y' * n : Nat) : Int) := by simp
      rw [this, wr_of (n := ((y' * n : Nat) : Int)) (by omega) (by omega), wr_of (by omega) (by omega)]; simp
    have e' : ((y' : Int) * (n : Int) + (x' : Int)) = ((y' * n + x' : Nat) : Int) := by simp
    rw [e, e', gd_pos ⟨by omega, by omega⟩]
    rfl

def TurnBlockM (b : GBlock) : GBlock := bif BlockOkM b then ⟨b.Size, cellsM b.Size.toNat b.Size.toNat fun y x => TurnCellM (gx b.Cells ((b.Size.toNat - 1 - x) * b.Size.toNat + y))⟩ else ⟨0, []⟩
theorem turnBlock_ok {b : GBlock} (h : BlockOkM b = true) : BlockOkM (TurnBlockM b) = true := by
  obtain ⟨n, hn, h1, h2, hl, hc⟩ := blockOk_spec h
  unfold TurnBlockM
  rw [h, hn]
  simp only [cond_true, Int.toNat_natCast]
  exact blockOk_of h1 h2 (cellsM_length _ _ _) (cellsM_all fun y x hy hx => turnCell_ok (hc _ (gx_mem (by rw [hl]; exact idx_lt (by omega) hy))))
theorem turnBlock_size (b : GBlock) (h : BlockOkM b = true) : (TurnBlockM b).Size = b.Size := by simp [TurnBlockM, h]
theorem idx_turn {n y x : Nat} (h1 : 1 ≤ n) (h2 : n ≤ 4) (hy : y < n) (hx : x < n) : wr ((wr ((wr ((wr ((n : Int) - 1)) - (x : Int))) * (n : Int))) + (y : Int)) = (((n - 1 - x) * n + y : Nat) : Int) := by
  have hn : n = 1 ∨ n = 2 ∨ n = 3 ∨ n = 4 := by omega
  rcases hn with rfl | rfl | rfl | rfl <;> simp (disch := omega) only [wr_of] <;> omega
theorem idx_mirror {n y x : Nat} (h1 : 1 ≤ n) (h2 : n ≤ 4) (hy : y < n) (hx : x < n) : wr ((wr ((wr ((wr ((y : Int) * (n : Int))) + (n : Int))) - 1)) - (x : Int)) = ((y * n + (n - 1 - x) : Nat) : Int) := by
  have hn : n = 1 ∨ n = 2 ∨ n = 3 ∨ n = 4 := by omega
  rcases hn with rfl | rfl | rfl | rfl <;> simp (disch := omega) only [wr_of] <;> omega

@[simp] theorem spec_TurnBlock_eq (b : GBlock) : spec_TurnBlock b = some (TurnBlockM b) := by
  unfold spec_TurnBlock TurnBlockM
  simp only [spec_BlockOk_eq, Option.bind_some]
  cases h : BlockOkM b
  · rfl
  · obtain ⟨n, hn, h1, h2, hl, hc⟩ := blockOk_spec h
    have hN : b.Size.toNat = n := by rw [hn]; simp
    have hnn : n * n ≤ 4 * 4 := Nat.mul_le_mul h2 h2
    simp only [hN, Bool.not_true, cond_false, cond_true]
    rw [gd_pos (by omega), loop2 (f1 := spec_TurnBlock_L1 b) (f2 := spec_TurnBlock_L2 b) (h := n) (w := n) (fun y x => TurnCellM (gx b.Cells ((n - 1 - x) * n + y))) (fun k s => by simp only [spec_TurnBlock_L1, hN]) (fun y x s hy hx hs => by
      have hlt : (n - 1 - x) * n + y < n * n := idx_lt (by omega) hy
      simp only [spec_TurnBlock_L2, hn, idx_turn h1 h2 hy hx, Int.toNat_natCast, spec_TurnCell_eq, Option.bind_some]
      rw [gd_pos ⟨by omega, by omega⟩, gd_pos (by omega)])]
    rfl

@[simp] theorem impl_TurnBlock_eq (b : GBlock) : impl_TurnBlock b = some (TurnBlockM b) := by
  unfold impl_TurnBlock TurnBlockM
  simp only [impl_BlockOk_eq, Option.bind_some]
  cases h : BlockOkM b
  · rfl
  · obtain ⟨n, hn, h1, h2, hl, hc⟩ := blockOk_spec h
    simp only [Bool.not_true, cond_false, cond_true, hn, Int.toNat_natCast]
    rw [made_eq n _ (fun y x => TurnCellM (gx b.Cells ((n - 1 - x) * n + y))) (by omega) (fun y x hy hx => by
      have e : wr (wr ((n : Int) - 1) - (x : Int)) = ((n - 1 - x : Nat) : Int) := by simp (disch := omega) only [wr_of]; omega
      simp only [impl_TurnBlock_c1, hn, e, impl_CellAt_eq, impl_TurnCell_eq, Option.bind_some]
      rw [cellAtM_nat h hn hy (by omega)])]
    rfl

def MirrorBlockM (b : GBlock) : GBlock := bif BlockOkM b then ⟨b.Size, cellsM b.Size.toNat b.Size.toNat fun y x => MirrorCellM (gx b.Cells (y * b.Size.toNat + (b.Size.toNat - 1 - x)))⟩ else ⟨0, []⟩
theorem mirrorBlock_ok {b : GBlock} (h : BlockOkM b = true) : BlockOkM (MirrorBlockM b) = true := by
  obtain ⟨n, hn, h1, h2, hl, hc⟩ := blockOk_spec h
  unfold MirrorBlockM
  rw [h, hn]
  simp only [cond_true, Int.toNat_natCast]
  exact blockOk_of h1 h2 (cellsM_length _ _ _) (cellsM_all fun y x hy hx => mirrorCell_ok (hc _ (gx_mem (by rw [hl]; exact idx_lt hy (by omega)))))
theorem mirrorBlock_size (b : GBlock) (h : BlockOkM b = true) : (MirrorBlockM b).Size = b.Size := by simp [MirrorBlockM, h]

@[simp] theorem spec_MirrorBlock_eq (b : GBlock) : spec_MirrorBlock b = some (MirrorBlockM b) := by
  unfold spec_MirrorBlock MirrorBlockM
  simp only [spec_BlockOk_eq, Option.bind_some]
  cases h : BlockOkM b
  · rfl
  · obtain ⟨n, hn, h1, h2, hl, hc⟩ := blockOk_spec h
    have hN : b.Size.toNat = n := by rw [hn]; simp
    have hnn : n * n ≤ 4 * 4 := Nat.mul_le_mul h2 h2
    simp only [hN, Bool.not_true, cond_false, cond_true]
    rw [gd_pos (by omega), loop2 (f1 := spec_MirrorBlock_L1 b) (f2 := spec_MirrorBlock_L2 b) (h := n) (w := n) (fun y x => MirrorCellM (gx b.Cells (y * n + (n - 1 - x)))) (fun k s => by simp only [spec_MirrorBlock_L1, hN]) (fun y x s hy hx hs => by
      have hlt : y * n + (n - 1 - x) < n * n := idx_lt hy (by omega)
      simp only [spec_MirrorBlock_L2, hn, idx_mirror h1 h2 hy hx, Int.toNat_natCast, spec_MirrorCell_eq, Option.bind_some]
      rw [gd_pos ⟨by omega, by omega⟩, gd_pos (by omega)])]
    rfl

@[simp] theorem impl_MirrorBlock_eq (b : GBlock) : impl_MirrorBlock b = some (MirrorBlockM b) := by
  unfold impl_MirrorBlock MirrorBlockM
  simp only [impl_BlockOk_eq, Option.bind_some]
  cases h : BlockOkM b
  · rfl
  · obtain ⟨n, hn, h1, h2, hl, hc⟩ := blockOk_spec h
    simp only [Bool.not_true, cond_false, cond_true, hn, Int.toNat_natCast]
    rw [made_eq n _ (fun y x => MirrorCellM (gx b.Cells (y * n + (n - 1 - x)))) (by omega) (fun y x hy hx => by
      have e : wr (wr ((n : Int) - 1) - (x : Int)) = ((n - 1 - x : Nat) : Int) := by simp (disch := omega) only [wr_of]; omega
      simp only [impl_MirrorBlock_c1, hn, e, impl_CellAt_eq, impl_MirrorCell_eq, Option.bind_some]
      rw [cellAtM_nat h hn (by omega) hy])]
    rfl

def turnsM : Nat → GBlock → GBlock
  | 0, b => b
  | k + 1, b => TurnBlockM (turnsM k b)
def SeenM (b : GBlock) (k : Int) : GBlock := bif BlockOkM b && inR k 0 7 then turnsM (k.tmod 4).toNat (bif decide (k ≥ 4) then MirrorBlockM b else b) else ⟨0, []⟩
theorem turns_ok {b : GBlock} (h : BlockOkM b = true) : ∀ k, BlockOkM (turnsM k b) = true ∧ (turnsM k b).Size = b.Size
  | 0 => ⟨h, rfl⟩
  | k + 1 => by
    obtain ⟨h1, h2⟩ := turns_ok h k
    exact ⟨turnBlock_ok h1, by rw [turnsM, turnBlock_size _ h1, h2]⟩
theorem seen_ok {b : GBlock} {k : Int} (h : BlockOkM b = true) (hk : inR k 0 7 = true) : BlockOkM (SeenM b k) = true ∧ (SeenM b k).Size = b.Size := by
  unfold SeenM
  rw [h, hk]
  cases hd : decide (k ≥ 4)
  · exact turns_ok h _
  · obtain ⟨h1, h2⟩ := turns_ok (mirrorBlock_ok h) (k.tmod 4).toNat
    exact ⟨h1, by rw [← mirrorBlock_size b h]; exact h2⟩
theorem tmod4 {k : Int} (hk : inR k 0 7 = true) : (k.tmod 4).toNat ≤ 3 := by
  rw [inR_iff] at hk
  have : k.tmod 4 = k % 4 := by rw [Int.tmod_eq_emod_of_nonneg hk.1]
  omega

@[simp] theorem spec_SeenFrom_eq (b : GBlock) (k : Int) : spec_SeenFrom b k = some (SeenM b k) := by
  unfold spec_SeenFrom SeenM
  simp only [spec_BlockOk_eq, l01In_eq, Option.bind_some]
  cases h : BlockOkM b
  · rfl
  · cases hk : inR k 0 7
    · rfl
    · have hs := (blockOk_sm h).1
      have ht := tmod4 hk
      have hc : spec_l03Copy b = some b := by
        unfold spec_l03Copy
        rw [gd_pos (by simp; omega)]; simp
      simp only [hc, spec_MirrorBlock_eq, Option.bind_some, Bool.not_true, cond_false]
      have key : ∀ b0 : GBlock, lpO spec_SeenFrom_L1 (k.tmod 4).toNat (b0.Size, b0.Cells) = some ((turnsM (k.tmod 4).toNat b0).Size, (turnsM (k.tmod 4).toNat b0).Cells) := fun b0 =>
        lpO_st (fun j => ((turnsM j b0).Size, (turnsM j b0).Cells)) rfl fun j _ => by
          simp only [spec_SeenFrom_L1, spec_TurnBlock_eq, Option.bind_some]; rfl
      cases decide (k ≥ 4) <;> simp only [cond_true, cond_false, Option.bind_some] <;> rw [gd_pos (by omega), key] <;> rfl

@[simp] theorem impl_SeenFrom_eq (b : GBlock) (k : Int) : impl_SeenFrom b k = some (SeenM b k) := by
  unfold impl_SeenFrom SeenM
  simp only [impl_BlockOk_eq, within_eq, Option.bind_some]
  cases h : BlockOkM b
  · rfl
  · cases hk : inR k 0 7
    · rfl
    · have hs := (blockOk_sm h).1
      have ht := tmod4 hk
      have hc : impl_Block_copied b = some b := by
        unfold impl_Block_copied
        rw [gd_pos (by simp; omega)]; simp
      simp only [hc, impl_MirrorBlock_eq, Option.bind_some, Bool.not_true, cond_false]
      have key : ∀ b0 : GBlock, lpO impl_SeenFrom_L1 (k.tmod 4).toNat (b0.Size, b0.Cells) = some ((turnsM (k.tmod 4).toNat b0).Size, (turnsM (k.tmod 4).toNat b0).Cells) := fun b0 =>
        lpO_st (fun j => ((turnsM j b0).Size, (turnsM j b0).Cells)) rfl fun j _ => by
          simp only [impl_SeenFrom_L1, impl_TurnBlock_eq, Option.bind_some]; rfl
      cases decide (k ≥ 4) <;> simp only [cond_true, cond_false, Option.bind_some] <;> rw [gd_pos (by omega), key] <;> rfl

theorem gx_range {α : Type} [Rep α] (F : Nat → α) {m i : Nat} (h : i < m) : gx ((List.range m).map F) i = F i := by
  rw [gx_lt (by simpa using h)]; simp

def digM (a : Int) : UInt8 := UInt8.ofNat (48 + a.toNat)
theorem digM_inj {a b : Int} (h1 : 0 ≤ a) (h2 : a ≤ 5) (h3 : 0 ≤ b) (h4 : b ≤ 5) (h : digM a = digM b) : a = b := by
  have ha : a = 0 ∨ a = 1 ∨ a = 2 ∨ a = 3 ∨ a = 4 ∨ a = 5 := by omega
  have hb : b = 0 ∨ b = 1 ∨ b = 2 ∨ b = 3 ∨ b = 4 ∨ b = 5 := by omega
  rcases ha with rfl | rfl | rfl | rfl | rfl | rfl <;> rcases hb with rfl | rfl | rfl | rfl | rfl | rfl <;> first | rfl | exact absurd h (by decide)
def cellTextM (c : GCell) : List UInt8 := bif c.Split == 1 then [digM c.A, 47, digM c.B] else bif c.Split == 2 then [digM c.A, 92, digM c.B] else [digM c.A]
theorem cellText_inj {c d : GCell} {r q : List UInt8} (hc : CellOkM c = true) (hd : CellOkM d = true) (h : (cellTextM c ++ [59]) ++ r = (cellTextM d ++ [59]) ++ q) : c = d ∧ r = q := by
  obtain ⟨c1, c2, c3, c4, c5, c6, c7⟩ := cellOk_spec hc
  obtain ⟨d1, d2, d3, d4, d5, d6, d7⟩ := cellOk_spec hd
  obtain ⟨cs, ca, cb⟩ := c
  obtain ⟨ds, da, db⟩ := d
  simp only at c1 c2 c3 c4 c5 c6 c7 d1 d2 d3 d4 d5 d6 d7
  have hcs : cs = 0 ∨ cs = 1 ∨ cs = 2 := by omega
  have hds : ds = 0 ∨ ds = 1 ∨ ds = 2 := by omega
  rcases hcs with rfl | rfl | rfl <;> rcases hds with rfl | rfl | rfl <;> simp [cellTextM] at h
  · obtain ⟨e1, e2⟩ := h
    have := digM_inj c3 c4 d3 d4 e1
    have h1 := c7.1 rfl
    have h2 := d7.1 rfl
    subst this; subst h1; subst h2
    exact ⟨rfl, e2⟩
  · obtain ⟨e1, e2, e3⟩ := h
    have := digM_inj c3 c4 d3 d4 e1
    have h2 := digM_inj c5 c6 d5 d6 e2
    subst this; subst h2
    exact ⟨rfl, e3⟩
  · obtain ⟨e1, e2, e3⟩ := h
    have := digM_inj c3 c4 d3 d4 e1
    have h2 := digM_inj c5 c6 d5 d6 e2
    subst this; subst h2
    exact ⟨rfl, e3⟩
def cellsTextM (l : List GCell) : List UInt8 := l.flatMap fun c => cellTextM c ++ [59]
theorem cellsText_inj : ∀ {l m : List GCell}, (∀ c ∈ l, CellOkM c = true) → (∀ c ∈ m, CellOkM c = true) → cellsTextM l = cellsTextM m → l = m
  | [], [], _, _, _ => rfl
  | [], d :: m, _, _, h => by simp [cellsTextM] at h
  | c :: l, [], _, _, h => by simp [cellsTextM] at h
  | c :: l, d :: m, hl, hm, h => by
    have h' : (cellTextM c ++ [59]) ++ cellsTextM l = (cellTextM d ++ [59]) ++ cellsTextM m := by simpa [cellsTextM] using h
    obtain ⟨e1, e2⟩ := cellText_inj (hl c (by simp)) (hm d (by simp)) h'
    rw [e1, cellsText_inj (fun x hx => hl x (by simp [hx])) (fun x hx => hm x (by simp [hx])) e2]
def textM (b : GBlock) : Str := ⟨bif BlockOkM b then cellsTextM b.Cells else []⟩
theorem text_inj {b d : GBlock} (hb : BlockOkM b = true) (hd : BlockOkM d = true) (h : textM b = textM d) : b = d := by
  obtain ⟨n, hn, h1, h2, hl, hc⟩ := blockOk_spec hb
  obtain ⟨m, hm, g1, g2, gl, gc⟩ := blockOk_spec hd
  have e : cellsTextM b.Cells = cellsTextM d.Cells := by
    have := congrArg Str.b h
    simpa [textM, hb, hd] using this
  have e2 := cellsText_inj hc gc e
  have e3 : n * n = m * m := by rw [← hl, ← gl, e2]
  have e4 : n = m := by
    have hn' : n = 1 ∨ n = 2 ∨ n = 3 ∨ n = 4 := by omega
    have hm' : m = 1 ∨ m = 2 ∨ m = 3 ∨ m = 4 := by omega
    rcases hn' with rfl | rfl | rfl | rfl <;> rcases hm' with rfl | rfl | rfl | rfl <;> simp_all
  obtain ⟨bs, bc⟩ := b
  obtain ⟨ds, dc⟩ := d
  simp only at hn hm e2
  rw [hn, hm, e4, e2]
theorem cellText_len (c : GCell) : (cellTextM c).length ≤ 3 := by
  unfold cellTextM
  cases c.Split == 1 <;> cases c.Split == 2 <;> simp
theorem cellsText_len (l : List GCell) : (cellsTextM l).length ≤ 4 * l.length := by
  induction l with
  | nil => simp [cellsTextM]
  | cons c l ih =>
    have := cellText_len c
    simp only [cellsTextM, List.flatMap_cons, List.length_append, List.length_cons, List.length_nil] at ih ⊢
    omega
theorem text_len {b : GBlock} : (textM b).b.length ≤ 64 := by
  unfold textM
  cases h : BlockOkM b
  · simp
  · obtain ⟨n, hn, h1, h2, hl, hc⟩ := blockOk_spec h
    have := cellsText_len b.Cells
    have hnn : n * n ≤ 4 * 4 := Nat.mul_le_mul h2 h2
    simp only [cond_true]
    omega
theorem textM_eq {b d : GBlock} (hb : BlockOkM b = true) (hd : BlockOkM d = true) : (textM b = textM d) ↔ b = d := ⟨text_inj hb hd, fun h => by rw [h]⟩

def sameCellM (c d : GCell) : Bool := c.Split == d.Split && c.A == d.A && c.B == d.B
theorem sameCell_iff {c d : GCell} : sameCellM c d = true ↔ c = d := by
  obtain ⟨a, b, e⟩ := c
  obtain ⟨a', b', e'⟩ := d
  simp [sameCellM, and_assoc]
theorem beqs3 (a b c d e f : Int) : beqs [a, b, c] [d, e, f] = (a == d && b == e && c == f) := by simp [beqs, Bool.and_assoc]
def SameBlockM (b d : GBlock) : Bool := b.Size == d.Size && b.Cells.length == d.Cells.length && (List.range b.Cells.length).all fun k => sameCellM (gx b.Cells k) (gx d.Cells k)
theorem sameBlock_iff {b d : GBlock} : SameBlockM b d = true ↔ b = d := by
  constructor
  · intro h
    simp only [SameBlockM, Bool.and_eq_true, beq_iff_eq, List.all_eq_true, List.mem_range, sameCell_iff] at h
    obtain ⟨⟨h1, h2⟩, h3⟩ := h
    have := gx_ext h2 h3
    obtain ⟨s, c⟩ := b
    obtain ⟨s', c'⟩ := d
    simp_all
  · rintro rfl
    simp [SameBlockM, sameCell_iff]
theorem sameBlock_refl (b : GBlock) : SameBlockM b b = true := sameBlock_iff.2 rfl
theorem nat_beq_int (a b : Nat) : ((a : Int) == (b : Int)) = (a == b) := by
  rw [Bool.eq_iff_iff, beq_iff_eq, beq_iff_eq]; omega

theorem impl_SameBlock_eq {b d : GBlock} (hb : b.Cells.length ≤ 1048576) : impl_SameBlock b d = some (SameBlockM b d) := by
  unfold impl_SameBlock SameBlockM
  simp only [bne, nat_beq_int]
  cases h1 : b.Size == d.Size
  · simp
  cases h2 : b.Cells.length == d.Cells.length
  · simp
  have h2' : b.Cells.length = d.Cells.length := by simpa using h2
  simp only [Bool.not_true, Bool.or_self, cond_false, Bool.and_self, Bool.true_and]
  rw [gd_pos (by omega), forO_all (f := impl_SameBlock_L1 b d) (c := false) (fun k => sameCellM (gx b.Cells k) (gx d.Cells k)) (fun k hk => by
    simp only [impl_SameBlock_L1, beqs3]
    rw [gd_pos (by omega)]
    unfold sameCellM
    cases ((gx b.Cells k).Split == (gx d.Cells k).Split && (gx b.Cells k).A == (gx d.Cells k).A && (gx b.Cells k).B == (gx d.Cells k).B) <;> rfl)]
  cases (List.range b.Cells.length).all fun k => sameCellM (gx b.Cells k) (gx d.Cells k) <;> rfl

theorem spec_SameBlock_eq {b d : GBlock} (hb : b.Cells.length ≤ 1048576) : spec_SameBlock b d = some (SameBlockM b d) := by
  unfold spec_SameBlock SameBlockM
  simp only [bne, nat_beq_int]
  cases h1 : b.Size == d.Size
  · simp
  cases h2 : b.Cells.length == d.Cells.length
  · simp
  have h2' : b.Cells.length = d.Cells.length := by simpa using h2
  simp only [Bool.not_true, Bool.or_self, cond_false, Bool.and_self, Bool.true_and]
  rw [gd_pos (by omega), forO_all (f := spec_SameBlock_L1 b d) (c := false) (fun k => sameCellM (gx b.Cells k) (gx d.Cells k)) (fun k hk => by
    simp only [spec_SameBlock_L1, beqs3]
    rw [gd_pos (by omega)]
    unfold sameCellM
    cases ((gx b.Cells k).Split == (gx d.Cells k).Split && (gx b.Cells k).A == (gx d.Cells k).A && (gx b.Cells k).B == (gx d.Cells k).B) <;> rfl)]
  cases (List.range b.Cells.length).all fun k => sameCellM (gx b.Cells k) (gx d.Cells k) <;> rfl

theorem spec_FormatInt_small {a : Int} (h0 : 0 ≤ a) (h1 : a ≤ 5) : spec_FormatInt a = some ⟨[digM a]⟩ := by
  have ha : a = 0 ∨ a = 1 ∨ a = 2 ∨ a = 3 ∨ a = 4 ∨ a = 5 := by omega
  have key : ∀ (s s' s'' : Int × Str), spec_FormatInt_L1 s = some (.next s') → spec_FormatInt_L1 s' = some (.brk s'') → wlO spec_FormatInt_L1 18446744073709551616 s = some s'' := fun s s' s'' h1 h2 => by
    have : ∀ n, wlO spec_FormatInt_L1 (n + 2) s = some s'' := fun n => by
      unfold wlO
      rw [whO, h1]
      simp only [Option.bind_some]
      rw [whO, h2]
      rfl
    exact this 18446744073709551614
  rcases ha with rfl | rfl | rfl | rfl | rfl | rfl
  · rfl
  · unfold spec_FormatInt
    rw [key (1, ⟨[]⟩) (0, ⟨[49]⟩) (0, ⟨[49]⟩) rfl rfl]; rfl
  · unfold spec_FormatInt
    rw [key (2, ⟨[]⟩) (0, ⟨[50]⟩) (0, ⟨[50]⟩) rfl rfl]; rfl
  · unfold spec_FormatInt
    rw [key (3, ⟨[]⟩) (0, ⟨[51]⟩) (0, ⟨[51]⟩) rfl rfl]; rfl
  · unfold spec_FormatInt
    rw [key (4, ⟨[]⟩) (0, ⟨[52]⟩) (0, ⟨[52]⟩) rfl rfl]; rfl
  · unfold spec_FormatInt
    rw [key (5, ⟨[]⟩) (0, ⟨[53]⟩) (0, ⟨[53]⟩) rfl rfl]; rfl

theorem spec_CellText_eq {c : GCell} (h : CellOkM c = true) : spec_CellText c = some ⟨cellTextM c⟩ := by
  obtain ⟨h1, h2, h3, h4, h5, h6, h7⟩ := cellOk_spec h
  unfold spec_CellText cellTextM
  simp only [spec_CellOk_eq, h, spec_FormatInt_small h3 h4, spec_FormatInt_small h5 h6, Option.bind_some, Bool.not_true, cond_false]
  cases c.Split == 1
  · cases c.Split == 2
    · rfl
    · simp only [cond_true, cond_false]
      rw [gd_pos (by simp), gd_pos (by simp [sadd])]; rfl
  · simp only [cond_true]
    rw [gd_pos (by simp), gd_pos (by simp [sadd])]; rfl

theorem spec_TextOf_eq {b : GBlock} (h : BlockOkM b = true) : spec_TextOf b = some (textM b) := by
  obtain ⟨n, hn, h1, h2, hl, hc⟩ := blockOk_spec h
  have hnn : n * n ≤ 4 * 4 := Nat.mul_le_mul h2 h2
  unfold spec_TextOf
  rw [gd_pos (by omega), lpO_st (f := spec_TextOf_L1 b) (s0 := (⟨[]⟩ : Str)) (fun k => (⟨cellsTextM (b.Cells.take k)⟩ : Str)) rfl (fun k hk => by
    have hx := hc _ (gx_mem hk)
    have hlen := cellsText_len (b.Cells.take k)
    have hlen2 : (b.Cells.take k).length ≤ 16 := by simp; omega
    have hlen3 := cellText_len (gx b.Cells k)
    simp only [spec_TextOf_L1, spec_BlockOk_eq, h, cond_true, Option.bind_some, spec_CellText_eq hx]
    rw [gd_pos (by omega), gd_pos (by simp only [sadd, List.length_append, List.length_cons, List.length_nil]; omega)]
    rw [List.take_succ_eq_append_getElem hk, ← gx_lt hk]
    simp [sadd, cellsTextM])]
  simp [textM, h]

def addU (acc : List Int) (a : Int) : List Int := bif acc.contains a then acc else acc ++ [a]
theorem addU_nodup {acc : List Int} (h : acc.Nodup) (a : Int) : (addU acc a).Nodup := by
  unfold addU
  cases hc : acc.contains a
  · have hn : ¬ a ∈ acc := by
      intro hm
      have := List.contains_iff_mem.2 hm
      rw [hc] at this; cases this
    simp only [cond_false]
    rw [List.nodup_append]
    refine ⟨h, by simp, ?_⟩
    intro x hx y hy e
    simp only [List.mem_singleton] at hy
    subst hy; subst e
    exact hn hx
  · exact h
theorem addU_mem {acc : List Int} {a x : Int} : x ∈ addU acc a ↔ x ∈ acc ∨ x = a := by
  unfold addU
  cases hc : acc.contains a
  · simp
  · have hm : a ∈ acc := List.contains_iff_mem.1 hc
    simp only [cond_true]
    constructor
    · exact Or.inl
    · rintro (h | rfl)
      · exact h
      · exact hm
theorem fold_addU : ∀ (l acc : List Int), acc.Nodup → (l.foldl addU acc).Nodup ∧ ∀ x, x ∈ l.foldl addU acc ↔ x ∈ acc ∨ x ∈ l
  | [], acc, h => ⟨h, fun x => by simp⟩
  | a :: l, acc, h => by
    obtain ⟨h1, h2⟩ := fold_addU l (addU acc a) (addU_nodup h a)
    refine ⟨h1, fun x => ?_⟩
    rw [List.foldl_cons, h2, addU_mem]
    simp [or_assoc]
def useSeq (b : GBlock) : List Int := b.Cells.flatMap fun c => [c.A, c.B]
def six : List Int := [0, 1, 2, 3, 4, 5]
theorem mem_six {x : Int} : x ∈ six ↔ 0 ≤ x ∧ x ≤ 5 := by
  simp only [six, List.mem_cons, List.not_mem_nil, or_false]; omega
def ord6 (b : GBlock) : List Int := (useSeq b ++ six).foldl addU []
theorem mem_useSeq {b : GBlock} {x : Int} : x ∈ useSeq b ↔ ∃ c ∈ b.Cells, x = c.A ∨ x = c.B := by simp [useSeq]
theorem ord6_ok {b : GBlock} (h : BlockOkM b = true) : (ord6 b).Nodup ∧ (∀ x, x ∈ ord6 b ↔ 0 ≤ x ∧ x ≤ 5) ∧ (ord6 b).length = 6 := by
  obtain ⟨n, hn, h1, h2, hl, hc⟩ := blockOk_spec h
  obtain ⟨g1, g2⟩ := fold_addU (useSeq b ++ six) [] (by simp)
  have g3 : ∀ x, x ∈ ord6 b ↔ 0 ≤ x ∧ x ≤ 5 := fun x => by
    unfold ord6
    rw [g2]
    simp only [List.not_mem_nil, false_or, List.mem_append, mem_six]
    constructor
    · rintro (h | h)
      · obtain ⟨c, hm, h⟩ := mem_useSeq.1 h
        obtain ⟨c1, c2, c3, c4, c5, c6, _⟩ := cellOk_spec (hc c hm)
        rcases h with rfl | rfl <;> omega
      · exact h
    · exact Or.inr
  refine ⟨g1, g3, ?_⟩
  have p : (ord6 b).Perm six := (List.perm_ext_iff_of_nodup (show (ord6 b).Nodup from g1) (by decide)).2 fun x => by rw [g3, mem_six]
  exact p.length_eq

/-- The first index of a number, -1 if there is none. -/
def idxM (l : List Int) (n : Int) : Int := match (List.range l.length).find? (fun k => gx l k == n) with | some k => (k : Int) | none => -1
theorem idxM_cases (l : List Int) (n : Int) : (¬ n ∈ l ∧ idxM l n = -1) ∨ ∃ k : Nat, k < l.length ∧ idxM l n = k ∧ gx l k = n := by
  unfold idxM
  cases h : (List.range l.length).find? (fun k => gx l k == n) with
  | none =>
    left
    refine ⟨fun hm => ?_, rfl⟩
    obtain ⟨i, hi, rfl⟩ := List.getElem_of_mem hm
    rw [List.find?_eq_none] at h
    exact h i (by simpa using hi) (by simp [gx_lt hi])
  | some k =>
    right
    refine ⟨k, by simpa using List.mem_of_find?_eq_some h, rfl, by simpa using List.find?_some h⟩
theorem idxM_neg {l : List Int} {n : Int} : idxM l n < 0 ↔ ¬ n ∈ l := by
  rcases idxM_cases l n with ⟨h1, h2⟩ | ⟨k, h1, h2, h3⟩
  · simp [h1, h2]
  · constructor
    · intro h; omega
    · intro h; exact absurd (h3 ▸ gx_mem h1) h
theorem idxM_of {l : List Int} (hn : l.Nodup) {k : Nat} (hk : k < l.length) : idxM l (gx l k) = k := by
  rcases idxM_cases l (gx l k) with ⟨h1, h2⟩ | ⟨j, h1, h2, h3⟩
  · exact absurd (gx_mem hk) h1
  · rw [h2]
    rw [gx_lt h1, gx_lt hk] at h3
    have := (List.getElem_inj hn).1 h3
    rw [this]
theorem idxM_contains (l : List Int) (n : Int) : decide (idxM l n < 0) = !(l.contains n) := by
  rw [Bool.eq_iff_iff]
  simp [idxM_neg]
theorem gx_append_left {α : Type} [Rep α] {l m : List α} {k : Nat} (h : k < l.length) : gx (l ++ m) k = gx l k := by
  unfold gx List.getD
  rw [List.getElem?_append_left h]
theorem idxM_append {l : List Int} (m : List Int) {n : Int} (hn : (l ++ m).Nodup) (h : n ∈ l) : idxM (l ++ m) n = idxM l n := by
  rcases idxM_cases l n with ⟨h1, h2⟩ | ⟨k, h1, h2, h3⟩
  · exact absurd h h1
  · rw [h2, ← h3, ← gx_append_left (m := m) h1, idxM_of hn (by simp; omega)]
theorem idxM_last {l : List Int} {n : Int} (hn : (l ++ [n]).Nodup) : idxM (l ++ [n]) n = l.length := by
  have := idxM_of hn (k := l.length) (by simp)
  have e : gx (l ++ [n]) l.length = n := by simp [gx, List.getD]
  rwa [e] at this
def FirstUseM (b : GBlock) : List Int := bif BlockOkM b then (List.range 6).map fun a : Nat => idxM (ord6 b) (a : Int) else []
theorem firstUse_len {b : GBlock} (h : BlockOkM b = true) : (FirstUseM b).length = 6 := by simp [FirstUseM, h]
theorem firstUse_in {b : GBlock} (h : BlockOkM b = true) : ∀ x ∈ FirstUseM b, 0 ≤ x ∧ x ≤ 5 := by
  obtain ⟨g1, g2, g3⟩ := ord6_ok h
  intro x hx
  simp only [FirstUseM, h, cond_true, List.mem_map, List.mem_range] at hx
  obtain ⟨a, ha, rfl⟩ := hx
  rcases idxM_cases (ord6 b) (a : Int) with ⟨h1, h2⟩ | ⟨k, h1, h2, h3⟩
  · exact absurd ((g2 _).2 ⟨by omega, by omega⟩) h1
  · omega

def ListOkM (l : List Int) : Bool := l.length == 6 && l.all fun a => inR a 0 5
theorem listOk_spec {l : List Int} (h : ListOkM l = true) : l.length = 6 ∧ ∀ a ∈ l, 0 ≤ a ∧ a ≤ 5 := by
  simp only [ListOkM, Bool.and_eq_true, beq_iff_eq, List.all_eq_true, inR_iff] at h
  exact h
theorem listOk_of {l : List Int} (h : l.length = 6) (h2 : ∀ a ∈ l, 0 ≤ a ∧ a ≤ 5) : ListOkM l = true := by
  simp only [ListOkM, Bool.and_eq_true, beq_iff_eq, List.all_eq_true, inR_iff]
  exact ⟨h, h2⟩
theorem firstUse_ok {b : GBlock} (h : BlockOkM b = true) : ListOkM (FirstUseM b) = true := listOk_of (firstUse_len h) (firstUse_in h)
theorem splitCell_ok (s a b : Int) : CellOkM (SplitCellM s a b) = true := by
  unfold SplitCellM WholeCellM
  cases h : a == b
  · cases h2 : CellOkM ⟨s, a, b⟩
    · rfl
    · exact h2
  · cases h2 : inR a 0 5
    · rfl
    · have := inR_iff.1 h2
      exact cellOk_of (by simp) (by simp) this.1 this.2 this.1 this.2 (by simp)
def ExchangeCellM (c : GCell) (l : List Int) : GCell := bif CellOkM c && ListOkM l then SplitCellM c.Split (gx l c.A.toNat) (gx l c.B.toNat) else ⟨0, 0, 0⟩
theorem exchangeCell_ok (c : GCell) (l : List Int) : CellOkM (ExchangeCellM c l) = true := by
  unfold ExchangeCellM
  cases CellOkM c && ListOkM l
  · rfl
  · exact splitCell_ok _ _ _
def ExchangeM (b : GBlock) (l : List Int) : GBlock × Bool := bif BlockOkM b && ListOkM l then (⟨b.Size, b.Cells.map fun c => ExchangeCellM c l⟩, true) else (b, false)
theorem exchange_ok {b : GBlock} (h : BlockOkM b = true) (l : List Int) : BlockOkM (ExchangeM b l).1 = true ∧ (ExchangeM b l).1.Size = b.Size := by
  unfold ExchangeM
  cases hc : BlockOkM b && ListOkM l
  · exact ⟨h, rfl⟩
  · obtain ⟨n, hn, h1, h2, hl, hcs⟩ := blockOk_spec h
    refine ⟨?_, rfl⟩
    rw [hn]
    exact blockOk_of h1 h2 (by simpa using hl) (fun c hm => by
      simp only [List.mem_map] at hm
      obtain ⟨d, _, rfl⟩ := hm
      exact exchangeCell_ok d l)
def PlainM (b : GBlock) : GBlock := (ExchangeM b (FirstUseM b)).1
theorem plain_ok {b : GBlock} (h : BlockOkM b = true) : BlockOkM (PlainM b) = true ∧ (PlainM b).Size = b.Size := exchange_ok h _
theorem cells_grid {α β : Type} [Rep α] (F : α → β) {n : Nat} {l : List α} (hl : l.length = n * n) : (cellsM n n fun y x => F (gx l (y * n + x))) = l.map F := by
  apply List.ext_getElem
  · rw [cellsM_length]; simp [hl]
  · intro i h1 h2
    have hi : i < n * n := by rw [cellsM_length] at h1; exact h1
    have hn : 0 < n := by
      rcases Nat.eq_zero_or_pos n with h | h
      · subst h; simp at hi
      · exact h
    have hd : i / n * n + i % n = i := by rw [Nat.mul_comm]; exact Nat.div_add_mod i n
    have key : ∀ (h w : Nat) (G : Nat → Nat → β) (y x : Nat), y < h → x < w → (cellsM h w G)[y * w + x]? = some (G y x) := by
      intro h w G y x hy hx
      induction h with
      | zero => omega
      | succ h ih =>
        rw [cellsM_succ]
        rcases Nat.lt_or_ge y h with hlt | hge
        · rw [List.getElem?_append_left (by rw [cellsM_length]; exact idx_lt2 hlt hx)]
          exact ih hlt
        · have e : y = h := by omega
          subst e
          rw [List.getElem?_append_right (by rw [cellsM_length]; omega), cellsM_length]
          simp [hx]
    have k1 := key n n (fun y x => F (gx l (y * n + x))) (i / n) (i % n) ((Nat.div_lt_iff_lt_mul hn).2 hi) (Nat.mod_lt _ hn)
    simp only [hd] at k1
    rw [List.getElem?_eq_getElem h1] at k1
    have := Option.some.inj k1
    rw [this, gx_lt (by omega)]
    simp

theorem impl_allWithin_eq' {l : List Int} (hl : l.length ≤ 1048576) (a b : Int) : impl_allWithin l a b = some (l.all fun x => inR x a b) := by
  unfold impl_allWithin
  rw [gd_pos (by omega), forO_all (f := impl_allWithin_L1 l a b) (fun k => inR (gx l k) a b) (fun k hk => by
    simp only [impl_allWithin_L1, within_eq, Option.bind_some]; cases inR (gx l k) a b <;> rfl), all_gx (fun x => inR x a b)]
  cases l.all fun x => inR x a b <;> rfl

theorem impl_ListOk_eq {l : List Int} (hl : l.length ≤ 1048576) : impl_ListOk l = some (ListOkM l) := by
  unfold impl_ListOk ListOkM
  rw [impl_allWithin_eq' hl]
  have : ((l.length : Int) == 6) = (l.length == 6) := by
    rw [Bool.eq_iff_iff]; simp; omega
  rw [this]
  cases l.length == 6 <;> rfl

theorem spec_ListOk_eq {l : List Int} (hl : l.length ≤ 1048576) : spec_ListOk l = some (ListOkM l) := by
  unfold spec_ListOk ListOkM
  have : ((l.length : Int) == 6) = (l.length == 6) := by
    rw [Bool.eq_iff_iff]; simp; omega
  rw [gd_pos (by omega), forO_all (f := spec_ListOk_L1 l) (c := false) (fun k => inR (gx l k) 0 5) (fun k hk => by
    simp only [spec_ListOk_L1, l01In_eq, Option.bind_some]; cases inR (gx l k) 0 5 <;> rfl), all_gx (fun x => inR x 0 5), this]
  cases l.all fun x => inR x 0 5 <;> cases l.length == 6 <;> rfl

theorem impl_ExchangeCell_eq (c : GCell) {l : List Int} (hl : l.length ≤ 1048576) : impl_ExchangeCell c l = some (ExchangeCellM c l) := by
  unfold impl_ExchangeCell ExchangeCellM
  simp only [impl_CellOk_eq, impl_ListOk_eq hl, impl_SplitCell_eq, Option.bind_some]
  cases h : CellOkM c
  · rfl
  cases hL : ListOkM l
  · rfl
  obtain ⟨h1, h2, h3, h4, h5, h6, h7⟩ := cellOk_spec h
  obtain ⟨g1, g2⟩ := listOk_spec hL
  simp only [Bool.not_true, cond_false]
  rw [gd_pos ⟨by omega, by omega⟩, gd_pos ⟨by omega, by omega⟩]
  rfl

theorem spec_ExchangeCell_eq (c : GCell) {l : List Int} (hl : l.length ≤ 1048576) : spec_ExchangeCell c l = some (ExchangeCellM c l) := by
  unfold spec_ExchangeCell ExchangeCellM
  simp only [spec_CellOk_eq, spec_ListOk_eq hl, spec_SplitCell_eq, Option.bind_some]
  cases h : CellOkM c
  · rfl
  cases hL : ListOkM l
  · rfl
  obtain ⟨h1, h2, h3, h4, h5, h6, h7⟩ := cellOk_spec h
  obtain ⟨g1, g2⟩ := listOk_spec hL
  simp only [Bool.not_true, cond_false]
  rw [gd_pos ⟨by omega, by omega⟩, gd_pos ⟨by omega, by omega⟩]
  rfl

theorem impl_ExchangeBlock_eq {b : GBlock} {l : List Int} (hb : b.Cells.length ≤ 1048576) (hl : l.length ≤ 1048576) : impl_ExchangeBlock b l = some (ExchangeM b l) := by
  unfold impl_ExchangeBlock ExchangeM
  simp only [impl_BlockOk_eq, impl_ListOk_eq hl, Option.bind_some]
  have hc : impl_Block_copied b = some b := by
    unfold impl_Block_copied
    rw [gd_pos (by simp; omega)]; simp
  cases h : BlockOkM b
  · simp [hc]
  cases h2 : ListOkM l
  · simp [hc]
  obtain ⟨n, hn, h1, h2, hl2, hcs⟩ := blockOk_spec h
  simp only [Bool.not_true, cond_false, cond_true, Bool.and_self, hn]
  rw [made_eq n _ (fun y x => ExchangeCellM (gx b.Cells (y * n + x)) l) (by omega) (fun y x hy hx => by
    simp only [impl_ExchangeBlock_c1, impl_CellAt_eq, impl_ExchangeCell_eq _ hl, Option.bind_some]
    rw [cellAtM_nat h hn hx hy]), cells_grid (fun c => ExchangeCellM c l) hl2]
  rfl

theorem spec_ExchangeBlock_eq {b : GBlock} {l : List Int} (hb : b.Cells.length ≤ 1048576) (hl : l.length ≤ 1048576) : spec_ExchangeBlock b l = some (ExchangeM b l) := by
  unfold spec_ExchangeBlock ExchangeM
  simp only [spec_BlockOk_eq, spec_ListOk_eq hl, Option.bind_some]
  have hc : spec_l03Copy b = some b := by
    unfold spec_l03Copy
    rw [gd_pos (by simp; omega)]; simp
  cases h : BlockOkM b
  · simp [hc]
  cases h2 : ListOkM l
  · simp [hc]
  simp only [Bool.not_true, cond_false, cond_true, Bool.and_self]
  rw [gd_pos (by omega), lpO_app (f := spec_ExchangeBlock_L1 b l) (xs := []) (fun k => ExchangeCellM (gx b.Cells k) l) (fun k s hk hs => by
    simp only [spec_ExchangeBlock_L1, spec_ExchangeCell_eq _ hl, Option.bind_some]
    rw [gd_pos (by simp at hs; omega)]), map_gx (fun c => ExchangeCellM c l)]
  rfl

theorem impl_indexOf_eq {l : List Int} (hl : l.length ≤ 1048576) (n : Int) : impl_indexOf l n = some (idxM l n) := by
  unfold impl_indexOf idxM
  rw [gd_pos (by omega), forO_find (f := impl_indexOf_L1 l n) (fun k => gx l k == n) (fun k => (k : Int)) (fun k hk => by
    unfold impl_indexOf_L1
    cases gx l k == n <;> rfl)]
  cases (List.range l.length).find? fun k => gx l k == n <;> rfl

def putM : List Int → Int → List Int
  | [], n => [n]
  | x :: r, n => bif decide (n ≤ x) then n :: x :: r else x :: putM r n
theorem putM_perm : ∀ (l : List Int) (n : Int), (putM l n).Perm (n :: l)
  | [], n => .refl _
  | x :: r, n => by
    unfold putM
    cases decide (n ≤ x)
    · exact ((putM_perm r n).cons x).trans (.swap _ _ _)
    · exact .refl _
theorem putM_sorted : ∀ {l : List Int}, l.Pairwise (· ≤ ·) → ∀ n, (putM l n).Pairwise (· ≤ ·)
  | [], _, n => by simp [putM]
  | x :: r, h, n => by
    unfold putM
    rw [List.pairwise_cons] at h
    cases hd : decide (n ≤ x)
    · simp only [cond_false, List.pairwise_cons]
      refine ⟨fun y hy => ?_, putM_sorted h.2 n⟩
      have := (putM_perm r n).mem_iff.1 hy
      simp only [List.mem_cons] at this
      have hd' : ¬ n ≤ x := by simpa using hd
      rcases this with rfl | hm
      · omega
      · exact h.1 _ hm
    · have hd' : n ≤ x := by simpa using hd
      simp only [cond_true, List.pairwise_cons]
      refine ⟨fun y hy => ?_, h.1, h.2⟩
      simp only [List.mem_cons] at hy
      rcases hy with rfl | hm
      · exact hd'
      · have := h.1 _ hm; omega
theorem putM_len (l : List Int) (n : Int) : (putM l n).length = l.length + 1 := by
  have := (putM_perm l n).length_eq
  simpa using this
/-- The state behind some elements: what lies before the new number's place, or all with it. -/
theorem putM_append : ∀ (l : List Int) (x n : Int), putM (l ++ [x]) n = bif l.any (fun y => decide (n ≤ y)) then putM l n ++ [x] else (bif decide (n ≤ x) then l ++ [n, x] else l ++ [x, n])
  | [], x, n => by unfold putM; simp only [List.nil_append]; cases h : decide (n ≤ x) <;> simp [putM, h]
  | y :: l, x, n => by
    simp only [List.cons_append, putM, List.any_cons]
    cases h : decide (n ≤ y)
    · simp only [cond_false, Bool.false_or, putM_append l x n]
      cases l.any fun y => decide (n ≤ y)
      · cases decide (n ≤ x) <;> rfl
      · rfl
    · rfl
theorem putM_none : ∀ (l : List Int) (n : Int), l.any (fun y => decide (n ≤ y)) = false → putM l n = l ++ [n]
  | [], _, _ => rfl
  | x :: l, n, h => by
    simp only [List.any_cons, Bool.or_eq_false_iff] at h
    simp only [putM, h.1, cond_false, List.cons_append, putM_none l n h.2]

theorem impl_put_eq {l : List Int} (hl : l.length ≤ 1048576) (n : Int) : impl_put l n = some (putM l n) := by
  unfold impl_put
  rw [gd_pos (by omega), lpO_st (f := impl_put_L1 l n) (s0 := (([] : List Int), false)) (fun k => bif (l.take k).any (fun y => decide (n ≤ y)) then (putM (l.take k) n, true) else (l.take k, false)) rfl (fun k hk => by
    have ht : l.take (k + 1) = l.take k ++ [gx l k] := by rw [List.take_succ_eq_append_getElem hk, ← gx_lt hk]
    have hlen : (l.take k).length ≤ 1048576 := by simp; omega
    have hlen2 := putM_len (l.take k) n
    rw [ht, List.any_append, putM_append]
    simp only [impl_put_L1, List.any_cons, List.any_nil, Bool.or_false]
    cases h : (l.take k).any fun y => decide (n ≤ y)
    · simp only [cond_false, Bool.not_false, Bool.true_and, Bool.false_or]
      cases decide (n ≤ gx l k)
      · simp only [cond_false, Option.bind_some]
        rw [gd_pos (by omega)]
      · simp only [cond_true]
        rw [gd_pos (by omega)]
        simp only [Option.bind_some]
        rw [gd_pos (by simp; omega)]
        simp
    · simp only [cond_true, Bool.not_true, Bool.false_and, cond_false, Bool.true_or, Option.bind_some]
      rw [gd_pos (by omega)])]
  simp only [Option.bind_some, List.take_length]
  cases h : l.any fun y => decide (n ≤ y)
  · simp only [cond_false, Bool.not_false, cond_true]
    rw [gd_pos (by omega), putM_none l n h]
    rfl
  · rfl

theorem impl_sorted_eq {l : List Int} (hl : l.length ≤ 1000) : ∃ s, impl_sorted l = some s ∧ s.Perm l ∧ s.Pairwise (· ≤ ·) := by
  have key : ∀ k, k ≤ l.length → ((l.take k).foldl putM []).Perm (l.take k) ∧ ((l.take k).foldl putM []).Pairwise (· ≤ ·) := by
    intro k
    induction k with
    | zero => intro _; exact ⟨by simp, by simp⟩
    | succ k ih =>
      intro hk
      obtain ⟨i1, i2⟩ := ih (by omega)
      rw [List.take_succ_eq_append_getElem (by omega), List.foldl_append]
      simp only [List.foldl_cons, List.foldl_nil]
      refine ⟨(putM_perm _ _).trans ?_, putM_sorted i2 _⟩
      exact (i1.cons _).trans (List.perm_append_singleton _ _).symm
  refine ⟨l.foldl putM [], ?_, by simpa using (key l.length (by omega)).1, by simpa using (key l.length (by omega)).2⟩
  unfold impl_sorted
  rw [gd_pos (by omega), lpO_st (f := impl_sorted_L1 l) (s0 := []) (fun k => (l.take k).foldl putM []) rfl (fun k hk => by
    have hp := (key k (by omega)).1.length_eq
    have hle : ((l.take k).foldl putM []).length ≤ 1048576 := by rw [hp]; simp; omega
    simp only [impl_sorted_L1, impl_put_eq hle, Option.bind_some]
    rw [List.take_succ_eq_append_getElem hk, List.foldl_append, ← gx_lt hk]
    rfl)]
  simp

theorem impl_isStrict_true {l : List Int} (hl : l.length ≤ 1000) {a b : Int} (h : l.Pairwise (· < ·)) (hr : ∀ x ∈ l, a ≤ x ∧ x ≤ b) : impl_isStrict l a b = some true := by
  unfold impl_isStrict
  rw [impl_allWithin_eq' (by omega), gd_pos (by omega), all_next (f := impl_isStrict_L1 l) (fun k hk => by
    unfold impl_isStrict_L1
    rcases Nat.eq_zero_or_pos k with h0 | h0
    · subst h0; rfl
    · have e : wr ((k : Int) - 1) = ((k - 1 : Nat) : Int) := by rw [wr_of (by omega) (by omega)]; omega
      have hd : decide ((k : Int) > 0) = true := by simp; omega
      rw [List.pairwise_iff_getElem] at h
      have hlt := h (k - 1) k (by omega) hk (by omega)
      rw [← gx_lt, ← gx_lt] at hlt
      simp only [hd, cond_true, e, Int.toNat_natCast]
      rw [gd_pos ⟨by omega, by omega⟩]
      have : decide (gx l k ≤ gx l (k - 1)) = false := by simp; omega
      simp only [this, Option.bind_some, cond_false])]
  have : (l.all fun x => inR x a b) = true := by
    rw [List.all_eq_true]
    exact fun x hx => inR_iff.2 (hr x hx)
  simp only [sq_inl, this, Option.bind_some]

theorem impl_IsExchange_true {l : List Int} (hl : l.length = 6) (hn : l.Nodup) (hr : ∀ x ∈ l, 0 ≤ x ∧ x ≤ 5) : impl_IsExchange l = some true := by
  obtain ⟨s, h1, h2, h3⟩ := impl_sorted_eq (l := l) (by omega)
  have hs : s.Pairwise (· < ·) := by
    have hnd : s.Nodup := (h2.nodup_iff).2 hn
    unfold List.Nodup at hnd
    exact (h3.and hnd).imp fun ⟨a, b⟩ => by omega
  unfold impl_IsExchange
  rw [h1, show ((l.length : Int) == 6) = true by rw [hl]; rfl]
  simp only [cond_true, Option.bind_some, impl_isStrict_true (l := s) (by rw [h2.length_eq]; omega) hs (fun x hx => hr x (h2.mem_iff.1 hx))]

theorem undo_ok {l : List Int} (hl : l.length = 6) (hn : l.Nodup) (hr : ∀ x, x ∈ l ↔ 0 ≤ x ∧ x ≤ 5) : impl_UndoList l = some ((List.range 6).map fun a : Nat => idxM l (a : Int)) := by
  unfold impl_UndoList
  rw [impl_IsExchange_true hl hn (fun x hx => (hr x).1 hx)]
  simp only [Option.bind_some, Bool.not_true, cond_false]
  have h0 : List.replicate 6 (0 : Int) = (List.range 6).map fun a : Nat => bif decide (idxM l (a : Int) < ((0 : Nat) : Int)) then idxM l (a : Int) else 0 := by
    have : ∀ a : Nat, a < 6 → (bif decide (idxM l (a : Int) < ((0 : Nat) : Int)) then idxM l (a : Int) else 0) = 0 := fun a ha => by
      have : ¬ idxM l (a : Int) < 0 := by rw [idxM_neg]; exact fun h => h ((hr _).2 ⟨by omega, by omega⟩)
      simp [this]
    have e : ((List.range 6).map fun a : Nat => bif decide (idxM l (a : Int) < ((0 : Nat) : Int)) then idxM l (a : Int) else 0) = (List.range 6).map fun _ => (0 : Int) := List.map_congr_left fun a ha => this a (by simpa using ha)
    rw [e]; rfl
  rw [gd_pos (by omega), lpO_st (f := impl_UndoList_L1 l) (fun k => (List.range 6).map fun a : Nat => bif decide (idxM l (a : Int) < (k : Int)) then idxM l (a : Int) else 0) h0 (fun k hk => by
    obtain ⟨b1, b2⟩ := (hr _).1 (gx_mem hk)
    unfold impl_UndoList_L1
    rw [gd_pos ⟨b1, by simp; omega⟩]
    congr 2
    apply gx_ext
    · simp
    · intro j hj
      have hj' : j < 6 := by simpa using hj
      rw [gx_range _ hj']
      by_cases e : j = (gx l k).toNat
      · have ej : (j : Int) = gx l k := by omega
        subst e
        rw [gx_set (by simp; omega), ej, idxM_of hn hk]
        have : decide ((k : Int) < ((k + 1 : Nat) : Int)) = true := by simp; omega
        simp only [this, cond_true]
      · rw [gx_set_ne e, gx_range _ hj']
        rcases idxM_cases l (j : Int) with ⟨g1, _⟩ | ⟨i, g1, g2, g3⟩
        · exact absurd ((hr _).2 ⟨by omega, by omega⟩) g1
        · have hne : i ≠ k := fun h => e (by rw [← h, g3]; simp)
          have : decide (idxM l (j : Int) < (k : Int)) = decide (idxM l (j : Int) < ((k + 1 : Nat) : Int)) := by
            rw [g2, Bool.eq_iff_iff]; simp; omega
          rw [this])]
  simp only [Option.bind_some, hl]
  congr 1
  apply List.map_congr_left
  intro a ha
  rcases idxM_cases l (a : Int) with ⟨g1, _⟩ | ⟨i, g1, g2, g3⟩
  · exact absurd ((hr _).2 ⟨by omega, by simp at ha; omega⟩) g1
  · have : decide (idxM l (a : Int) < ((6 : Nat) : Int)) = true := by rw [g2]; simp; omega
    rw [this, cond_true]

theorem addU_len (acc : List Int) (a : Int) : (addU acc a).length ≤ acc.length + 1 := by
  unfold addU
  cases acc.contains a <;> simp
theorem fold_addU_len : ∀ (l acc : List Int), (l.foldl addU acc).length ≤ acc.length + l.length
  | [], acc => by simp
  | a :: l, acc => by
    have := fold_addU_len l (addU acc a)
    have := addU_len acc a
    simp only [List.foldl_cons, List.length_cons]; omega
def useL (l : List GCell) : List Int := l.flatMap fun c => [c.A, c.B]
theorem useL_len : ∀ l : List GCell, (useL l).length = 2 * l.length
  | [] => rfl
  | c :: l => by
    have := useL_len l
    simp only [useL, List.flatMap_cons, List.length_append, List.length_cons, List.length_nil] at this ⊢; omega
theorem useL_take {l : List GCell} {k : Nat} (hk : k < l.length) : useL (l.take (k + 1)) = useL (l.take k) ++ [(gx l k).A, (gx l k).B] := by
  rw [List.take_succ_eq_append_getElem hk, ← gx_lt hk]
  simp [useL]
theorem gx_cons_succ {α : Type} [Rep α] (a : α) (l : List α) (k : Nat) : gx (a :: l) (k + 1) = gx l k := by simp [gx, List.getD]
theorem gx_cons_zero {α : Type} [Rep α] (a : α) (l : List α) : gx (a :: l) 0 = a := by simp [gx, List.getD]
theorem useL_gx : ∀ (l : List GCell) (k : Nat), k < 2 * l.length → gx (useL l) k = bif k % 2 == 1 then (gx l (k / 2)).B else (gx l (k / 2)).A
  | [], k, h => by simp at h
  | c :: l, 0, h => by simp [useL, gx_cons_zero]
  | c :: l, 1, h => by simp [useL, gx_cons_zero, gx_cons_succ]
  | c :: l, k + 2, h => by
    have := useL_gx l k (by simp at h; omega)
    have e : useL (c :: l) = c.A :: c.B :: useL l := rfl
    rw [e, gx_cons_succ, gx_cons_succ, this, show (k + 2) / 2 = k / 2 + 1 by omega, show (k + 2) % 2 = k % 2 by omega, gx_cons_succ]
theorem tdiv2 (k : Nat) : ((k : Int)).tdiv 2 = ((k / 2 : Nat) : Int) := rfl
theorem tmod2 (k : Nat) : (((k : Int)).tmod 2 == 1) = (k % 2 == 1) := by
  have : ((k : Int)).tmod 2 = ((k % 2 : Nat) : Int) := rfl
  rw [this, Bool.eq_iff_iff]; simp; omega
theorem range_six : (List.range 6).map (fun i : Nat => (i : Int)) = six := rfl

theorem impl_FirstUse_eq (b : GBlock) : impl_FirstUse b = some (FirstUseM b) := by
  unfold impl_FirstUse FirstUseM
  simp only [impl_BlockOk_eq, Option.bind_some]
  cases h : BlockOkM b
  · rfl
  obtain ⟨n, hn, h1, h2, hl, hc⟩ := blockOk_spec h
  have hnn : n * n ≤ 4 * 4 := Nat.mul_le_mul h2 h2
  obtain ⟨g1, g2, g3⟩ := ord6_ok h
  have step : ∀ (s : List Int) (x : Int), s.length ≤ 1000 → ((impl_indexOf s x).bind fun v => (bif decide (v < 0) then gd (s.length + 1 ≤ 1099511627776) (some (s ++ [x])) else some s).bind fun j => some (Res.next (R := Empty) j)) = some (Res.next (addU s x)) := fun s x hs => by
    rw [impl_indexOf_eq (by omega)]
    simp only [Option.bind_some, idxM_contains, addU]
    cases s.contains x
    · simp only [Bool.not_false, cond_true, cond_false]
      rw [gd_pos (by omega)]; rfl
    · rfl
  simp only [Bool.not_true, cond_false, cond_true]
  rw [gd_pos (by omega), lpO_st (f := impl_FirstUse_L1 b) (s0 := []) (fun k => (useL (b.Cells.take k)).foldl addU []) rfl (fun k hk => by
    have hlen := fold_addU_len (useL (b.Cells.take k)) []
    have hul := useL_len (b.Cells.take k)
    have hle : ((useL (b.Cells.take k)).foldl addU []).length ≤ 32 := by simp at hlen hul; omega
    unfold impl_FirstUse_L1
    rw [gd_pos (by simp), lpO_st (f := impl_FirstUse_L2 b k) (s0 := (useL (b.Cells.take k)).foldl addU []) (fun i => ([(gx b.Cells k).A, (gx b.Cells k).B].take i).foldl addU ((useL (b.Cells.take k)).foldl addU [])) rfl (fun i hi => by
      have hi2 : i < 2 := by simpa using hi
      have hlen2 := fold_addU_len ([(gx b.Cells k).A, (gx b.Cells k).B].take i) ((useL (b.Cells.take k)).foldl addU [])
      unfold impl_FirstUse_L2
      rw [step _ _ (by simp at hlen2; omega), List.take_succ_eq_append_getElem hi, List.foldl_append, ← gx_lt hi]
      rfl)]
    rw [useL_take hk, List.foldl_append]
    rfl)]
  simp only [Option.bind_some, List.take_length]
  have hlen := fold_addU_len (useL b.Cells) []
  have hul := useL_len b.Cells
  have hle : ((useL b.Cells).foldl addU []).length ≤ 32 := by simp at hlen; omega
  rw [lpO_st (f := impl_FirstUse_L3) (s0 := (useL b.Cells).foldl addU []) (fun k => ((List.range k).map fun i : Nat => (i : Int)).foldl addU ((useL b.Cells).foldl addU [])) rfl (fun k hk => by
    have hlen2 := fold_addU_len ((List.range k).map fun i : Nat => (i : Int)) ((useL b.Cells).foldl addU [])
    unfold impl_FirstUse_L3
    rw [step _ _ (by simp at hlen2; omega), List.range_succ, List.map_append, List.foldl_append]
    rfl)]
  have e : ((List.range 6).map fun i : Nat => (i : Int)).foldl addU ((useL b.Cells).foldl addU []) = ord6 b := by
    rw [range_six, ← List.foldl_append]; rfl
  simp only [Option.bind_some, e, undo_ok g3 g1 g2]

def tabU (acc : List Int) : List Int := (List.range 6).map fun a : Nat => idxM acc (a : Int)
theorem tabU_add {acc : List Int} (hn : acc.Nodup) {a : Int} (h0 : 0 ≤ a) (h1 : a ≤ 5) : (bif decide (gx (tabU acc) a.toNat < 0) then (tabU acc).set a.toNat (acc.length : Int) else tabU acc) = tabU (addU acc a) ∧ (bif decide (gx (tabU acc) a.toNat < 0) then ((acc.length : Int) + 1) else (acc.length : Int)) = ((addU acc a).length : Int) := by
  have ea : ((a.toNat : Nat) : Int) = a := by omega
  have hg : gx (tabU acc) a.toNat = idxM acc a := by
    unfold tabU
    rw [gx_range _ (by omega), ea]
  have hnd := addU_nodup hn a
  rw [hg, idxM_contains]
  unfold addU at hnd ⊢
  cases hc : acc.contains a
  · rw [hc] at hnd
    simp only [cond_false] at hnd
    simp only [Bool.not_false, cond_true, cond_false]
    refine ⟨?_, by simp⟩
    apply gx_ext
    · simp [tabU]
    · intro j hj
      have hj' : j < 6 := by simpa [tabU] using hj
      have e2 : gx (tabU (acc ++ [a])) j = idxM (acc ++ [a]) (j : Int) := gx_range _ hj'
      rw [e2]
      by_cases e : j = a.toNat
      · subst e
        rw [gx_set (by simp [tabU]; omega), ea, idxM_last hnd]
      · rw [gx_set_ne e]
        have e3 : gx (tabU acc) j = idxM acc (j : Int) := gx_range _ hj'
        rw [e3]
        by_cases hm : (j : Int) ∈ acc
        · rw [idxM_append _ hnd hm]
        · have hm2 : ¬ (j : Int) ∈ acc ++ [a] := by
            simp only [List.mem_append, List.mem_singleton, not_or]
            exact ⟨hm, by omega⟩
          rcases idxM_cases acc (j : Int) with ⟨_, q⟩ | ⟨k, q1, _, q3⟩
          · rcases idxM_cases (acc ++ [a]) (j : Int) with ⟨_, q'⟩ | ⟨k, q1, _, q3⟩
            · rw [q, q']
            · exact absurd (q3 ▸ gx_mem q1) hm2
          · exact absurd (q3 ▸ gx_mem q1) hm
  · simp

theorem spec_FirstUse_eq (b : GBlock) : spec_FirstUse b = some (FirstUseM b) := by
  unfold spec_FirstUse FirstUseM
  simp only [spec_BlockOk_eq, Option.bind_some]
  cases h : BlockOkM b
  · rfl
  obtain ⟨n, hn, h1, h2, hl, hc⟩ := blockOk_spec h
  have hnn : n * n ≤ 4 * 4 := Nat.mul_le_mul h2 h2
  have hul := useL_len b.Cells
  have hN : (wr (2 * (b.Cells.length : Int))).toNat = (useL b.Cells).length := by
    rw [wr_of (by omega) (by omega)]; omega
  have h0 : lpO spec_FirstUse_L1 6 [] = some (tabU []) := by rfl
  have hin : ∀ x ∈ useL b.Cells, 0 ≤ x ∧ x ≤ 5 := fun x hx => by
    obtain ⟨c, hm, h⟩ := mem_useSeq.1 (show x ∈ useSeq b from hx)
    obtain ⟨c1, c2, c3, c4, c5, c6, _⟩ := cellOk_spec (hc c hm)
    rcases h with rfl | rfl <;> omega
  have hs : ((tabU [], 0) : List Int × Int) = (tabU ((useL b.Cells).take 0 |>.foldl addU []), ((((useL b.Cells).take 0).foldl addU []).length : Int)) := rfl
  simp only [Bool.not_true, cond_false, cond_true, h0, Option.bind_some, hN]
  rw [gd_pos (by omega), lpO_st (f := spec_FirstUse_L2 b) (fun k => (tabU (((useL b.Cells).take k).foldl addU []), ((((useL b.Cells).take k).foldl addU []).length : Int))) hs (fun k hk => by
    have hnd := (fold_addU ((useL b.Cells).take k) [] (by simp)).1
    have hlen := fold_addU_len ((useL b.Cells).take k) []
    have hx := useL_gx b.Cells k (by omega)
    obtain ⟨x0, x1⟩ := hin _ (gx_mem hk)
    obtain ⟨t1, t2⟩ := tabU_add hnd x0 x1
    have e2 : wr (((k / 2 : Nat) : Int)) = ((k / 2 : Nat) : Int) := wr_of (by omega) (by omega)
    have e3 : wr (((((useL b.Cells).take k).foldl addU []).length : Int) + 1) = ((((useL b.Cells).take k).foldl addU []).length : Int) + 1 := wr_of (by omega) (by simp at hlen; omega)
    simp only [spec_FirstUse_L2, tdiv2, tmod2, e2, e3, Int.toNat_natCast, ← hx]
    rw [gd_pos ⟨by omega, by omega⟩, gd_pos ⟨x0, by simp [tabU]; omega⟩, t1, t2, List.take_succ_eq_append_getElem hk, List.foldl_append, ← gx_lt hk]
    rfl)]
  simp only [Option.bind_some, List.take_length]
  have hnd0 := (fold_addU (useL b.Cells) [] (by simp)).1
  have hlen0 := fold_addU_len (useL b.Cells) []
  rw [lpO_st (f := spec_FirstUse_L3) (s0 := (tabU ((useL b.Cells).foldl addU []), ((((useL b.Cells).foldl addU []).length : Nat) : Int))) (fun k => (tabU (((List.range k).map fun i : Nat => (i : Int)).foldl addU ((useL b.Cells).foldl addU [])), ((((List.range k).map fun i : Nat => (i : Int)).foldl addU ((useL b.Cells).foldl addU [])).length : Int))) rfl (fun k hk => by
    have hnd := (fold_addU ((List.range k).map fun i : Nat => (i : Int)) _ hnd0).1
    have hlen := fold_addU_len ((List.range k).map fun i : Nat => (i : Int)) ((useL b.Cells).foldl addU [])
    obtain ⟨t1, t2⟩ := tabU_add hnd (a := (k : Int)) (by omega) (by omega)
    simp only [Int.toNat_natCast] at t1 t2
    have e3 : wr (((((List.range k).map fun i : Nat => (i : Int)).foldl addU ((useL b.Cells).foldl addU [])).length : Int) + 1) = ((((List.range k).map fun i : Nat => (i : Int)).foldl addU ((useL b.Cells).foldl addU [])).length : Int) + 1 := wr_of (by omega) (by simp at hlen hlen0; omega)
    simp only [spec_FirstUse_L3, e3]
    rw [gd_pos (by simp [tabU]; omega), t1, t2, List.range_succ, List.map_append, List.foldl_append]
    rfl)]
  have e : ((List.range 6).map fun i : Nat => (i : Int)).foldl addU ((useL b.Cells).foldl addU []) = ord6 b := by
    rw [range_six, ← List.foldl_append]; rfl
  simp only [Option.bind_some, e]
  rfl

theorem impl_plain_eq {b : GBlock} (h : BlockOkM b = true) : impl_plain b = some (PlainM b) := by
  unfold impl_plain PlainM
  have hs := (blockOk_sm h).1
  have hf := firstUse_len h
  simp only [impl_FirstUse_eq, Option.bind_some, impl_ExchangeBlock_eq hs (l := FirstUseM b) (by omega)]

theorem spec_l07Plain_eq {b : GBlock} (h : BlockOkM b = true) : spec_l07Plain b = some (PlainM b) := by
  unfold spec_l07Plain PlainM
  have hs := (blockOk_sm h).1
  have hf := firstUse_len h
  simp only [spec_FirstUse_eq, Option.bind_some, spec_ExchangeBlock_eq hs (l := FirstUseM b) (by omega)]

def viewsM (b : GBlock) : List GBlock := (List.range 8).map fun k : Nat => SeenM b (k : Int)
theorem views_len (b : GBlock) : (viewsM b).length = 8 := by simp [viewsM]
theorem views_gx (b : GBlock) {k : Nat} (hk : k < 8) : gx (viewsM b) k = SeenM b (k : Int) := gx_range _ hk
theorem view_ok {b : GBlock} (h : BlockOkM b = true) {k : Nat} (hk : k < 8) : BlockOkM (SeenM b (k : Int)) = true ∧ (SeenM b (k : Int)).Size = b.Size := seen_ok h (inR_iff.2 ⟨by omega, by omega⟩)

theorem impl_views_eq (b : GBlock) : impl_views b = some (viewsM b) := by
  unfold impl_views
  rw [lpO_app (f := impl_views_L1 b) (xs := []) (fun k : Nat => SeenM b (k : Int)) (fun k s hk hs => by
    simp only [impl_views_L1, impl_SeenFrom_eq, Option.bind_some]
    rw [gd_pos (by simp at hs; omega)])]
  rfl

theorem bytesLess_irrefl : ∀ l : List UInt8, Op.bytesLess l l = false
  | [] => rfl
  | x :: l => by
    have := bytesLess_irrefl l
    simp [Op.bytesLess, this]
theorem slt_irrefl (s : Str) : slt s s = false := bytesLess_irrefl _
def lstM (F : Nat → GBlock) : Nat → GBlock
  | 0 => F 0
  | n + 1 => bif slt (textM (F (n + 1))) (textM (lstM F n)) then F (n + 1) else lstM F n
def ixM (F : Nat → GBlock) : Nat → Nat
  | 0 => 0
  | k + 1 => bif slt (textM (F k)) (textM (F (ixM F k))) then k else ixM F k
theorem ix_lst (F : Nat → GBlock) : ∀ k, F (ixM F (k + 1)) = lstM F k
  | 0 => by
    have : slt (textM (F 0)) (textM (F 0)) = false := slt_irrefl _
    simp [ixM, lstM, this]
  | k + 1 => by
    have ih := ix_lst F k
    rw [ixM, lstM, ih]
    cases slt (textM (F (k + 1))) (textM (lstM F k))
    · exact ih
    · rfl
theorem ixM_le (F : Nat → GBlock) : ∀ k, ixM F k ≤ k
  | 0 => Nat.le_refl _
  | k + 1 => by
    have := ixM_le F k
    unfold ixM
    cases slt (textM (F k)) (textM (F (ixM F k))) <;> simp <;> omega
theorem lst_congr {F G : Nat → GBlock} : ∀ {n : Nat}, (∀ k, k ≤ n → F k = G k) → lstM F n = lstM G n
  | 0, h => h 0 (Nat.le_refl _)
  | n + 1, h => by rw [lstM, lstM, lst_congr (n := n) fun k hk => h k (by omega), h (n + 1) (Nat.le_refl _)]
theorem lst_in (F : Nat → GBlock) : ∀ n, ∃ k, k ≤ n ∧ lstM F n = F k
  | 0 => ⟨0, Nat.le_refl _, rfl⟩
  | n + 1 => by
    obtain ⟨k, hk, e⟩ := lst_in F n
    unfold lstM
    cases slt (textM (F (n + 1))) (textM (lstM F n))
    · exact ⟨k, by omega, e⟩
    · exact ⟨n + 1, Nat.le_refl _, rfl⟩

theorem impl_FormatInt_small {a : Int} (h0 : 0 ≤ a) (h1 : a ≤ 5) : impl_FormatInt a = some ⟨[digM a]⟩ := by
  unfold impl_FormatInt strconv_Itoa
  rw [gd_pos ⟨h0, by omega⟩]
  rfl

theorem impl_CellText_eq {c : GCell} (h : CellOkM c = true) : impl_CellText c = some ⟨cellTextM c⟩ := by
  obtain ⟨h1, h2, h3, h4, h5, h6, h7⟩ := cellOk_spec h
  have hs : c.Split = 0 ∨ c.Split = 1 ∨ c.Split = 2 := by omega
  unfold impl_CellText cellTextM
  simp only [impl_CellOk_eq, h, impl_FormatInt_small h3 h4, impl_FormatInt_small h5 h6, Option.bind_some, Bool.not_true, cond_false]
  rcases hs with e | e | e <;> rw [e]
  · rfl
  · rfl
  · rfl

theorem impl_TextOf_eq {b : GBlock} (h : BlockOkM b = true) : impl_TextOf b = some (textM b) := by
  obtain ⟨n, hn, h1, h2, hl, hc⟩ := blockOk_spec h
  have hnn : n * n ≤ 4 * 4 := Nat.mul_le_mul h2 h2
  unfold impl_TextOf
  simp only [impl_BlockOk_eq, h, Option.bind_some, Bool.not_true, cond_false]
  rw [gd_pos (by omega), lpO_st (f := impl_TextOf_L1 b) (s0 := (⟨[]⟩ : Str)) (fun k => (⟨cellsTextM (b.Cells.take k)⟩ : Str)) rfl (fun k hk => by
    have hx := hc _ (gx_mem hk)
    have hlen := cellsText_len (b.Cells.take k)
    have hlen2 : (b.Cells.take k).length ≤ 16 := by simp; omega
    have hlen3 := cellText_len (gx b.Cells k)
    simp only [impl_TextOf_L1, Option.bind_some, impl_CellText_eq hx]
    rw [gd_pos (by simp only [List.length_cons, List.length_nil]; omega), gd_pos (by simp only [sadd, List.length_append, List.length_cons, List.length_nil]; omega)]
    rw [List.take_succ_eq_append_getElem hk, ← gx_lt hk]
    simp [sadd, cellsTextM])]
  simp [textM, h]

theorem impl_least_eq {l : List GBlock} (h0 : 0 < l.length) (hl : l.length ≤ 1000) (hok : ∀ k, k < l.length → BlockOkM (gx l k) = true) : impl_least l = some (lstM (gx l) (l.length - 1)) := by
  unfold impl_least
  rw [gd_pos h0, gd_pos (by omega), lpO_st (f := impl_least_L1 l) (s0 := 0) (ixM (gx l)) rfl (fun k hk => by
    have hi := ixM_le (gx l) k
    unfold impl_least_L1
    rw [gd_pos (by omega), impl_TextOf_eq (hok k hk), impl_TextOf_eq (hok _ (by omega))]
    simp only [Option.bind_some]
    rfl)]
  have hi : ixM (gx l) l.length < l.length := by
    obtain ⟨n, hn⟩ : ∃ n, l.length = n + 1 := ⟨l.length - 1, by omega⟩
    rw [hn]
    unfold ixM
    have := ixM_le (gx l) n
    cases slt (textM (gx l n)) (textM (gx l (ixM (gx l) n))) <;> simp <;> omega
  simp only [Option.bind_some]
  rw [gd_pos hi]
  obtain ⟨n, hn⟩ : ∃ n, l.length = n + 1 := ⟨l.length - 1, by omega⟩
  rw [hn, ix_lst (gx l) n]
  rfl

def FormM (b : GBlock) : GBlock := bif BlockOkM b then lstM (fun k => SeenM b (k : Int)) 7 else ⟨0, []⟩
theorem seen_zero {b : GBlock} (h : BlockOkM b = true) : SeenM b ((0 : Nat) : Int) = b := by
  unfold SeenM
  rw [h]
  rfl
theorem form_ok {b : GBlock} (h : BlockOkM b = true) : BlockOkM (FormM b) = true ∧ (FormM b).Size = b.Size := by
  unfold FormM
  rw [h, cond_true]
  obtain ⟨k, hk, e⟩ := lst_in (fun k => SeenM b (k : Int)) 7
  rw [e]
  exact view_ok h (by omega)

def PattM (b : GBlock) : GBlock := bif BlockOkM b then lstM (fun k => PlainM (SeenM b (k : Int))) 7 else ⟨0, []⟩
theorem patt_ok {b : GBlock} (h : BlockOkM b = true) : BlockOkM (PattM b) = true ∧ (PattM b).Size = b.Size := by
  unfold PattM
  rw [h, cond_true]
  obtain ⟨k, hk, e⟩ := lst_in (fun k => PlainM (SeenM b (k : Int))) 7
  rw [e]
  obtain ⟨v1, v2⟩ := view_ok h (k := k) (by omega)
  obtain ⟨p1, p2⟩ := plain_ok v1
  exact ⟨p1, by rw [p2, v2]⟩

theorem spec_LeastPattern_eq (b : GBlock) : spec_LeastPattern b = some (PattM b) := by
  unfold spec_LeastPattern PattM
  simp only [spec_BlockOk_eq, Option.bind_some]
  cases h : BlockOkM b
  · rfl
  simp only [Bool.not_true, cond_false, cond_true, spec_l07Plain_eq h, Option.bind_some]
  rw [lpO_st (f := spec_LeastPattern_L1 b) (s0 := ((PlainM b).Size, (PlainM b).Cells)) (fun k => ((lstM (fun k => PlainM (SeenM b (k : Int))) k).Size, (lstM (fun k => PlainM (SeenM b (k : Int))) k).Cells)) (by rw [lstM, seen_zero h]) (fun k hk => by
    have hv := (view_ok h (k := k + 1) (by omega)).1
    have hp := (plain_ok hv).1
    have hb : BlockOkM (lstM (fun k => PlainM (SeenM b (k : Int))) k) = true := by
      obtain ⟨j, hj, e⟩ := lst_in (fun k => PlainM (SeenM b (k : Int))) k
      rw [e]; exact (plain_ok (view_ok h (by omega)).1).1
    simp only [spec_LeastPattern_L1, spec_SeenFrom_eq, spec_l07Plain_eq hv, spec_TextOf_eq hp, Option.bind_some]
    rw [show spec_TextOf (GBlock.mk (lstM (fun k => PlainM (SeenM b (k : Int))) k).Size (lstM (fun k => PlainM (SeenM b (k : Int))) k).Cells) = _ from spec_TextOf_eq hb]
    rfl)]
  rfl

theorem impl_LeastPattern_eq (b : GBlock) : impl_LeastPattern b = some (PattM b) := by
  unfold impl_LeastPattern PattM
  simp only [impl_BlockOk_eq, Option.bind_some]
  cases h : BlockOkM b
  · rfl
  simp only [Bool.not_true, cond_false, cond_true, impl_views_eq, Option.bind_some, views_len]
  rw [gd_pos (by omega), lpO_app (f := impl_LeastPattern_L1 (viewsM b)) (xs := []) (fun k : Nat => PlainM (SeenM b (k : Int))) (fun k s hk hs => by
    unfold impl_LeastPattern_L1
    rw [views_gx _ hk, impl_plain_eq (view_ok h hk).1]
    simp only [Option.bind_some]
    rw [gd_pos (by simp at hs; omega)])]
  have hl : (([] : List GBlock) ++ (List.range 8).map fun k : Nat => PlainM (SeenM b (k : Int))).length = 8 := by simp
  have hg : ∀ k, k < 8 → gx (([] : List GBlock) ++ (List.range 8).map fun k : Nat => PlainM (SeenM b (k : Int))) k = PlainM (SeenM b (k : Int)) := fun k hk => by
    rw [List.nil_append]; exact gx_range _ hk
  simp only [Option.bind_some]
  rw [impl_least_eq (by rw [hl]; omega) (by rw [hl]; omega) (fun k hk => by
    rw [hl] at hk
    rw [hg k hk]; exact (plain_ok (view_ok h hk).1).1), hl]
  simp only [Option.bind_some]
  rw [lst_congr (G := fun k => PlainM (SeenM b (k : Int))) fun k hk => hg k (by omega)]

def ArePattM (b d : GBlock) : Bool := BlockOkM b && BlockOkM d && SameBlockM (PattM b) (PattM d)

theorem spec_ArePatternsSame_eq (b d : GBlock) : spec_ArePatternsSame b d = some (ArePattM b d) := by
  unfold spec_ArePatternsSame ArePattM
  simp only [spec_BlockOk_eq, spec_LeastPattern_eq, Option.bind_some]
  cases hb : BlockOkM b
  · rfl
  cases hd : BlockOkM d
  · rfl
  simp only [cond_true, spec_SameBlock_eq (blockOk_sm (patt_ok hb).1).1, Option.bind_some, Bool.true_and]

theorem impl_ArePatternsSame_eq (b d : GBlock) : impl_ArePatternsSame b d = some (ArePattM b d) := by
  unfold impl_ArePatternsSame ArePattM
  simp only [impl_BlockOk_eq, impl_LeastPattern_eq, Option.bind_some]
  cases hb : BlockOkM b
  · rfl
  cases hd : BlockOkM d
  · rfl
  simp only [cond_true, impl_SameBlock_eq (blockOk_sm (patt_ok hb).1).1, Option.bind_some, Bool.true_and]

theorem same_ArePatternsSame (b d : GBlock) (_ : Sm.ok b) (_ : Sm.ok d) : ∃ w, spec_ArePatternsSame b d = some w ∧ impl_ArePatternsSame b d = some w :=
  ⟨_, spec_ArePatternsSame_eq b d, impl_ArePatternsSame_eq b d⟩

theorem p_FnExactArePatternsSame (a0 : GBlock) (a1 : GBlock) (f0 : Fit.ok a0) (f1 : Fit.ok a1) : laws_FnExactArePatternsSame a0 a1 = some true := by
  unfold laws_FnExactArePatternsSame
  obtain ⟨r0, hr0, hc0⟩ := sz_Block a0 1048576 (by omega) (by omega) f0
  rcases hc0 with hc0 | ⟨s0, u0, w0⟩
  · simp [hr0, hc0]
  have n0 : ¬ r0 < 0 := by omega
  obtain ⟨r1, hr1, hc1⟩ := sz_Block a1 r0 (by omega) (by omega) f1
  rcases hc1 with hc1 | ⟨s1, u1, w1⟩
  · simp [hr1, hc1, hr0, n0]
  have n1 : ¬ r1 < 0 := by omega
  obtain ⟨w, hs, hi⟩ := same_ArePatternsSame a0 a1 s0 s1
  simp [hr0, n0, hr1, n1, to_Block a0 s0, eq_Block a0 s0, to_Block a1 s1, eq_Block a1 s1, hs, hi]
end Go.Proofs.YtlfhlajpdmcnaaaDoor
