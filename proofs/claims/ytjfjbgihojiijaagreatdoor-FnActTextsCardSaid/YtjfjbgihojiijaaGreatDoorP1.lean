/-
  The plain laws: what the functions compute, in Lean alone.
-/
import Derived.Test.YtjfjbgihojiijaaGreatDoorPure
namespace Go.Proofs.YtjfjbgihojiijaaGreatDoor
open Go

theorem gd_pos {α : Type} {p : Prop} [Decidable p] (h : p) (t : Option α) : gd p t = t := by simp [gd, h]
@[simp] theorem sq_inl {J C : Type} (j : J) (k : J → Option C) : sq (some (.inl j)) k = k j := rfl
@[simp] theorem sq_inr {J C : Type} (c : C) (k : J → Option C) : sq (some (.inr c)) k = some c := rfl

section
variable {S C : Type} {f : Nat → S → Option (Res S C)} {N : Nat}
theorem forO_at (st : Nat → S) (h : ∀ k, k < N → f k (st k) = some (.next (st (k + 1)))) : ∀ m k, k + m = N → forO f m k (st k) = some (.inl (st N))
  | 0, k, e => by simp at e; subst e; rfl
  | m + 1, k, e => by
    rw [forO, h k (by omega)]
    exact forO_at st h m (k + 1) (by omega)
theorem forO_st (st : Nat → S) {s0 : S} (h0 : s0 = st 0) (h : ∀ k, k < N → f k (st k) = some (.next (st (k + 1)))) : forO f N 0 s0 = some (.inl (st N)) := by
  rw [h0]; exact forO_at st h N 0 (by omega)
theorem forO_upto (st : Nat → S) (K : Nat) (hK : K < N) (h : ∀ k, k < K → f k (st k) = some (.next (st (k + 1)))) : ∀ m k, k + m = N → k ≤ K → forO f m k (st k) = forO f (N - K) K (st K)
  | 0, k, e, hk => by omega
  | m + 1, k, e, hk => by
    rcases Nat.lt_or_ge k K with hlt | hge
    · rw [forO, h k hlt]
      exact forO_upto st K hK h m (k + 1) (by omega) (by omega)
    · have : k = K := by omega
      subst this
      rw [show N - k = m + 1 by omega]
theorem forO_retAt (st : Nat → S) {s0 : S} (h0 : s0 = st 0) (K : Nat) (hK : K < N) (h : ∀ k, k < K → f k (st k) = some (.next (st (k + 1)))) {c : C} (hr : f K (st K) = some (.ret c)) : forO f N 0 s0 = some (.inr c) := by
  rw [h0, forO_upto st K hK h N 0 (by omega) (by omega), show N - K = (N - K - 1) + 1 by omega, forO, hr]; rfl
theorem forO_brkAt (st : Nat → S) {s0 : S} (h0 : s0 = st 0) (K : Nat) (hK : K < N) (h : ∀ k, k < K → f k (st k) = some (.next (st (k + 1)))) {s' : S} (hr : f K (st K) = some (.brk s')) : forO f N 0 s0 = some (.inl s') := by
  rw [h0, forO_upto st K hK h N 0 (by omega) (by omega), show N - K = (N - K - 1) + 1 by omega, forO, hr]; rfl
/-- A loop that looks for the first place where p fails. -/
theorem forO_all (p : Nat → Bool) {s : S} {c : C} (h : ∀ k, k < N → f k s = some (bif p k then .next s else .ret c)) : forO f N 0 s = some (bif (List.range N).all p then .inl s else .inr c) := by
  cases ha : (List.range N).all p with
  | true =>
    rw [List.all_eq_true] at ha
    exact forO_st (fun _ => s) rfl fun k hk => by rw [h k hk, ha k (by simpa using hk)]; rfl
  | false =>
    have : ∃ k, k < N ∧ p k = false := by
      rw [List.all_eq_false] at ha
      obtain ⟨k, hk, hp⟩ := ha
      exact ⟨k, by simpa using hk, by simpa using hp⟩
    have hmin : ∃ k, k < N ∧ p k = false ∧ ∀ j, j < k → p j = true := by
      obtain ⟨k, hk, hp⟩ := this
      induction k using Nat.strongRecOn with
      | _ k ih =>
        by_cases hx : ∃ j, j < k ∧ p j = false
        · obtain ⟨j, hj, hpj⟩ := hx
          exact ih j hj (by omega) hpj
        · refine ⟨k, hk, hp, fun j hj => ?_⟩
          cases hpj : p j with
          | true => rfl
          | false => exact absurd ⟨j, hj, hpj⟩ hx
    obtain ⟨k, hk, hp, hall⟩ := hmin
    exact forO_retAt (fun _ => s) rfl k hk (fun j hj => by rw [h j (by omega), hall j hj]; rfl) (by rw [h k hk, hp]; rfl)
/-- A loop that returns at the first place where p holds. -/
theorem forO_find (p : Nat → Bool) {s : S} (c : Nat → C) (h : ∀ k, k < N → f k s = some (bif p k then .ret (c k) else .next s)) : forO f N 0 s = some (match (List.range N).find? p with | some k => .inr (c k) | none => .inl s) := by
  cases ha : (List.range N).find? p with
  | none =>
    rw [List.find?_eq_none] at ha
    exact forO_st (fun _ => s) rfl fun k hk => by
      rw [h k hk]
      have := ha k (by simpa using hk)
      simp at this
      rw [this]; rfl
  | some K =>
    have hp := List.find?_some ha
    have hK : K < N := by simpa using List.mem_of_find?_eq_some ha
    refine forO_retAt (fun _ => s) rfl K hK (fun j hj => ?_) (by rw [h K hK, hp]; rfl)
    rw [h j (by omega)]
    have : p j = false := by
      rw [List.find?_range_eq_some] at ha
      simpa using ha.2.2 j hj
    rw [this]; rfl
end
section
variable {S : Type} {f : Nat → S → Option (Res S Empty)} {N : Nat}
theorem lpO_st (st : Nat → S) {s0 : S} (h0 : s0 = st 0) (h : ∀ k, k < N → f k (st k) = some (.next (st (k + 1)))) : lpO f N s0 = some (st N) := by
  unfold lpO; rw [forO_st st h0 h]; rfl
/-- A state that each round turns by g. -/
def fold {S : Type} (g : Nat → S → S) (s0 : S) : Nat → S
  | 0 => s0
  | n + 1 => g n (fold g s0 n)
theorem lpO_fold (g : Nat → S → S) {s0 : S} (h : ∀ k, k < N → f k (fold g s0 k) = some (.next (g k (fold g s0 k)))) : lpO f N s0 = some (fold g s0 N) :=
  lpO_st (fold g s0) rfl h
end
section
variable {α : Type} {f : Nat → List α → Option (Res (List α) Empty)} {N : Nat}
theorem lpO_app (F : Nat → α) {xs : List α} (h : ∀ k s, k < N → s.length = xs.length + k → f k s = some (.next (s ++ [F k]))) : lpO f N xs = some (xs ++ (List.range N).map F) :=
  lpO_st (fun k => xs ++ (List.range k).map F) (by simp) fun k hk => by
    rw [h k _ hk (by simp)]
    simp [List.range_succ]
theorem lpO_filter (p : Nat → Bool) (F : Nat → α) {xs : List α} (h : ∀ k s, k < N → s.length ≤ xs.length + k → f k s = some (.next (bif p k then s ++ [F k] else s))) : lpO f N xs = some (xs ++ ((List.range N).filter p).map F) :=
  lpO_st (fun k => xs ++ ((List.range k).filter p).map F) (by simp) fun k hk => by
    rw [h k _ hk (by
      have := List.length_filter_le p (List.range k)
      simp at this ⊢; omega)]
    cases hp : p k <;> simp [List.range_succ, List.filter_append, hp]
theorem lpO_cat (F : Nat → List α) {xs : List α} (h : ∀ k s, k < N → s = xs ++ (List.range k).flatMap F → f k s = some (.next (s ++ F k))) : lpO f N xs = some (xs ++ (List.range N).flatMap F) :=
  lpO_st (fun k => xs ++ (List.range k).flatMap F) (by simp) fun k hk => by
    rw [h k _ hk rfl]
    simp [List.range_succ]
end
theorem map_gx {α β : Type} [Rep α] (F : α → β) (xs : List α) : (List.range xs.length).map (fun k => F (gx xs k)) = xs.map F := by
  apply List.ext_getElem
  · simp
  · intro i h1 h2
    simp at h1
    simp [gx, List.getD, h1]
theorem all_gx {α : Type} [Rep α] (F : α → Bool) (xs : List α) : (List.range xs.length).all (fun k => F (gx xs k)) = xs.all F := by
  have := map_gx F xs
  calc (List.range xs.length).all (fun k => F (gx xs k)) = ((List.range xs.length).map (fun k => F (gx xs k))).all id := by simp [List.all_map]
    _ = xs.all F := by rw [this]; simp [List.all_map]
theorem gx_lt {α : Type} [Rep α] {xs : List α} {k : Nat} (h : k < xs.length) : gx xs k = xs[k] := by simp [gx, List.getD, h]
theorem gx_mem {α : Type} [Rep α] {xs : List α} {k : Nat} (h : k < xs.length) : gx xs k ∈ xs := by rw [gx_lt h]; exact List.getElem_mem h
theorem wr_of {n : Int} (h1 : -4611686018427387904 ≤ n) (h2 : n ≤ 4611686018427387904) : wr n = n := wr_id (by omega) (by omega)

/-- What is small enough for all bounds. -/
class Sm (α : Type) where
  ok : α → Prop
instance : Sm Int := ⟨fun _ => True⟩
instance : Sm Bool := ⟨fun _ => True⟩
instance : Sm Str := ⟨fun s => s.b.length ≤ 1048576⟩
instance (α : Type) [Sm α] : Sm (List α) := ⟨fun xs => xs.length ≤ 1048576 ∧ ∀ x ∈ xs, Sm.ok x⟩
theorem sm_len {α : Type} [Sm α] {xs : List α} (h : Sm.ok xs) : xs.length ≤ 1048576 := h.1
theorem sm_gx {α : Type} [Sm α] [Rep α] {xs : List α} (h : Sm.ok xs) {k : Nat} (hk : k < xs.length) : Sm.ok (gx xs k) := h.2 _ (gx_mem hk)
theorem sm_ints {xs : List Int} (h : xs.length ≤ 1048576) : Sm.ok xs := ⟨h, fun _ _ => trivial⟩

theorem gx_set_ne {α : Type} [Rep α] {xs : List α} {k j : Nat} {e : α} (h : j ≠ k) : gx (xs.set k e) j = gx xs j := by
  simp [gx, List.getD, List.getElem?_set_ne (Ne.symm h)]
theorem gx_ext {α : Type} [Rep α] {xs ys : List α} (hl : xs.length = ys.length) (h : ∀ k, k < xs.length → gx xs k = gx ys k) : xs = ys := by
  apply List.ext_getElem hl
  intro i h1 h2
  have := h i h1
  rwa [gx_lt h1, gx_lt h2] at this

theorem to_list {α : Type} [Rep α] {f : Nat → List α → Option (Res (List α) Empty)} (a : List α) (z : α) (h : ∀ k s, k < a.length → s.length = a.length → f k s = some (.next (s.set k (gx a k)))) : lpO f a.length (List.replicate a.length z) = some a := by
  have := lpO_st (f := f) (N := a.length) (fun k => a.take k ++ List.replicate (a.length - k) z) (s0 := List.replicate a.length z) (by simp) fun k hk => by
    rw [h k _ hk (by simp; omega)]
    congr 2
    apply List.ext_getElem
    · simp; omega
    · intro i h1 h2
      rw [List.getElem_set]
      split
      · rename_i e; subst e
        rw [gx_lt hk, List.getElem_append_left (by simp; omega)]
        simp
      · rename_i hne
        rcases Nat.lt_or_ge i k with hi | hi
        · rw [List.getElem_append_left (by simp; omega), List.getElem_append_left (by simp; omega)]; simp
        · rw [List.getElem_append_right (by simp; omega), List.getElem_append_right (by simp; omega)]; simp
  simpa using this
theorem all_next {C : Type} {f : Nat → Unit → Option (Res Unit C)} {N : Nat} (h : ∀ k, k < N → f k () = some (.next ())) : forO f N 0 () = some (.inl ()) := forO_st (fun _ => ()) rfl h

theorem mark_list {α : Type} [Rep α] {f : Nat → List α × Int → Option (Res (List α × Int) Empty)} (a : List α) (j0 B M : Int) (R : α → Int → Int → Prop) (hB : 0 ≤ B) (hM : j0 + B * a.length ≤ M)
    (h : ∀ k s j, k < a.length → s.length = a.length → gx s k = gx a k → j0 ≤ j → j + B ≤ M → ∃ e j', f k (s, j) = some (.next (s.set k e, j')) ∧ j ≤ j' ∧ j' ≤ j + B ∧ R e j j') :
    ∃ (a' : List α) (js : Nat → Int), lpO f a.length (a, j0) = some (a', js a.length) ∧ a'.length = a.length ∧ js 0 = j0 ∧ j0 ≤ js a.length ∧ js a.length ≤ j0 + B * a.length ∧ ∀ k, k < a.length → R (gx a' k) (js k) (js (k + 1)) ∧ j0 ≤ js k := by
  have key : ∀ m k (s : List α) (j : Int), k + m = a.length → s.length = a.length → (∀ i, k ≤ i → i < a.length → gx s i = gx a i) → j0 ≤ j → j ≤ j0 + B * k →
      ∃ (a' : List α) (js : Nat → Int), forO f m k (s, j) = some (.inl (a', js a.length)) ∧ a'.length = a.length ∧ js k = j ∧ j ≤ js a.length ∧ js a.length ≤ j0 + B * a.length ∧ (∀ i, i < k → gx a' i = gx s i) ∧ ∀ i, k ≤ i → i < a.length → R (gx a' i) (js i) (js (i + 1)) ∧ j ≤ js i := by
    intro m
    induction m with
    | zero =>
      intro k s j hk hl _ h0 h1
      have e : k = a.length := by omega
      subst e
      exact ⟨s, fun _ => j, rfl, hl, rfl, Int.le_refl _, h1, fun _ _ => rfl, fun i h1 h2 => by omega⟩
    | succ m ih =>
      intro k s j hk hl hs h0 h1
      have hle : B * (k : Int) + B ≤ B * a.length := by
        have : (k : Int) + 1 ≤ a.length := by omega
        have := Int.mul_le_mul_of_nonneg_left this hB
        rw [Int.mul_add, Int.mul_one] at this
        exact this
      obtain ⟨e, j', hf, g1, g2, hR⟩ := h k s j (by omega) hl (hs k (Nat.le_refl _) (by omega)) h0 (by omega)
      obtain ⟨a', js, i1, i2, i3, i3', i4, i5, i6⟩ := ih (k + 1) (s.set k e) j' (by omega) (by simpa using hl) (fun i h1 h2 => by rw [gx_set_ne (by omega)]; exact hs i (by omega) h2) (by omega) (by
        have e1 : B * ((k + 1 : Nat) : Int) = B * k + B := by rw [Int.natCast_add, Int.mul_add]; simp
        rw [e1]; omega)
      refine ⟨a', fun i => if i = k then j else js i, ?_, i2, by simp, ?_, ?_, fun i hi => ?_, fun i h1 h2 => ?_⟩
      · rw [forO, hf]
        have hne : a.length ≠ k := by omega
        simp only [Option.bind_some, hne, if_false]
        exact i1
      · have hne : a.length ≠ k := by omega
        simp only [hne, if_false]
        omega
      · have hne : a.length ≠ k := by omega
        simp only [hne, if_false]
        exact i4
      · rw [i5 i (by omega), gx_set_ne (by omega)]
      · rcases Nat.eq_or_lt_of_le h1 with e1 | e1
        · subst e1
          have hne : k + 1 ≠ k := by omega
          simp only [if_true, hne, if_false]
          rw [i3, i5 k (by omega), gx_set (by omega)]
          exact ⟨hR, Int.le_refl _⟩
        · have n1 : i ≠ k := by omega
          have n2 : i + 1 ≠ k := by omega
          simp only [n1, n2, if_false]
          obtain ⟨q1, q2⟩ := i6 i (by omega) h2
          exact ⟨q1, by omega⟩
  obtain ⟨a', js, i1, i2, i3, i3', i4, _, i6⟩ := key a.length 0 a j0 (by omega) rfl (fun _ _ _ => rfl) (Int.le_refl _) (by simp)
  refine ⟨a', js, ?_, i2, i3, i3', i4, fun k hk => i6 k (Nat.zero_le _) hk⟩
  unfold lpO
  rw [i1]; rfl
theorem held_list {C : Type} {f : Nat → Int → Option (Res Int C)} {N : Nat} (js : Nat → Int) {j0 : Int} (h0 : js 0 = j0) (h : ∀ k, k < N → f k (js k) = some (.next (js (k + 1)))) : forO f N 0 j0 = some (.inl (js N)) := forO_st js h0.symm h
/-- Sizes: each round takes off what an element has, or ends. -/
theorem size_list {f : Nat → Int → Option (Res Int Int)} {N : Nat} (P : Nat → Prop) (l : Int) (h : ∀ k j, k < N → 0 ≤ j → j ≤ l → (f k j = some (.ret (-1))) ∨ ∃ j', f k j = some (.next j') ∧ 0 ≤ j' ∧ j' ≤ j ∧ P k) (hl : 0 ≤ l) :
    forO f N 0 l = some (.inr (-1)) ∨ ∃ j, forO f N 0 l = some (.inl j) ∧ 0 ≤ j ∧ j ≤ l ∧ ∀ k, k < N → P k := by
  have key : ∀ m k j, k + m = N → 0 ≤ j → j ≤ l → (∀ i, i < k → P i) → forO f m k j = some (.inr (-1)) ∨ ∃ j', forO f m k j = some (.inl j') ∧ 0 ≤ j' ∧ j' ≤ l ∧ ∀ i, i < N → P i := by
    intro m
    induction m with
    | zero => intro k j hk h0 h1 hP; exact .inr ⟨j, rfl, h0, h1, fun i hi => hP i (by omega)⟩
    | succ m ih =>
      intro k j hk h0 h1 hP
      rcases h k j (by omega) h0 h1 with hr | ⟨j', hr, g1, g2, g3⟩
      · left; rw [forO, hr]; rfl
      · rw [forO, hr]
        exact ih (k + 1) j' (by omega) g1 (by omega) (fun i hi => by
          rcases Nat.lt_or_ge i k with h | h
          · exact hP i h
          · have : i = k := by omega
            subst this; exact g3)
  exact key N 0 l (by omega) hl (Int.le_refl _) (fun i hi => by omega)
theorem all_of_gx {α : Type} [Rep α] {xs : List α} {P : α → Prop} (h : ∀ k, k < xs.length → P (gx xs k)) : ∀ x ∈ xs, P x := fun x hx => by
  obtain ⟨i, hi, rfl⟩ := List.getElem_of_mem hx
  have := h i hi
  rwa [gx_lt hi] at this

-- type GAct
instance : Sm GAct := ⟨fun _ => True⟩

-- type GCell
instance : Sm GCell := ⟨fun _ => True⟩

-- type GBlock
instance : Sm GBlock := ⟨fun x => Sm.ok x.Cells⟩

-- type GMember
instance : Sm GMember := ⟨fun _ => True⟩

-- type GEntry
instance : Sm GEntry := ⟨fun x => Sm.ok x.Block⟩

-- type GBooking
instance : Sm GBooking := ⟨fun _ => True⟩

-- type GGuild
instance : Sm GGuild := ⟨fun x => Sm.ok x.Members ∧ Sm.ok x.Stock ∧ Sm.ok x.Entries ∧ Sm.ok x.Books⟩

def inR (x a b : Int) : Bool := decide (x ≥ a) && decide (x ≤ b)
theorem inR_iff {x a b : Int} : inR x a b = true ↔ a ≤ x ∧ x ≤ b := by simp [inR]
theorem inR_not {x a b : Int} : inR x a b = false ↔ ¬(a ≤ x ∧ x ≤ b) := by rw [← inR_iff]; simp

@[simp] theorem l01In_eq (x a b : Int) : spec_l01In x a b = some (inR x a b) := rfl

@[simp] theorem within_eq (x a b : Int) : impl_within x a b = some (inR x a b) := rfl

@[simp] theorem isColor_eq (a : Int) : impl_isColor a = some (inR a 0 5) := rfl

def CellOkM (c : GCell) : Bool := inR c.Split 0 2 && inR c.A 0 5 && inR c.B 0 5 && ((c.Split == 0) == (c.A == c.B))

@[simp] theorem spec_CellOk_eq (c : GCell) : spec_CellOk c = some (CellOkM c) := by
  unfold spec_CellOk CellOkM
  simp only [l01In_eq, Option.bind_some]
  cases inR c.Split 0 2 <;> cases inR c.A 0 5 <;> cases inR c.B 0 5 <;> simp

@[simp] theorem impl_CellOk_eq (c : GCell) : impl_CellOk c = some (CellOkM c) := by
  unfold impl_CellOk CellOkM
  simp only [within_eq, isColor_eq, Option.bind_some]
  cases inR c.Split 0 2 <;> cases inR c.A 0 5 <;> cases inR c.B 0 5 <;> simp

theorem cellOk_spec {c : GCell} (h : CellOkM c = true) : 0 ≤ c.Split ∧ c.Split ≤ 2 ∧ 0 ≤ c.A ∧ c.A ≤ 5 ∧ 0 ≤ c.B ∧ c.B ≤ 5 ∧ (c.Split = 0 ↔ c.A = c.B) := by
  simp only [CellOkM, Bool.and_eq_true, inR_iff, beq_iff_eq] at h
  obtain ⟨⟨⟨⟨h1, h2⟩, h3, h4⟩, h5, h6⟩, h7⟩ := h
  refine ⟨h1, h2, h3, h4, h5, h6, ?_⟩
  have e1 : (c.Split == 0) = decide (c.Split = 0) := by cases h : c.Split == 0 <;> simp_all
  have e2 : (c.A == c.B) = decide (c.A = c.B) := by cases h : c.A == c.B <;> simp_all
  rw [e1, e2] at h7
  constructor
  · intro h; simp [h] at h7; exact h7
  · intro h; simp [h] at h7; exact h7
theorem cellOk_of {c : GCell} (h1 : 0 ≤ c.Split) (h2 : c.Split ≤ 2) (h3 : 0 ≤ c.A) (h4 : c.A ≤ 5) (h5 : 0 ≤ c.B) (h6 : c.B ≤ 5) (h7 : c.Split = 0 ↔ c.A = c.B) : CellOkM c = true := by
  have e1 : inR c.Split 0 2 = true := inR_iff.2 ⟨h1, h2⟩
  have e2 : inR c.A 0 5 = true := inR_iff.2 ⟨h3, h4⟩
  have e3 : inR c.B 0 5 = true := inR_iff.2 ⟨h5, h6⟩
  unfold CellOkM
  rw [e1, e2, e3]
  by_cases h : c.Split = 0
  · have := h7.1 h; simp [h, this]
  · have : ¬ c.A = c.B := fun e => h (h7.2 e)
    have q1 : (c.Split == 0) = false := beq_eq_false_iff_ne.2 h
    have q2 : (c.A == c.B) = false := beq_eq_false_iff_ne.2 this
    rw [q1, q2]; rfl

def WholeCellM (a : Int) : GCell := bif inR a 0 5 then ⟨0, a, a⟩ else ⟨0, 0, 0⟩

@[simp] theorem spec_WholeCell_eq (a : Int) : spec_WholeCell a = some (WholeCellM a) := by
  unfold spec_WholeCell WholeCellM
  simp only [l01In_eq, Option.bind_some]
  cases inR a 0 5 <;> rfl

@[simp] theorem impl_WholeCell_eq (a : Int) : impl_WholeCell a = some (WholeCellM a) := by
  unfold impl_WholeCell WholeCellM
  simp only [isColor_eq, Option.bind_some]
  cases inR a 0 5 <;> rfl

def SplitCellM (s a b : Int) : GCell := bif a == b then WholeCellM a else bif CellOkM ⟨s, a, b⟩ then ⟨s, a, b⟩ else ⟨0, 0, 0⟩

@[simp] theorem spec_SplitCell_eq (s a b : Int) : spec_SplitCell s a b = some (SplitCellM s a b) := by
  unfold spec_SplitCell SplitCellM
  simp only [spec_WholeCell_eq, spec_CellOk_eq, Option.bind_some]
  cases a == b <;> cases CellOkM ⟨s, a, b⟩ <;> rfl

@[simp] theorem impl_SplitCell_eq (s a b : Int) : impl_SplitCell s a b = some (SplitCellM s a b) := by
  unfold impl_SplitCell SplitCellM
  simp only [impl_WholeCell_eq, impl_CellOk_eq, Option.bind_some]
  cases a == b <;> cases CellOkM ⟨s, a, b⟩ <;> rfl

/-- Row by row. -/
def cellsM {α : Type} (h w : Nat) (F : Nat → Nat → α) : List α := (List.range h).flatMap fun y => (List.range w).map fun x => F y x
theorem cellsM_length {α : Type} (h w : Nat) (F : Nat → Nat → α) : (cellsM h w F).length = h * w := by
  induction h with
  | zero => simp [cellsM]
  | succ h ih =>
    unfold cellsM at ih ⊢
    rw [List.range_succ, List.flatMap_append, List.length_append, ih]
    simp [Nat.add_mul]
theorem cellsM_succ {α : Type} (h w : Nat) (F : Nat → Nat → α) : cellsM (h + 1) w F = cellsM h w F ++ (List.range w).map fun x => F h x := by
  simp [cellsM, List.range_succ]
theorem cellsM_gx {α : Type} [Rep α] {h w : Nat} {F : Nat → Nat → α} {y x : Nat} (hy : y < h) (hx : x < w) : gx (cellsM h w F) (y * w + x) = F y x := by
  induction h with
  | zero => omega
  | succ h ih =>
    rw [cellsM_succ]
    rcases Nat.lt_or_ge y h with hlt | hge
    · have hl : y * w + x < h * w := by
        have := Nat.mul_le_mul_right w (show y + 1 ≤ h from hlt)
        rw [Nat.add_mul] at this; omega
      have := ih hlt
      unfold gx List.getD at this ⊢
      rw [List.getElem?_append_left (by rw [cellsM_length]; exact hl)]
      exact this
    · have e : y = h := by omega
      subst e
      unfold gx List.getD
      rw [List.getElem?_append_right (by rw [cellsM_length]; omega), cellsM_length]
      simp [hx]
theorem cellsM_all {α : Type} {h w : Nat} {F : Nat → Nat → α} {P : α → Prop} (hF : ∀ y x, y < h → x < w → P (F y x)) : ∀ c ∈ cellsM h w F, P c := by
  intro c hc
  simp only [cellsM, List.mem_flatMap, List.mem_map, List.mem_range] at hc
  obtain ⟨y, hy, x, hx, rfl⟩ := hc
  exact hF y x hy hx
theorem loop2 {α : Type} {f1 : Nat → List α → Option (Res (List α) Empty)} {f2 : Nat → Nat → List α → Option (Res (List α) Empty)} {h w : Nat} (F : Nat → Nat → α) (h1 : ∀ k s, f1 k s = (lpO (f2 k) w s).bind fun e => some (.next e))
    (h2 : ∀ k1 k2 s, k1 < h → k2 < w → s.length < h * w → f2 k1 k2 s = some (.next (s ++ [F k1 k2]))) : lpO f1 h [] = some (cellsM h w F) := by
  refine (lpO_cat (xs := []) (fun y => (List.range w).map fun x => F y x) fun k s hk hs => ?_).trans (by simp [cellsM])
  have hl : s.length = k * w := by
    rw [hs, List.nil_append]; exact cellsM_length k w F
  rw [h1, lpO_app (xs := s) (fun x => F k x) fun k2 s2 hk2 hs2 => h2 k k2 s2 hk hk2 (by
    have := Nat.mul_le_mul_right w (show k + 1 ≤ h from hk)
    rw [Nat.add_mul] at this; omega)]
  rfl

theorem made_eq (n : Nat) (one : Int → Int → Option GCell) (F : Nat → Nat → GCell) (hn : n ≤ 1000) (h : ∀ y x : Nat, y < n → x < n → one (x : Int) (y : Int) = some (F y x)) : impl_made (n : Int) one = some ⟨n, cellsM n n F⟩ := by
  unfold impl_made
  have hN : ((n : Int)).toNat = n := by simp
  rw [hN, gd_pos (by omega), loop2 (f1 := impl_made_L1 n one) (f2 := impl_made_L2 one) (h := n) (w := n) F (fun k s => by simp only [impl_made_L1, hN]) (fun k1 k2 s h1 h2 h3 => by
    have : n * n ≤ 1000 * 1000 := Nat.mul_le_mul hn hn
    simp only [impl_made_L2, h k1 k2 h1 h2, Option.bind_some]
    rw [gd_pos (by omega)])]
  rfl

def BlockOkM (b : GBlock) : Bool := inR b.Size 1 4 && ((b.Cells.length : Int) == b.Size * b.Size) && b.Cells.all CellOkM
theorem size_cases {n : Int} (h : inR n 1 4 = true) : n = 1 ∨ n = 2 ∨ n = 3 ∨ n = 4 := by
  rw [inR_iff] at h; omega

@[simp] theorem spec_BlockOk_eq (b : GBlock) : spec_BlockOk b = some (BlockOkM b) := by
  unfold spec_BlockOk BlockOkM
  simp only [l01In_eq, Option.bind_some]
  cases h : inR b.Size 1 4
  · rfl
  · have hw : wr (b.Size * b.Size) = b.Size * b.Size := by rcases size_cases h with e | e | e | e <;> rw [e] <;> decide
    rw [hw]
    cases hl : ((b.Cells.length : Int) == b.Size * b.Size)
    · have : (((b.Cells.length : Nat) : Int) != b.Size * b.Size) = true := by simp [bne, hl]
      simp [this]
    · have hl' : (b.Cells.length : Int) = b.Size * b.Size := by simpa using hl
      have : (((b.Cells.length : Nat) : Int) != b.Size * b.Size) = false := by simp [bne, hl]
      simp only [this, Bool.not_true, cond_false, Option.bind_some]
      rw [gd_pos (by rcases size_cases h with e | e | e | e <;> rw [e] at hl' <;> omega), forO_all (f := spec_BlockOk_L1 b) (fun k => CellOkM (gx b.Cells k)) (fun k hk => by
        simp only [spec_BlockOk_L1, spec_CellOk_eq, Option.bind_some]; cases CellOkM (gx b.Cells k) <;> rfl), all_gx]
      cases b.Cells.all CellOkM <;> rfl

@[simp] theorem impl_BlockOk_eq (b : GBlock) : impl_BlockOk b = some (BlockOkM b) := by
  unfold impl_BlockOk BlockOkM
  simp only [within_eq, Option.bind_some]
  cases h : inR b.Size 1 4
  · rfl
  · have hw : wr (b.Size * b.Size) = b.Size * b.Size := by rcases size_cases h with e | e | e | e <;> rw [e] <;> decide
    rw [hw]
    cases hl : ((b.Cells.length : Int) == b.Size * b.Size)
    · have : (((b.Cells.length : Nat) : Int) != b.Size * b.Size) = true := by simp [bne, hl]
      simp [this]
    · have hl' : (b.Cells.length : Int) = b.Size * b.Size := by simpa using hl
      have : (((b.Cells.length : Nat) : Int) != b.Size * b.Size) = false := by simp [bne, hl]
      simp only [this, Bool.not_true, cond_false, Option.bind_some]
      rw [gd_pos (by rcases size_cases h with e | e | e | e <;> rw [e] at hl' <;> omega), forO_all (f := impl_BlockOk_L1 b) (fun k => CellOkM (gx b.Cells k)) (fun k hk => by
        simp only [impl_BlockOk_L1, impl_CellOk_eq, Option.bind_some]; cases CellOkM (gx b.Cells k) <;> rfl), all_gx]
      cases b.Cells.all CellOkM <;> rfl

/-- A valid block: its side as a number, and its cells. -/
theorem blockOk_spec {b : GBlock} (h : BlockOkM b = true) : ∃ n : Nat, b.Size = n ∧ 1 ≤ n ∧ n ≤ 4 ∧ b.Cells.length = n * n ∧ ∀ c ∈ b.Cells, CellOkM c = true := by
  simp only [BlockOkM, Bool.and_eq_true, beq_iff_eq, List.all_eq_true] at h
  obtain ⟨⟨h1, h2⟩, h3⟩ := h
  rcases size_cases h1 with e | e | e | e <;> rw [e] at h2
  · exact ⟨1, e, by omega, by omega, by omega, h3⟩
  · exact ⟨2, e, by omega, by omega, by omega, h3⟩
  · exact ⟨3, e, by omega, by omega, by omega, h3⟩
  · exact ⟨4, e, by omega, by omega, by omega, h3⟩
theorem blockOk_of {n : Nat} {cs : List GCell} (h1 : 1 ≤ n) (h2 : n ≤ 4) (hl : cs.length = n * n) (hc : ∀ c ∈ cs, CellOkM c = true) : BlockOkM ⟨n, cs⟩ = true := by
  simp only [BlockOkM, Bool.and_eq_true, beq_iff_eq, List.all_eq_true]
  exact ⟨⟨inR_iff.2 ⟨by omega, by omega⟩, by rw [hl]; simp⟩, hc⟩
theorem blockOk_sm {b : GBlock} (h : BlockOkM b = true) : Sm.ok b := by
  obtain ⟨n, _, h1, h2, hl, _⟩ := blockOk_spec h
  have : n * n ≤ 4 * 4 := Nat.mul_le_mul h2 h2
  exact ⟨by omega, fun _ _ => trivial⟩
theorem zero_sm : Sm.ok (⟨0, []⟩ : GBlock) := ⟨by simp, fun _ h => by simp at h⟩

def TurnCellM (c : GCell) : GCell := bif CellOkM c then (bif c.Split == 1 then ⟨2, c.B, c.A⟩ else bif c.Split == 2 then ⟨1, c.A, c.B⟩ else c) else ⟨0, 0, 0⟩
theorem turnCell_ok {c : GCell} (h : CellOkM c = true) : CellOkM (TurnCellM c) = true := by
  obtain ⟨h1, h2, h3, h4, h5, h6, h7⟩ := cellOk_spec h
  unfold TurnCellM
  rw [h]
  by_cases e1 : c.Split = 1
  · simp only [e1, beq_self_eq_true, cond_true]
    exact cellOk_of (show (0 : Int) ≤ 2 by decide) (show (2 : Int) ≤ 2 by decide) h5 h6 h3 h4 ⟨fun h => by simp at h, fun h => by have := h7.2 h.symm; omega⟩
  · by_cases e2 : c.Split = 2
    · have : (c.Split == 1) = false := by simp [e1]
      simp only [e2, cond_true, cond_false, beq_self_eq_true, show ((2 : Int) == 1) = false from rfl]
      exact cellOk_of (show (0 : Int) ≤ 1 by decide) (show (1 : Int) ≤ 2 by decide) h3 h4 h5 h6 ⟨fun h => by simp at h, fun h => by have := h7.2 h; omega⟩
    · rw [beq_eq_false_iff_ne.2 e1, beq_eq_false_iff_ne.2 e2]; exact h

@[simp] theorem spec_TurnCell_eq (c : GCell) : spec_TurnCell c = some (TurnCellM c) := by
  unfold spec_TurnCell TurnCellM
  simp only [spec_CellOk_eq, Option.bind_some]
  cases CellOkM c <;> cases c.Split == 1 <;> cases c.Split == 2 <;> rfl

@[simp] theorem impl_TurnCell_eq (c : GCell) : impl_TurnCell c = some (TurnCellM c) := by
  unfold impl_TurnCell TurnCellM
  simp only [impl_CellOk_eq, Option.bind_some]
  cases CellOkM c <;> cases c.Split == 1 <;> cases c.Split == 2 <;> rfl

def MirrorCellM (c : GCell) : GCell := bif CellOkM c then (bif c.Split == 0 then c else ⟨3 - c.Split, c.B, c.A⟩) else ⟨0, 0, 0⟩
theorem mirrorCell_ok {c : GCell} (h : CellOkM c = true) : CellOkM (MirrorCellM c) = true := by
  obtain ⟨h1, h2, h3, h4, h5, h6, h7⟩ := cellOk_spec h
  unfold MirrorCellM
  rw [h]
  by_cases e0 : c.Split = 0
  · simp [e0, h]
  · have : (c.Split == 0) = false := by simp [e0]
    simp only [this, cond_true, cond_false]
    exact cellOk_of (by simp only; omega) (by simp only; omega) h5 h6 h3 h4 ⟨fun h => by simp only at h; omega, fun h => absurd (h7.2 h.symm) e0⟩

@[simp] theorem spec_MirrorCell_eq (c : GCell) : spec_MirrorCell c = some (MirrorCellM c) := by
  unfold spec_MirrorCell MirrorCellM
  simp only [spec_CellOk_eq, Option.bind_some]
  cases h : CellOkM c
  · rfl
  · obtain ⟨h1, h2, _⟩ := cellOk_spec h
    rw [wr_of (by omega) (by omega)]
    cases c.Split == 0 <;> rfl

@[simp] theorem impl_MirrorCell_eq (c : GCell) : impl_MirrorCell c = some (MirrorCellM c) := by
  unfold impl_MirrorCell MirrorCellM
  simp only [impl_CellOk_eq, Option.bind_some]
  cases h : CellOkM c
  · rfl
  · obtain ⟨h1, h2, _⟩ := cellOk_spec h
    rw [wr_of (by omega) (by omega)]
    cases c.Split == 0 <;> rfl

def CellAtM (b : GBlock) (x y : Int) : GCell := bif BlockOkM b && inR x 0 (b.Size - 1) && inR y 0 (b.Size - 1) then gx b.Cells (y * b.Size + x).toNat else ⟨0, 0, 0⟩
theorem idx_lt {n y x : Nat} (hy : y < n) (hx : x < n) : y * n + x < n * n := by
  have := Nat.mul_le_mul_right n (show y + 1 ≤ n from hy)
  rw [Nat.add_mul] at this; omega
theorem idx_lt2 {h w y x : Nat} (hy : y < h) (hx : x < w) : y * w + x < h * w := by
  have := Nat.mul_le_mul_right w (show y + 1 ≤ h from hy)
  rw [Nat.add_mul] at this; omega
theorem cellAtM_nat {b : GBlock} {n x y : Nat} (h : BlockOkM b = true) (hn : b.Size = n) (hx : x < n) (hy : y < n) : CellAtM b x y = gx b.Cells (y * n + x) := by
  have e1 : inR (x : Int) 0 (b.Size - 1) = true := inR_iff.2 ⟨by omega, by omega⟩
  have e2 : inR (y : Int) 0 (b.Size - 1) = true := inR_iff.2 ⟨by omega, by omega⟩
  have e3 : ((y : Int) * b.Size + x).toNat = y * n + x := by
    rw [hn]
    have : ((y : Int) * (n : Int) + (x : Int)) = ((y * n + x : Nat) : Int) := by simp
    rw [this, Int.toNat_natCast]
  simp [CellAtM, h, e1, e2, e3]

theorem impl_isPlace_eq (b : GBlock) (x y : Int) : impl_Block_isPlace b x y = some (BlockOkM b && inR x 0 (b.Size - 1) && inR y 0 (b.Size - 1)) := by
  unfold impl_Block_isPlace
  simp only [impl_BlockOk_eq, within_eq, Option.bind_some]
  cases h : BlockOkM b
  · rfl
  · obtain ⟨n, hn, h1, h2, _⟩ := blockOk_spec h
    rw [wr_of (by omega) (by omega)]
    cases inR x 0 (b.Size - 1) <;> cases inR y 0 (b.Size - 1) <;> rfl

@[simp] theorem impl_CellAt_eq (b : GBlock) (x y : Int) : impl_CellAt b x y = some (CellAtM b x y) := by
  unfold impl_CellAt CellAtM
  simp only [impl_isPlace_eq, Option.bind_some]
  cases h : (BlockOkM b && inR x 0 (b.Size - 1) && inR y 0 (b.Size - 1))
  · rfl
  · simp only [Bool.and_eq_true, inR_iff] at h
    obtain ⟨⟨h0, hx⟩, hy⟩ := h
    obtain ⟨n, hn, h1, h2, hl, _⟩ := blockOk_spec h0
    rw [hn] at hx hy ⊢
    obtain ⟨x', rfl⟩ := Int.eq_ofNat_of_zero_le hx.1
    obtain ⟨y', rfl⟩ := Int.eq_ofNat_of_zero_le hy.1
    have hlt : y' * n + x' < n * n := idx_lt (by omega) (by omega)
    have hnn : n * n ≤ 4 * 4 := Nat.mul_le_mul h2 h2
    have hy' : y' * n ≤ n * n := by omega
    have e : wr (wr ((y' : Int) * (n : Int)) + (x' : Int)) = ((y' * n + x' : Nat) : Int) := by
      have : (y' : Int) * (n : Int) = ((y' * n : Nat) : Int) := by simp
      rw [this, wr_of (n := ((y' * n : Nat) : Int)) (by omega) (by omega), wr_of (by omega) (by omega)]; simp
    have e' : ((y' : Int) * (n : Int) + (x' : Int)) = ((y' * n + x' : Nat) : Int) := by simp
    rw [e, e', gd_pos ⟨by omega, by omega⟩]
    rfl

def TurnBlockM (b : GBlock) : GBlock := bif BlockOkM b then ⟨b.Size, cellsM b.Size.toNat b.Size.toNat fun y x => TurnCellM (gx b.Cells ((b.Size.toNat - 1 - x) * b.Size.toNat + y))⟩ else ⟨0, []⟩
theorem turnBlock_ok {b : GBlock} (h : BlockOkM b = true) : BlockOkM (TurnBlockM b) = true := by
  obtain ⟨n, hn, h1, h2, hl, hc⟩ := blockOk_spec h
  unfold TurnBlockM
  rw [h, hn]
  simp only [cond_true, Int.toNat_natCast]
  exact blockOk_of h1 h2 (cellsM_length _ _ _) (cellsM_all fun y x hy hx => turnCell_ok (hc _ (gx_mem (by rw [hl]; exact idx_lt (by omega) hy))))
theorem turnBlock_size (b : GBlock) (h : BlockOkM b = true) : (TurnBlockM b).Size = b.Size := by simp [TurnBlockM, h]
theorem idx_turn {n y x : Nat} (h1 : 1 ≤ n) (h2 : n ≤ 4) (hy : y < n) (hx : x < n) : wr ((wr ((wr ((wr ((n : Int) - 1)) - (x : Int))) * (n : Int))) + (y : Int)) = (((n - 1 - x) * n + y : Nat) : Int) := by
  have hn : n = 1 ∨ n = 2 ∨ n = 3 ∨ n = 4 := by omega
  rcases hn with rfl | rfl | rfl | rfl <;> simp (disch := omega) only [wr_of] <;> omega
theorem idx_mirror {n y x : Nat} (h1 : 1 ≤ n) (h2 : n ≤ 4) (hy : y < n) (hx : x < n) : wr ((wr ((wr ((wr ((y : Int) * (n : Int))) + (n : Int))) - 1)) - (x : Int)) = ((y * n + (n - 1 - x) : Nat) : Int) := by
  have hn : n = 1 ∨ n = 2 ∨ n = 3 ∨ n = 4 := by omega
  rcases hn with rfl | rfl | rfl | rfl <;> simp (disch := omega) only [wr_of] <;> omega

@[simp] theorem spec_TurnBlock_eq (b : GBlock) : spec_TurnBlock b = some (TurnBlockM b) := by
  unfold spec_TurnBlock TurnBlockM
  simp only [spec_BlockOk_eq, Option.bind_some]
  cases h : BlockOkM b
  · rfl
  · obtain ⟨n, hn, h1, h2, hl, hc⟩ := blockOk_spec h
    have hN : b.Size.toNat = n := by rw [hn]; simp
    have hnn : n * n ≤ 4 * 4 := Nat.mul_le_mul h2 h2
    simp only [hN, Bool.not_true, cond_false, cond_true]
    rw [gd_pos (by omega), loop2 (f1 := spec_TurnBlock_L1 b) (f2 := spec_TurnBlock_L2 b) (h := n) (w := n) (fun y x => TurnCellM (gx b.Cells ((n - 1 - x) * n + y))) (fun k s => by simp only [spec_TurnBlock_L1, hN]) (fun y x s hy hx hs => by
      have hlt : (n - 1 - x) * n + y < n * n := idx_lt (by omega) hy
      simp only [spec_TurnBlock_L2, hn, idx_turn h1 h2 hy hx, Int.toNat_natCast, spec_TurnCell_eq, Option.bind_some]
      rw [gd_pos ⟨by omega, by omega⟩, gd_pos (by omega)])]
    rfl

@[simp] theorem impl_TurnBlock_eq (b : GBlock) : impl_TurnBlock b = some (TurnBlockM b) := by
  unfold impl_TurnBlock TurnBlockM
  simp only [impl_BlockOk_eq, Option.bind_some]
  cases h : BlockOkM b
  · rfl
  · obtain ⟨n, hn, h1, h2, hl, hc⟩ := blockOk_spec h
    simp only [Bool.not_true, cond_false, cond_true, hn, Int.toNat_natCast]
    rw [made_eq n _ (fun y x => TurnCellM (gx b.Cells ((n - 1 - x) * n + y))) (by omega) (fun y x hy hx => by
      have e : wr (wr ((n : Int) - 1) - (x : Int)) = ((n - 1 - x : Nat) : Int) := by simp (disch := omega) only [wr_of]; omega
      simp only [impl_TurnBlock_c1, hn, e, impl_CellAt_eq, impl_TurnCell_eq, Option.bind_some]
      rw [cellAtM_nat h hn hy (by omega)])]
    rfl

def MirrorBlockM (b : GBlock) : GBlock := bif BlockOkM b then ⟨b.Size, cellsM b.Size.toNat b.Size.toNat fun y x => MirrorCellM (gx b.Cells (y * b.Size.toNat + (b.Size.toNat - 1 - x)))⟩ else ⟨0, []⟩
theorem mirrorBlock_ok {b : GBlock} (h : BlockOkM b = true) : BlockOkM (MirrorBlockM b) = true := by
  obtain ⟨n, hn, h1, h2, hl, hc⟩ := blockOk_spec h
  unfold MirrorBlockM
  rw [h, hn]
  simp only [cond_true, Int.toNat_natCast]
  exact blockOk_of h1 h2 (cellsM_length _ _ _) (cellsM_all fun y x hy hx => mirrorCell_ok (hc _ (gx_mem (by rw [hl]; exact idx_lt hy (by omega)))))
theorem mirrorBlock_size (b : GBlock) (h : BlockOkM b = true) : (MirrorBlockM b).Size = b.Size := by simp [MirrorBlockM, h]

@[simp] theorem spec_MirrorBlock_eq (b : GBlock) : spec_MirrorBlock b = some (MirrorBlockM b) := by
  unfold spec_MirrorBlock MirrorBlockM
  simp only [spec_BlockOk_eq, Option.bind_some]
  cases h : BlockOkM b
  · rfl
  · obtain ⟨n, hn, h1, h2, hl, hc⟩ := blockOk_spec h
    have hN : b.Size.toNat = n := by rw [hn]; simp
    have hnn : n * n ≤ 4 * 4 := Nat.mul_le_mul h2 h2
    simp only [hN, Bool.not_true, cond_false, cond_true]
    rw [gd_pos (by omega), loop2 (f1 := spec_MirrorBlock_L1 b) (f2 := spec_MirrorBlock_L2 b) (h := n) (w := n) (fun y x => MirrorCellM (gx b.Cells (y * n + (n - 1 - x)))) (fun k s => by simp only [spec_MirrorBlock_L1, hN]) (fun y x s hy hx hs => by
      have hlt : y * n + (n - 1 - x) < n * n := idx_lt hy (by omega)
      simp only [spec_MirrorBlock_L2, hn, idx_mirror h1 h2 hy hx, Int.toNat_natCast, spec_MirrorCell_eq, Option.bind_some]
      rw [gd_pos ⟨by omega, by omega⟩, gd_pos (by omega)])]
    rfl

@[simp] theorem impl_MirrorBlock_eq (b : GBlock) : impl_MirrorBlock b = some (MirrorBlockM b) := by
  unfold impl_MirrorBlock MirrorBlockM
  simp only [impl_BlockOk_eq, Option.bind_some]
  cases h : BlockOkM b
  · rfl
  · obtain ⟨n, hn, h1, h2, hl, hc⟩ := blockOk_spec h
    simp only [Bool.not_true, cond_false, cond_true, hn, Int.toNat_natCast]
    rw [made_eq n _ (fun y x => MirrorCellM (gx b.Cells (y * n + (n - 1 - x)))) (by omega) (fun y x hy hx => by
      have e : wr (wr ((n : Int) - 1) - (x : Int)) = ((n - 1 - x : Nat) : Int) := by simp (disch := omega) only [wr_of]; omega
      simp only [impl_MirrorBlock_c1, hn, e, impl_CellAt_eq, impl_MirrorCell_eq, Option.bind_some]
      rw [cellAtM_nat h hn (by omega) hy])]
    rfl

def turnsM : Nat → GBlock → GBlock
  | 0, b => b
  | k + 1, b => TurnBlockM (turnsM k b)
def SeenM (b : GBlock) (k : Int) : GBlock := bif BlockOkM b && inR k 0 7 then turnsM (k.tmod 4).toNat (bif decide (k ≥ 4) then MirrorBlockM b else b) else ⟨0, []⟩
theorem turns_ok {b : GBlock} (h : BlockOkM b = true) : ∀ k, BlockOkM (turnsM k b) = true ∧ (turnsM k b).Size = b.Size
  | 0 => ⟨h, rfl⟩
  | k + 1 => by
    obtain ⟨h1, h2⟩ := turns_ok h k
    exact ⟨turnBlock_ok h1, by rw [turnsM, turnBlock_size _ h1, h2]⟩
theorem seen_ok {b : GBlock} {k : Int} (h : BlockOkM b = true) (hk : inR k 0 7 = true) : BlockOkM (SeenM b k) = true ∧ (SeenM b k).Size = b.Size := by
  unfold SeenM
  rw [h, hk]
  cases hd : decide (k ≥ 4)
  · exact turns_ok h _
  · obtain ⟨h1, h2⟩ := turns_ok (mirrorBlock_ok h) (k.tmod 4).toNat
    exact ⟨h1, by rw [← mirrorBlock_size b h]; exact h2⟩
theorem tmod4 {k : Int} (hk : inR k 0 7 = true) : (k.tmod 4).toNat ≤ 3 := by
  rw [inR_iff] at hk
  have : k.tmod 4 = k % 4 := by rw [Int.tmod_eq_emod_of_nonneg hk.1]
  omega

@[simp] theorem spec_SeenFrom_eq (b : GBlock) (k : Int) : spec_SeenFrom b k = some (SeenM b k) := by
  unfold spec_SeenFrom SeenM
  simp only [spec_BlockOk_eq, l01In_eq, Option.bind_some]
  cases h : BlockOkM b
  · rfl
  · cases hk : inR k 0 7
    · rfl
    · have hs := (blockOk_sm h).1
      have ht := tmod4 hk
      have hc : spec_l03Copy b = some b := by
        unfold spec_l03Copy
        rw [gd_pos (by simp; omega)]; simp
      simp only [hc, spec_MirrorBlock_eq, Option.bind_some, Bool.not_true, cond_false]
      have key : ∀ b0 : GBlock, lpO spec_SeenFrom_L1 (k.tmod 4).toNat (b0.Size, b0.Cells) = some ((turnsM (k.tmod 4).toNat b0).Size, (turnsM (k.tmod 4).toNat b0).Cells) := fun b0 =>
        lpO_st (fun j => ((turnsM j b0).Size, (turnsM j b0).Cells)) rfl fun j _ => by
          simp only [spec_SeenFrom_L1, spec_TurnBlock_eq, Option.bind_some]; rfl
      cases decide (k ≥ 4) <;> simp only [cond_true, cond_false, Option.bind_some] <;> rw [gd_pos (by omega), key] <;> rfl

@[simp] theorem impl_SeenFrom_eq (b : GBlock) (k : Int) : impl_SeenFrom b k = some (SeenM b k) := by
  unfold impl_SeenFrom SeenM
  simp only [impl_BlockOk_eq, within_eq, Option.bind_some]
  cases h : BlockOkM b
  · rfl
  · cases hk : inR k 0 7
    · rfl
    · have hs := (blockOk_sm h).1
      have ht := tmod4 hk
      have hc : impl_Block_copied b = some b := by
        unfold impl_Block_copied
        rw [gd_pos (by simp; omega)]; simp
      simp only [hc, impl_MirrorBlock_eq, Option.bind_some, Bool.not_true, cond_false]
      have key : ∀ b0 : GBlock, lpO impl_SeenFrom_L1 (k.tmod 4).toNat (b0.Size, b0.Cells) = some ((turnsM (k.tmod 4).toNat b0).Size, (turnsM (k.tmod 4).toNat b0).Cells) := fun b0 =>
        lpO_st (fun j => ((turnsM j b0).Size, (turnsM j b0).Cells)) rfl fun j _ => by
          simp only [impl_SeenFrom_L1, impl_TurnBlock_eq, Option.bind_some]; rfl
      cases decide (k ≥ 4) <;> simp only [cond_true, cond_false, Option.bind_some] <;> rw [gd_pos (by omega), key] <;> rfl

theorem gx_map {α β : Type} [Rep α] [Rep β] (F : α → β) {xs : List α} {k : Nat} (h : k < xs.length) : gx (xs.map F) k = F (gx xs k) := by
  rw [gx_lt (by simpa using h), gx_lt h]; simp

/-- A sum. -/
def isum : List Int → Int
  | [] => 0
  | x :: r => x + isum r
theorem isum_append : ∀ xs ys : List Int, isum (xs ++ ys) = isum xs + isum ys
  | [], ys => by simp [isum]
  | x :: r, ys => by simp [isum, isum_append r ys]; omega
theorem isum_bound {B : Int} : ∀ {xs : List Int}, (∀ x ∈ xs, 0 ≤ x ∧ x ≤ B) → 0 ≤ isum xs ∧ isum xs ≤ B * xs.length
  | [], _ => by simp [isum]
  | x :: r, h => by
    obtain ⟨h1, h2⟩ := isum_bound (xs := r) fun y hy => h y (by simp [hy])
    obtain ⟨h3, h4⟩ := h x (by simp)
    have e : B * ((x :: r).length : Int) = B * r.length + B := by
      rw [List.length_cons, Int.natCast_add, Int.mul_add]; simp
    rw [e]
    simp only [isum]; omega
theorem lpO_sum {f : Nat → Int → Option (Res Int Empty)} {N : Nat} (g : Nat → Int) {s0 B : Int} (h : ∀ k s, k < N → 0 ≤ s → s + B ≤ 4611686018427387904 → f k s = some (.next (s + g k))) (hg : ∀ k, k < N → 0 ≤ g k ∧ g k ≤ B) (hB : 0 ≤ B) (h0 : 0 ≤ s0) (hN : s0 + B * N ≤ 4611686018427387904) : lpO f N s0 = some (s0 + isum ((List.range N).map g)) :=
  lpO_st (fun k => s0 + isum ((List.range k).map g)) (by simp [isum]) fun k hk => by
    have hb := isum_bound (B := B) (xs := (List.range k).map g) fun x hx => by
      simp only [List.mem_map, List.mem_range] at hx
      obtain ⟨i, hi, rfl⟩ := hx
      exact hg i (by omega)
    have hmul : B * ((k + 1 : Nat) : Int) ≤ B * N := Int.mul_le_mul_of_nonneg_left (by omega) hB
    have hm1 : B * ((k + 1 : Nat) : Int) = B * k + B := by rw [Int.natCast_add, Int.mul_add]; simp
    simp only [List.length_map, List.length_range] at hb
    have e : isum ((List.range (k + 1)).map g) = isum ((List.range k).map g) + g k := by
      rw [List.range_succ, List.map_append, isum_append]; simp [isum]
    rw [h k _ hk (by omega) (by omega), e, Int.add_assoc]

def triM (c : GCell) : Int := bif c.Split != 0 then 2 else 0
def CountTriM (b : GBlock) : Int := bif BlockOkM b then isum (b.Cells.map triM) else -1

def arM (a : Int) (c : GCell) : Int := (bif c.A == a then 2 else 0) + (bif c.B == a then 2 else 0)
theorem ar_bound (a : Int) (c : GCell) : 0 ≤ arM a c ∧ arM a c ≤ 4 := by unfold arM; cases c.A == a <;> cases c.B == a <;> simp
def AreaM (b : GBlock) (a : Int) : Int := bif BlockOkM b then isum (b.Cells.map (arM a)) else 0

theorem impl_CellArea_eq {c : GCell} (h : CellOkM c = true) (a : Int) : impl_CellArea c a = some (arM a c) := by
  unfold impl_CellArea arM
  simp only [impl_CellOk_eq, Option.bind_some, h]
  cases c.A == a <;> cases c.B == a <;> rfl

@[simp] theorem impl_AreaOf_eq (b : GBlock) (a : Int) : impl_AreaOf b a = some (AreaM b a) := by
  unfold impl_AreaOf AreaM
  simp only [impl_BlockOk_eq, Option.bind_some]
  cases h : BlockOkM b
  · rfl
  · obtain ⟨n, hn, h1, h2, hl, hc⟩ := blockOk_spec h
    have hnn : n * n ≤ 4 * 4 := Nat.mul_le_mul h2 h2
    simp only [Bool.not_true, cond_false, cond_true]
    rw [gd_pos (by omega), lpO_sum (f := impl_AreaOf_L1 b a) (fun k => arM a (gx b.Cells k)) (B := 4) (fun k s hk g0 g1 => by
      have := ar_bound a (gx b.Cells k)
      simp only [impl_AreaOf_L1, impl_CellArea_eq (hc _ (gx_mem hk)), Option.bind_some]
      rw [wr_of (by omega) (by omega)]) (fun k _ => ar_bound _ _) (by omega) (by omega) (by omega), map_gx]
    simp

/-- What counts the cells alone is the same from all sides. -/
theorem turn_sum (f : GCell → Int) (hf : ∀ c, CellOkM c = true → f (TurnCellM c) = f c) {b : GBlock} (h : BlockOkM b = true) : isum ((TurnBlockM b).Cells.map f) = isum (b.Cells.map f) := by
  obtain ⟨n, hn, h1, h2, hl, hc⟩ := blockOk_spec h
  unfold TurnBlockM
  rw [h, hn]
  simp only [cond_true, Int.toNat_natCast]
  have e : ∀ m, b.Cells.length = m → isum (b.Cells.map f) = isum ((List.range m).map fun i => f (gx b.Cells i)) := by rintro m rfl; rw [map_gx]
  rw [e _ hl]
  have hfi : ∀ i, i < n * n → f (TurnCellM (gx b.Cells i)) = f (gx b.Cells i) := fun i hi => hf _ (hc _ (gx_mem (by omega)))
  have hn' : n = 1 ∨ n = 2 ∨ n = 3 ∨ n = 4 := by omega
  rcases hn' with rfl | rfl | rfl | rfl <;> simp (disch := omega) [cellsM, List.range, List.range.loop, isum, hfi] <;> omega
theorem mirror_sum (f : GCell → Int) (hf : ∀ c, CellOkM c = true → f (MirrorCellM c) = f c) {b : GBlock} (h : BlockOkM b = true) : isum ((MirrorBlockM b).Cells.map f) = isum (b.Cells.map f) := by
  obtain ⟨n, hn, h1, h2, hl, hc⟩ := blockOk_spec h
  unfold MirrorBlockM
  rw [h, hn]
  simp only [cond_true, Int.toNat_natCast]
  have e : ∀ m, b.Cells.length = m → isum (b.Cells.map f) = isum ((List.range m).map fun i => f (gx b.Cells i)) := by rintro m rfl; rw [map_gx]
  rw [e _ hl]
  have hfi : ∀ i, i < n * n → f (MirrorCellM (gx b.Cells i)) = f (gx b.Cells i) := fun i hi => hf _ (hc _ (gx_mem (by omega)))
  have hn' : n = 1 ∨ n = 2 ∨ n = 3 ∨ n = 4 := by omega
  rcases hn' with rfl | rfl | rfl | rfl <;> simp (disch := omega) [cellsM, List.range, List.range.loop, isum, hfi] <;> omega
theorem seen_sum (f : GCell → Int) (ht : ∀ c, CellOkM c = true → f (TurnCellM c) = f c) (hm : ∀ c, CellOkM c = true → f (MirrorCellM c) = f c) {b : GBlock} {k : Int} (h : BlockOkM b = true) (hk : inR k 0 7 = true) : isum ((SeenM b k).Cells.map f) = isum (b.Cells.map f) := by
  have turns : ∀ (b0 : GBlock), BlockOkM b0 = true → ∀ j, isum ((turnsM j b0).Cells.map f) = isum (b0.Cells.map f) := fun b0 h0 j => by
    induction j with
    | zero => rfl
    | succ j ih => rw [turnsM, turn_sum f ht (turns_ok h0 j).1, ih]
  unfold SeenM
  rw [h, hk]
  cases decide (k ≥ 4)
  · exact turns b h _
  · exact (turns _ (mirrorBlock_ok h) _).trans (mirror_sum f hm h)

theorem tri_turn {c : GCell} (h : CellOkM c = true) : triM (TurnCellM c) = triM c := by
  unfold TurnCellM triM
  rw [h]
  by_cases e1 : c.Split = 1
  · simp [e1]
  · by_cases e2 : c.Split = 2
    · simp [e2]
    · rw [beq_eq_false_iff_ne.2 e1, beq_eq_false_iff_ne.2 e2]; rfl
theorem tri_mirror {c : GCell} (h : CellOkM c = true) : triM (MirrorCellM c) = triM c := by
  obtain ⟨h1, h2, _⟩ := cellOk_spec h
  unfold MirrorCellM triM
  rw [h]
  by_cases e0 : c.Split = 0
  · simp [e0]
  · have : (3 - c.Split != 0) = true := by simp; omega
    have e : (c.Split != 0) = true := by simp [e0]
    rw [beq_eq_false_iff_ne.2 e0, e]
    simp only [cond_true, cond_false, this]
theorem ar_turn (a : Int) {c : GCell} (h : CellOkM c = true) : arM a (TurnCellM c) = arM a c := by
  unfold TurnCellM arM
  rw [h]
  by_cases e1 : c.Split = 1
  · simp only [e1, cond_true, beq_self_eq_true]; omega
  · by_cases e2 : c.Split = 2
    · simp [e2]
    · rw [beq_eq_false_iff_ne.2 e1, beq_eq_false_iff_ne.2 e2]; rfl
theorem ar_mirror (a : Int) {c : GCell} (h : CellOkM c = true) : arM a (MirrorCellM c) = arM a c := by
  unfold MirrorCellM arM
  rw [h]
  by_cases e0 : c.Split = 0
  · simp [e0]
  · have : (c.Split == 0) = false := by simp [e0]
    simp only [this, cond_true, cond_false]; omega
theorem area_seen {b : GBlock} {k : Int} (a : Int) (h : BlockOkM b = true) (hk : inR k 0 7 = true) : AreaM (SeenM b k) a = AreaM b a := by
  unfold AreaM
  rw [h, (seen_ok h hk).1]
  exact seen_sum _ (fun c hc => ar_turn a hc) (fun c hc => ar_mirror a hc) h hk
theorem countTri_seen {b : GBlock} {k : Int} (h : BlockOkM b = true) (hk : inR k 0 7 = true) : CountTriM (SeenM b k) = CountTriM b := by
  unfold CountTriM
  rw [h, (seen_ok h hk).1]
  exact seen_sum _ (fun c hc => tri_turn hc) (fun c hc => tri_mirror hc) h hk

def sumN (m : Nat) (F : Nat → Int) : Int := isum ((List.range m).map F)
theorem sumN_zero (F : Nat → Int) : sumN 0 F = 0 := rfl
theorem sumN_succ (m : Nat) (F : Nat → Int) : sumN (m + 1) F = sumN m F + F m := by
  unfold sumN
  rw [List.range_succ, List.map_append, isum_append]; simp [isum]
theorem sumN_add (m : Nat) (F G : Nat → Int) : sumN m (fun i => F i + G i) = sumN m F + sumN m G := by
  induction m with
  | zero => rfl
  | succ m ih => rw [sumN_succ, sumN_succ, sumN_succ, ih]; omega
theorem sumN_congr {m : Nat} {F G : Nat → Int} (h : ∀ i, i < m → F i = G i) : sumN m F = sumN m G := by
  unfold sumN
  congr 1
  exact List.map_congr_left fun i hi => h i (by simpa using hi)
theorem sumN_nil (m : Nat) : sumN m (fun _ => 0) = 0 := by
  induction m with
  | zero => rfl
  | succ m ih => rw [sumN_succ, ih]; rfl
theorem sumN_one {m b : Nat} (g : Nat → Int) (hb : b < m) : sumN m (fun i => (bif b == i then 1 else 0) * g i) = g b := by
  induction m with
  | zero => omega
  | succ m ih =>
    rw [sumN_succ]
    rcases Nat.lt_or_ge b m with h | h
    · rw [ih h]
      have : (b == m) = false := by simp; omega
      simp [this]
    · have e : b = m := by omega
      subst e
      have : sumN b (fun i => (bif b == i then 1 else 0) * g i) = 0 := by
        rw [sumN_congr (G := fun _ => 0), sumN_nil]
        intro i hi
        have : (b == i) = false := by simp; omega
        simp [this]
      rw [this]; simp
theorem sumN_bound {m : Nat} {F : Nat → Int} {B : Int} (h : ∀ i, i < m → 0 ≤ F i ∧ F i ≤ B) : 0 ≤ sumN m F ∧ sumN m F ≤ B * m := by
  have := isum_bound (B := B) (xs := (List.range m).map F) fun x hx => by
    simp only [List.mem_map, List.mem_range] at hx
    obtain ⟨i, hi, rfl⟩ := hx
    exact h i hi
  simpa [sumN] using this
theorem sumN_gx {α : Type} [Rep α] (f : α → Int) (xs : List α) : sumN xs.length (fun k => f (gx xs k)) = isum (xs.map f) := by
  unfold sumN; rw [map_gx]

theorem gx_range {α : Type} [Rep α] (F : Nat → α) {m i : Nat} (h : i < m) : gx ((List.range m).map F) i = F i := by
  rw [gx_lt (by simpa using h)]; simp

theorem prev_idx {k N : Nat} (hk : k < N) (hN : N ≤ 4611686018427387904) (h0 : decide ((k : Int) > 0) = true) : wr ((k : Int) - 1) = ((k - 1 : Nat) : Int) ∧ k - 1 < N := by
  have : (k : Int) > 0 := of_decide_eq_true h0
  exact ⟨by rw [wr_of (by omega) (by omega)]; omega, by omega⟩

def memP (xs : List GMember) (k : Nat) : Bool := inR (gx xs k).Number 1 999 && inR (gx xs k).Since 1900 2999 && inR (gx xs k).Paid (wr ((gx xs k).Since - 1)) 2999 && !(decide ((k : Int) > 0) && decide ((gx xs k).Number ≤ (gx xs (k - 1)).Number))
def MembersOkM (xs : List GMember) : Bool := (List.range xs.length).all (memP xs) && decide (((xs.length : Nat) : Int) ≤ 40)
theorem memOk_len {xs : List GMember} (h : MembersOkM xs = true) : xs.length ≤ 40 := by
  simp only [MembersOkM, Bool.and_eq_true, decide_eq_true_eq] at h; omega

theorem spec_MembersOk_eq (xs : List GMember) (hl : xs.length ≤ 4611686018427387904) : spec_MembersOk xs = some (MembersOkM xs) := by
  unfold spec_MembersOk MembersOkM
  rw [gd_pos hl, forO_all (f := spec_MembersOk_L1 xs) (c := false) (memP xs) (fun k hk => by
    simp only [spec_MembersOk_L1, l01In_eq, Option.bind_some, memP]
    cases hd : decide ((k : Int) > 0)
    · cases inR (gx xs k).Number 1 999 <;> cases inR (gx xs k).Since 1900 2999 <;> cases inR (gx xs k).Paid (wr ((gx xs k).Since - 1)) 2999 <;> rfl
    · obtain ⟨e1, e2⟩ := prev_idx hk hl hd
      simp only [e1, Int.toNat_natCast, cond_true]
      rw [gd_pos ⟨by omega, by omega⟩]
      cases inR (gx xs k).Number 1 999 <;> cases inR (gx xs k).Since 1900 2999 <;> cases inR (gx xs k).Paid (wr ((gx xs k).Since - 1)) 2999 <;> cases decide ((gx xs k).Number ≤ (gx xs (k - 1)).Number) <;> rfl)]
  cases (List.range xs.length).all (memP xs) <;> rfl

theorem impl_MembersOk_eq (xs : List GMember) (hl : xs.length ≤ 4611686018427387904) : impl_MembersOk xs = some (MembersOkM xs) := by
  unfold impl_MembersOk MembersOkM
  rw [gd_pos hl, forO_all (f := impl_MembersOk_L1 xs) (c := false) (memP xs) (fun k hk => by
    simp only [impl_MembersOk_L1, within_eq, Option.bind_some, memP]
    cases hd : decide ((k : Int) > 0)
    · cases inR (gx xs k).Number 1 999 <;> cases inR (gx xs k).Since 1900 2999 <;> cases inR (gx xs k).Paid (wr ((gx xs k).Since - 1)) 2999 <;> rfl
    · obtain ⟨e1, e2⟩ := prev_idx hk hl hd
      simp only [e1, Int.toNat_natCast, cond_true]
      rw [gd_pos ⟨by omega, by omega⟩]
      cases inR (gx xs k).Number 1 999 <;> cases inR (gx xs k).Since 1900 2999 <;> cases inR (gx xs k).Paid (wr ((gx xs k).Since - 1)) 2999 <;> cases decide ((gx xs k).Number ≤ (gx xs (k - 1)).Number) <;> rfl)]
  cases (List.range xs.length).all (memP xs) <;> rfl

def StockOkM (xs : List Int) : Bool := xs.all (fun n => inR n 0 1000000) && (((xs.length : Nat) : Int) == 6)
theorem stockOk_len {xs : List Int} (h : StockOkM xs = true) : xs.length = 6 := by
  simp only [StockOkM, Bool.and_eq_true, beq_iff_eq] at h; omega

theorem spec_StockOk_eq (xs : List Int) (hl : xs.length ≤ 4611686018427387904) : spec_StockOk xs = some (StockOkM xs) := by
  unfold spec_StockOk StockOkM
  rw [gd_pos hl, forO_all (f := spec_StockOk_L1 xs) (c := false) (fun k => inR (gx xs k) 0 1000000) (fun k hk => by
    simp only [spec_StockOk_L1, l01In_eq, Option.bind_some]; cases inR (gx xs k) 0 1000000 <;> rfl), all_gx (fun n => inR n 0 1000000)]
  cases xs.all (fun n => inR n 0 1000000) <;> rfl

theorem impl_allWithin_eq (xs : List Int) (a b : Int) (hl : xs.length ≤ 4611686018427387904) : impl_allWithin xs a b = some (xs.all fun n => inR n a b) := by
  unfold impl_allWithin
  rw [gd_pos hl, forO_all (f := impl_allWithin_L1 xs a b) (c := false) (fun k => inR (gx xs k) a b) (fun k hk => by
    simp only [impl_allWithin_L1, within_eq, Option.bind_some]; cases inR (gx xs k) a b <;> rfl), all_gx (fun n => inR n a b)]
  cases xs.all (fun n => inR n a b) <;> rfl

theorem impl_StockOk_eq (xs : List Int) (hl : xs.length ≤ 4611686018427387904) : impl_StockOk xs = some (StockOkM xs) := by
  unfold impl_StockOk StockOkM
  rw [impl_allWithin_eq xs _ _ hl]
  cases (((xs.length : Nat) : Int) == 6) <;> cases xs.all (fun n => inR n 0 1000000) <;> rfl

def ledP (xs : List GBooking) (k : Nat) : Bool := inR (gx xs k).Day 0 9999 && inR (gx xs k).From 0 4 && inR (gx xs k).To 0 4 && !((gx xs k).From == (gx xs k).To) && inR (gx xs k).Sum 1 100000 && !(decide ((k : Int) > 0) && decide ((gx xs k).Day < (gx xs (k - 1)).Day))
def LedgerOkM (xs : List GBooking) : Bool := (List.range xs.length).all (ledP xs) && decide (((xs.length : Nat) : Int) ≤ 60)
theorem ledOk_len {xs : List GBooking} (h : LedgerOkM xs = true) : xs.length ≤ 60 := by
  simp only [LedgerOkM, Bool.and_eq_true, decide_eq_true_eq] at h; omega

theorem spec_LedgerOk_eq (xs : List GBooking) (hl : xs.length ≤ 4611686018427387904) : spec_LedgerOk xs = some (LedgerOkM xs) := by
  unfold spec_LedgerOk LedgerOkM
  rw [gd_pos hl, forO_all (f := spec_LedgerOk_L1 xs) (c := false) (ledP xs) (fun k hk => by
    simp only [spec_LedgerOk_L1, l01In_eq, Option.bind_some, ledP]
    cases hd : decide ((k : Int) > 0)
    · cases inR (gx xs k).Day 0 9999 <;> cases inR (gx xs k).From 0 4 <;> cases inR (gx xs k).To 0 4 <;> cases ((gx xs k).From == (gx xs k).To) <;> cases inR (gx xs k).Sum 1 100000 <;> rfl
    · obtain ⟨e1, e2⟩ := prev_idx hk hl hd
      simp only [e1, Int.toNat_natCast, cond_true]
      rw [gd_pos ⟨by omega, by omega⟩]
      cases inR (gx xs k).Day 0 9999 <;> cases inR (gx xs k).From 0 4 <;> cases inR (gx xs k).To 0 4 <;> cases ((gx xs k).From == (gx xs k).To) <;> cases inR (gx xs k).Sum 1 100000 <;> cases decide ((gx xs k).Day < (gx xs (k - 1)).Day) <;> rfl)]
  cases (List.range xs.length).all (ledP xs) <;> rfl

theorem impl_LedgerOk_eq (xs : List GBooking) (hl : xs.length ≤ 4611686018427387904) : impl_LedgerOk xs = some (LedgerOkM xs) := by
  unfold impl_LedgerOk LedgerOkM
  rw [gd_pos hl, forO_all (f := impl_LedgerOk_L1 xs) (c := false) (ledP xs) (fun k hk => by
    simp only [impl_LedgerOk_L1, within_eq, Option.bind_some, ledP]
    cases hd : decide ((k : Int) > 0)
    · cases inR (gx xs k).Day 0 9999 <;> cases inR (gx xs k).From 0 4 <;> cases inR (gx xs k).To 0 4 <;> cases ((gx xs k).From == (gx xs k).To) <;> cases inR (gx xs k).Sum 1 100000 <;> rfl
    · obtain ⟨e1, e2⟩ := prev_idx hk hl hd
      simp only [e1, Int.toNat_natCast, cond_true]
      rw [gd_pos ⟨by omega, by omega⟩]
      cases inR (gx xs k).Day 0 9999 <;> cases inR (gx xs k).From 0 4 <;> cases inR (gx xs k).To 0 4 <;> cases ((gx xs k).From == (gx xs k).To) <;> cases inR (gx xs k).Sum 1 100000 <;> cases decide ((gx xs k).Day < (gx xs (k - 1)).Day) <;> rfl)]
  cases (List.range xs.length).all (ledP xs) <;> rfl

def EntryOkM (e : GEntry) : Bool := inR e.Owner 0 99 && inR e.Day 0 9999 && BlockOkM e.Block

@[simp] theorem spec_EntryOk_eq (e : GEntry) : spec_EntryOk e = some (EntryOkM e) := by
  unfold spec_EntryOk EntryOkM
  simp only [l01In_eq, spec_BlockOk_eq, Option.bind_some]
  cases inR e.Owner 0 99 <;> cases inR e.Day 0 9999 <;> rfl

@[simp] theorem impl_EntryOk_eq (e : GEntry) : impl_EntryOk e = some (EntryOkM e) := by
  unfold impl_EntryOk EntryOkM
  simp only [within_eq, impl_BlockOk_eq, Option.bind_some]
  cases inR e.Owner 0 99 <;> cases inR e.Day 0 9999 <;> rfl

def memberM (xs : List GMember) (n : Int) : Bool := !((List.range xs.length).all fun k => !((gx xs k).Number == n))

theorem spec_l38Member_eq (xs : List GMember) (n : Int) (hl : xs.length ≤ 4611686018427387904) : spec_l38Member xs n = some (memberM xs n) := by
  unfold spec_l38Member memberM
  rw [gd_pos hl, forO_all (f := spec_l38Member_L1 xs n) (c := true) (fun k => !((gx xs k).Number == n)) (fun k hk => by
    simp only [spec_l38Member_L1]; cases ((gx xs k).Number == n) <;> rfl)]
  cases (List.range xs.length).all (fun k => !((gx xs k).Number == n)) <;> rfl

theorem impl_isMember_eq (xs : List GMember) (n : Int) (hl : xs.length ≤ 4611686018427387904) : impl_isMember xs n = some (memberM xs n) := by
  unfold impl_isMember memberM
  rw [gd_pos hl, forO_all (f := impl_isMember_L1 xs n) (c := true) (fun k => !((gx xs k).Number == n)) (fun k hk => by
    simp only [impl_isMember_L1]; cases ((gx xs k).Number == n) <;> rfl)]
  cases (List.range xs.length).all (fun k => !((gx xs k).Number == n)) <;> rfl

def GoodM (xs : List GMember) (y : Int) : List Int := bif MembersOkM xs then ((List.range xs.length).filter fun k => decide ((gx xs k).Paid ≥ y)).map fun k => (gx xs k).Number else []
theorem good_len (xs : List GMember) (y : Int) : (GoodM xs y).length ≤ 40 := by
  unfold GoodM
  cases h : MembersOkM xs
  · simp
  · have h1 := memOk_len h
    have h2 := List.length_filter_le (fun k => decide ((gx xs k).Paid ≥ y)) (List.range xs.length)
    simp at h2 ⊢; omega

theorem impl_GoodStanding_eq (xs : List GMember) (y : Int) (hl : xs.length ≤ 4611686018427387904) : impl_GoodStanding xs y = some (GoodM xs y) := by
  unfold impl_GoodStanding GoodM
  rw [impl_MembersOk_eq xs hl]
  cases h : MembersOkM xs
  · rfl
  have h1 := memOk_len h
  simp only [Option.bind_some, Bool.not_true, cond_false, cond_true]
  rw [gd_pos hl, lpO_filter (f := impl_GoodStanding_L1 xs y) (xs := []) (fun k => decide ((gx xs k).Paid ≥ y)) (fun k => (gx xs k).Number) (fun k s hk hs => by
    simp only [impl_GoodStanding_L1]
    rw [gd_pos (by simp at hs; omega)]
    cases decide ((gx xs k).Paid ≥ y) <;> rfl)]
  rfl

theorem spec_GoodStanding_eq (xs : List GMember) (y : Int) (hl : xs.length ≤ 4611686018427387904) : spec_GoodStanding xs y = some (GoodM xs y) := by
  unfold spec_GoodStanding GoodM
  rw [gd_pos hl]
  cases h : MembersOkM xs
  · rcases Nat.eq_zero_or_pos xs.length with e | e
    · rw [e]; rfl
    · unfold lpO
      rw [forO_brkAt (f := spec_GoodStanding_L1 xs y) (fun _ => []) rfl 0 e (fun k hk => by omega) (s' := []) (by
        simp only [spec_GoodStanding_L1, spec_MembersOk_eq xs hl, h, Option.bind_some, cond_false])]
      rfl
  have h1 := memOk_len h
  simp only [cond_true]
  rw [lpO_filter (f := spec_GoodStanding_L1 xs y) (xs := []) (fun k => decide ((gx xs k).Paid ≥ y)) (fun k => (gx xs k).Number) (fun k s hk hs => by
    simp only [spec_GoodStanding_L1, spec_MembersOk_eq xs hl, h, Option.bind_some, cond_true]
    rw [gd_pos (by simp at hs; omega)]
    cases decide ((gx xs k).Paid ≥ y) <;> rfl)]
  rfl

def RoundsM (g : GGuild) : Int := bif inR (GoodM g.Members g.Year).length 2 10 then (GoodM g.Members g.Year).length - 1 else 0

theorem spec_SwapRounds_eq (g : GGuild) (hl : g.Members.length ≤ 4611686018427387904) : spec_SwapRounds g = some (RoundsM g) := by
  unfold spec_SwapRounds RoundsM
  have := good_len g.Members g.Year
  rw [spec_GoodStanding_eq _ _ hl]
  simp only [Option.bind_some, l01In_eq, wr_of (n := ((GoodM g.Members g.Year).length : Int) - 1) (by omega) (by omega)]
  cases inR (GoodM g.Members g.Year).length 2 10 <;> rfl

theorem impl_SwapRounds_eq (g : GGuild) (hl : g.Members.length ≤ 4611686018427387904) : impl_SwapRounds g = some (RoundsM g) := by
  unfold impl_SwapRounds RoundsM
  have := good_len g.Members g.Year
  rw [impl_GoodStanding_eq _ _ hl]
  simp only [Option.bind_some, within_eq, wr_of (n := ((GoodM g.Members g.Year).length : Int) - 1) (by omega) (by omega)]
  cases inR (GoodM g.Members g.Year).length 2 10 <;> rfl

/-- Lists of a length that loops may have. -/
def GL (g : GGuild) : Prop := g.Members.length ≤ 4611686018427387904 ∧ g.Stock.length ≤ 4611686018427387904 ∧ g.Entries.length ≤ 4611686018427387904 ∧ g.Books.length ≤ 4611686018427387904
theorem sm_GL {g : GGuild} (h : Sm.ok g) : GL g := by
  obtain ⟨h1, h2, h3, h4⟩ := h
  have := sm_len h1; have := sm_len h2; have := sm_len h3; have := sm_len h4
  exact ⟨by omega, by omega, by omega, by omega⟩
def entP (g : GGuild) (k : Nat) : Bool := EntryOkM (gx g.Entries k) && memberM g.Members (gx g.Entries k).Owner && !(decide ((k : Int) > 0) && decide ((gx g.Entries k).Day < (gx g.Entries (k - 1)).Day))
def GuildOkM (g : GGuild) : Bool := MembersOkM g.Members && StockOkM g.Stock && LedgerOkM g.Books && !decide (((g.Entries.length : Nat) : Int) > 10) && inR g.Year 1900 2999 && (List.range g.Entries.length).all (entP g) && inR g.Round 0 (RoundsM g)

theorem spec_GuildOk_eq (g : GGuild) (h : GL g) : spec_GuildOk g = some (GuildOkM g) := by
  obtain ⟨h1, h2, h3, h4⟩ := h
  unfold spec_GuildOk GuildOkM
  simp only [spec_MembersOk_eq _ h1, spec_StockOk_eq _ h2, spec_LedgerOk_eq _ h4, l01In_eq, Option.bind_some, spec_SwapRounds_eq _ h1]
  cases MembersOkM g.Members
  · rfl
  cases StockOkM g.Stock
  · rfl
  cases LedgerOkM g.Books
  · rfl
  cases decide (((g.Entries.length : Nat) : Int) > 10)
  · cases inR g.Year 1900 2999
    · rfl
    simp only [Bool.not_true, Bool.not_false, cond_false, Option.bind_some]
    rw [gd_pos h3, forO_all (f := spec_GuildOk_L1 g) (c := false) (entP g) (fun k hk => by
      simp only [spec_GuildOk_L1, spec_EntryOk_eq, spec_l38Member_eq _ _ h1, Option.bind_some, entP]
      cases hd : decide ((k : Int) > 0)
      · cases EntryOkM (gx g.Entries k) <;> cases memberM g.Members (gx g.Entries k).Owner <;> rfl
      · obtain ⟨e1, e2⟩ := prev_idx hk h3 hd
        simp only [e1, Int.toNat_natCast, cond_true]
        rw [gd_pos ⟨by omega, by omega⟩]
        cases EntryOkM (gx g.Entries k) <;> cases memberM g.Members (gx g.Entries k).Owner <;> cases decide ((gx g.Entries k).Day < (gx g.Entries (k - 1)).Day) <;> rfl)]
    cases (List.range g.Entries.length).all (entP g) <;> rfl
  · rfl

theorem impl_GuildOk_eq (g : GGuild) (h : GL g) : impl_GuildOk g = some (GuildOkM g) := by
  obtain ⟨h1, h2, h3, h4⟩ := h
  unfold impl_GuildOk GuildOkM
  simp only [impl_MembersOk_eq _ h1, impl_StockOk_eq _ h2, impl_LedgerOk_eq _ h4, within_eq, Option.bind_some, impl_SwapRounds_eq _ h1]
  cases MembersOkM g.Members
  · rfl
  cases StockOkM g.Stock
  · rfl
  cases LedgerOkM g.Books
  · rfl
  cases decide (((g.Entries.length : Nat) : Int) > 10)
  · simp only [Bool.not_true, Bool.not_false, cond_false, Option.bind_some]
    rw [gd_pos h3, forO_all (f := impl_GuildOk_L1 g) (c := false) (entP g) (fun k hk => by
      simp only [impl_GuildOk_L1, impl_EntryOk_eq, impl_isMember_eq _ _ h1, Option.bind_some, entP]
      cases hd : decide ((k : Int) > 0)
      · cases EntryOkM (gx g.Entries k) <;> cases memberM g.Members (gx g.Entries k).Owner <;> rfl
      · obtain ⟨e1, e2⟩ := prev_idx hk h3 hd
        simp only [e1, Int.toNat_natCast, cond_true]
        rw [gd_pos ⟨by omega, by omega⟩]
        cases EntryOkM (gx g.Entries k) <;> cases memberM g.Members (gx g.Entries k).Owner <;> cases decide ((gx g.Entries k).Day < (gx g.Entries (k - 1)).Day) <;> rfl)]
    cases (List.range g.Entries.length).all (entP g) <;> cases inR g.Year 1900 2999 <;> rfl
  · rfl

theorem guildOk_sm {g : GGuild} (h : GuildOkM g = true) : Sm.ok g := by
  simp only [GuildOkM, Bool.and_eq_true, Bool.not_eq_true', decide_eq_false_iff_not] at h
  obtain ⟨⟨⟨⟨⟨⟨h1, h2⟩, h3⟩, h4⟩, _⟩, h6⟩, _⟩ := h
  have := memOk_len h1; have := stockOk_len h2; have := ledOk_len h3
  refine ⟨⟨by omega, fun _ _ => trivial⟩, ⟨by omega, fun _ _ => trivial⟩, ⟨by omega, all_of_gx fun k hk => ?_⟩, ⟨by omega, fun _ _ => trivial⟩⟩
  rw [List.all_eq_true] at h6
  have := h6 k (by simpa using hk)
  simp only [entP, EntryOkM, Bool.and_eq_true] at this
  exact blockOk_sm this.1.1.2

theorem spec_l03Copy_sm {b : GBlock} (h : Sm.ok b) : spec_l03Copy b = some b := by
  have := sm_len h
  unfold spec_l03Copy
  rw [gd_pos (by simp; omega)]; simp

theorem impl_Block_copied_sm {b : GBlock} (h : Sm.ok b) : impl_Block_copied b = some b := by
  have := sm_len h
  unfold impl_Block_copied
  rw [gd_pos (by simp; omega)]; simp

theorem spec_l38Copy_eq {g : GGuild} (h : Sm.ok g) : spec_l38Copy g = some g := by
  obtain ⟨h1, h2, h3, h4⟩ := h
  have l1 := sm_len h1; have l2 := sm_len h2; have l3 := sm_len h3; have l4 := sm_len h4
  unfold spec_l38Copy
  rw [gd_pos (by simp; omega), gd_pos (by simp; omega), gd_pos (by simp; omega), gd_pos (by omega), lpO_app (f := spec_l38Copy_L1 g) (xs := []) (fun k => gx g.Entries k) (fun k s hk hs => by
    simp only [spec_l38Copy_L1, spec_l03Copy_sm (h3.2 _ (gx_mem hk)), Option.bind_some]
    rw [gd_pos (by simp at hs; omega)])]
  have := map_gx id g.Entries
  simp only [id] at this
  simp [this]

theorem impl_copyMembers_eq {xs : List GMember} (h : xs.length ≤ 1048600) : impl_copyMembers xs = some xs := by
  unfold impl_copyMembers
  rw [gd_pos (by simp; omega)]; simp

theorem impl_copyOf_eq {xs : List Int} (h : xs.length ≤ 1048600) : impl_copyOf xs = some xs := by
  unfold impl_copyOf
  rw [gd_pos (by simp; omega)]; simp

theorem impl_Guild_copied_eq {g : GGuild} (h : Sm.ok g) : impl_Guild_copied g = some g := by
  obtain ⟨h1, h2, h3, h4⟩ := h
  have l1 := sm_len h1; have l2 := sm_len h2; have l3 := sm_len h3; have l4 := sm_len h4
  unfold impl_Guild_copied
  rw [impl_copyMembers_eq (by omega), impl_copyOf_eq (by omega)]
  simp only [Option.bind_some]
  rw [gd_pos (by simp; omega), gd_pos (by omega), lpO_app (f := impl_Guild_copied_L1 g) (xs := []) (fun k => gx g.Entries k) (fun k s hk hs => by
    simp only [impl_Guild_copied_L1, impl_Block_copied_sm (h3.2 _ (gx_mem hk)), Option.bind_some]
    rw [gd_pos (by simp at hs; omega)])]
  have := map_gx id g.Entries
  simp only [id] at this
  simp [this]

theorem impl_becomes_eq {g next : GGuild} (h : Sm.ok g) (hn : GL next) (ok : Bool) : impl_Guild_becomes g next ok = some (bif GuildOkM g && ok && GuildOkM next then (next, true) else (g, false)) := by
  unfold impl_Guild_becomes
  rw [impl_GuildOk_eq g (sm_GL h), impl_GuildOk_eq next hn, impl_Guild_copied_eq h]
  cases GuildOkM g <;> cases ok <;> cases GuildOkM next <;> rfl

theorem rx_SwapRound (g : GGuild) (h : Sm.ok g) : ∃ w, spec_SwapRound g = some w ∧ impl_SwapRound g = some w ∧ Sm.ok w.1 ∧ (w = (g, false) ∨ w = ((⟨g.Members, g.Stock, g.Entries, g.Books, wr (g.Round + 1), g.Year⟩ : GGuild), true) ∧ GuildOkM w.1 = true) := by
  have hn : GL (⟨g.Members, g.Stock, g.Entries, g.Books, wr (g.Round + 1), g.Year⟩ : GGuild) := sm_GL (g := g) h
  unfold spec_SwapRound impl_SwapRound
  simp only [spec_l38Copy_eq h, impl_Guild_copied_eq h, Option.bind_some, spec_GuildOk_eq _ (sm_GL h), spec_GuildOk_eq _ hn, impl_becomes_eq h hn]
  cases GuildOkM g
  · exact ⟨(g, false), rfl, rfl, h, .inl rfl⟩
  cases hk : GuildOkM (⟨g.Members, g.Stock, g.Entries, g.Books, wr (g.Round + 1), g.Year⟩ : GGuild)
  · exact ⟨(g, false), rfl, rfl, h, .inl rfl⟩
  · exact ⟨_, rfl, rfl, guildOk_sm hk, .inr ⟨rfl, hk⟩⟩

def digM (a : Int) : UInt8 := UInt8.ofNat (48 + a.toNat)
theorem digM_inj {a b : Int} (h1 : 0 ≤ a) (h2 : a ≤ 5) (h3 : 0 ≤ b) (h4 : b ≤ 5) (h : digM a = digM b) : a = b := by
  have ha : a = 0 ∨ a = 1 ∨ a = 2 ∨ a = 3 ∨ a = 4 ∨ a = 5 := by omega
  have hb : b = 0 ∨ b = 1 ∨ b = 2 ∨ b = 3 ∨ b = 4 ∨ b = 5 := by omega
  rcases ha with rfl | rfl | rfl | rfl | rfl | rfl <;> rcases hb with rfl | rfl | rfl | rfl | rfl | rfl <;> first | rfl | exact absurd h (by decide)
def cellTextM (c : GCell) : List UInt8 := bif c.Split == 1 then [digM c.A, 47, digM c.B] else bif c.Split == 2 then [digM c.A, 92, digM c.B] else [digM c.A]
theorem cellText_inj {c d : GCell} {r q : List UInt8} (hc : CellOkM c = true) (hd : CellOkM d = true) (h : (cellTextM c ++ [59]) ++ r = (cellTextM d ++ [59]) ++ q) : c = d ∧ r = q := by
  obtain ⟨c1, c2, c3, c4, c5, c6, c7⟩ := cellOk_spec hc
  obtain ⟨d1, d2, d3, d4, d5, d6, d7⟩ := cellOk_spec hd
  obtain ⟨cs, ca, cb⟩ := c
  obtain ⟨ds, da, db⟩ := d
  simp only at c1 c2 c3 c4 c5 c6 c7 d1 d2 d3 d4 d5 d6 d7
  have hcs : cs = 0 ∨ cs = 1 ∨ cs = 2 := by omega
  have hds : ds = 0 ∨ ds = 1 ∨ ds = 2 := by omega
  rcases hcs with rfl | rfl | rfl <;> rcases hds with rfl | rfl | rfl <;> simp [cellTextM] at h
  · obtain ⟨e1, e2⟩ := h
    have := digM_inj c3 c4 d3 d4 e1
    have h1 := c7.1 rfl
    have h2 := d7.1 rfl
    subst this; subst h1; subst h2
    exact ⟨rfl, e2⟩
  · obtain ⟨e1, e2, e3⟩ := h
    have := digM_inj c3 c4 d3 d4 e1
    have h2 := digM_inj c5 c6 d5 d6 e2
    subst this; subst h2
    exact ⟨rfl, e3⟩
  · obtain ⟨e1, e2, e3⟩ := h
    have := digM_inj c3 c4 d3 d4 e1
    have h2 := digM_inj c5 c6 d5 d6 e2
    subst this; subst h2
    exact ⟨rfl, e3⟩
def cellsTextM (l : List GCell) : List UInt8 := l.flatMap fun c => cellTextM c ++ [59]
theorem cellsText_inj : ∀ {l m : List GCell}, (∀ c ∈ l, CellOkM c = true) → (∀ c ∈ m, CellOkM c = true) → cellsTextM l = cellsTextM m → l = m
  | [], [], _, _, _ => rfl
  | [], d :: m, _, _, h => by simp [cellsTextM] at h
  | c :: l, [], _, _, h => by simp [cellsTextM] at h
  | c :: l, d :: m, hl, hm, h => by
    have h' : (cellTextM c ++ [59]) ++ cellsTextM l = (cellTextM d ++ [59]) ++ cellsTextM m := by simpa [cellsTextM] using h
    obtain ⟨e1, e2⟩ := cellText_inj (hl c (by simp)) (hm d (by simp)) h'
    rw [e1, cellsText_inj (fun x hx => hl x (by simp [hx])) (fun x hx => hm x (by simp [hx])) e2]
def textM (b : GBlock) : Str := ⟨bif BlockOkM b then cellsTextM b.Cells else []⟩
theorem text_inj {b d : GBlock} (hb : BlockOkM b = true) (hd : BlockOkM d = true) (h : textM b = textM d) : b = d := by
  obtain ⟨n, hn, h1, h2, hl, hc⟩ := blockOk_spec hb
  obtain ⟨m, hm, g1, g2, gl, gc⟩ := blockOk_spec hd
  have e : cellsTextM b.Cells = cellsTextM d.Cells := by
    have := congrArg Str.b h
    simpa [textM, hb, hd] using this
  have e2 := cellsText_inj hc gc e
  have e3 : n * n = m * m := by rw [← hl, ← gl, e2]
  have e4 : n = m := by
    have hn' : n = 1 ∨ n = 2 ∨ n = 3 ∨ n = 4 := by omega
    have hm' : m = 1 ∨ m = 2 ∨ m = 3 ∨ m = 4 := by omega
    rcases hn' with rfl | rfl | rfl | rfl <;> rcases hm' with rfl | rfl | rfl | rfl <;> simp_all
  obtain ⟨bs, bc⟩ := b
  obtain ⟨ds, dc⟩ := d
  simp only at hn hm e2
  rw [hn, hm, e4, e2]
theorem cellText_len (c : GCell) : (cellTextM c).length ≤ 3 := by
  unfold cellTextM
  cases c.Split == 1 <;> cases c.Split == 2 <;> simp
theorem cellsText_len (l : List GCell) : (cellsTextM l).length ≤ 4 * l.length := by
  induction l with
  | nil => simp [cellsTextM]
  | cons c l ih =>
    have := cellText_len c
    simp only [cellsTextM, List.flatMap_cons, List.length_append, List.length_cons, List.length_nil] at ih ⊢
    omega
theorem text_len {b : GBlock} : (textM b).b.length ≤ 64 := by
  unfold textM
  cases h : BlockOkM b
  · simp
  · obtain ⟨n, hn, h1, h2, hl, hc⟩ := blockOk_spec h
    have := cellsText_len b.Cells
    have hnn : n * n ≤ 4 * 4 := Nat.mul_le_mul h2 h2
    simp only [cond_true]
    omega
theorem textM_eq {b d : GBlock} (hb : BlockOkM b = true) (hd : BlockOkM d = true) : (textM b = textM d) ↔ b = d := ⟨text_inj hb hd, fun h => by rw [h]⟩

def sameCellM (c d : GCell) : Bool := c.Split == d.Split && c.A == d.A && c.B == d.B
theorem sameCell_iff {c d : GCell} : sameCellM c d = true ↔ c = d := by
  obtain ⟨a, b, e⟩ := c
  obtain ⟨a', b', e'⟩ := d
  simp [sameCellM, and_assoc]
theorem beqs3 (a b c d e f : Int) : beqs [a, b, c] [d, e, f] = (a == d && b == e && c == f) := by simp [beqs, Bool.and_assoc]
def SameBlockM (b d : GBlock) : Bool := b.Size == d.Size && b.Cells.length == d.Cells.length && (List.range b.Cells.length).all fun k => sameCellM (gx b.Cells k) (gx d.Cells k)
theorem sameBlock_iff {b d : GBlock} : SameBlockM b d = true ↔ b = d := by
  constructor
  · intro h
    simp only [SameBlockM, Bool.and_eq_true, beq_iff_eq, List.all_eq_true, List.mem_range, sameCell_iff] at h
    obtain ⟨⟨h1, h2⟩, h3⟩ := h
    have := gx_ext h2 h3
    obtain ⟨s, c⟩ := b
    obtain ⟨s', c'⟩ := d
    simp_all
  · rintro rfl
    simp [SameBlockM, sameCell_iff]
theorem sameBlock_refl (b : GBlock) : SameBlockM b b = true := sameBlock_iff.2 rfl
theorem nat_beq_int (a b : Nat) : ((a : Int) == (b : Int)) = (a == b) := by
  rw [Bool.eq_iff_iff, beq_iff_eq, beq_iff_eq]; omega

theorem impl_SameBlock_eq {b d : GBlock} (hb : b.Cells.length ≤ 1048576) : impl_SameBlock b d = some (SameBlockM b d) := by
  unfold impl_SameBlock SameBlockM
  simp only [bne, nat_beq_int]
  cases h1 : b.Size == d.Size
  · simp
  cases h2 : b.Cells.length == d.Cells.length
  · simp
  have h2' : b.Cells.length = d.Cells.length := by simpa using h2
  simp only [Bool.not_true, Bool.or_self, cond_false, Bool.and_self, Bool.true_and]
  rw [gd_pos (by omega), forO_all (f := impl_SameBlock_L1 b d) (c := false) (fun k => sameCellM (gx b.Cells k) (gx d.Cells k)) (fun k hk => by
    simp only [impl_SameBlock_L1, beqs3]
    rw [gd_pos (by omega)]
    unfold sameCellM
    cases ((gx b.Cells k).Split == (gx d.Cells k).Split && (gx b.Cells k).A == (gx d.Cells k).A && (gx b.Cells k).B == (gx d.Cells k).B) <;> rfl)]
  cases (List.range b.Cells.length).all fun k => sameCellM (gx b.Cells k) (gx d.Cells k) <;> rfl

theorem spec_SameBlock_eq {b d : GBlock} (hb : b.Cells.length ≤ 1048576) : spec_SameBlock b d = some (SameBlockM b d) := by
  unfold spec_SameBlock SameBlockM
  simp only [bne, nat_beq_int]
  cases h1 : b.Size == d.Size
  · simp
  cases h2 : b.Cells.length == d.Cells.length
  · simp
  have h2' : b.Cells.length = d.Cells.length := by simpa using h2
  simp only [Bool.not_true, Bool.or_self, cond_false, Bool.and_self, Bool.true_and]
  rw [gd_pos (by omega), forO_all (f := spec_SameBlock_L1 b d) (c := false) (fun k => sameCellM (gx b.Cells k) (gx d.Cells k)) (fun k hk => by
    simp only [spec_SameBlock_L1, beqs3]
    rw [gd_pos (by omega)]
    unfold sameCellM
    cases ((gx b.Cells k).Split == (gx d.Cells k).Split && (gx b.Cells k).A == (gx d.Cells k).A && (gx b.Cells k).B == (gx d.Cells k).B) <;> rfl)]
  cases (List.range b.Cells.length).all fun k => sameCellM (gx b.Cells k) (gx d.Cells k) <;> rfl

theorem spec_FormatInt_small {a : Int} (h0 : 0 ≤ a) (h1 : a ≤ 5) : spec_FormatInt a = some ⟨[digM a]⟩ := by
  have ha : a = 0 ∨ a = 1 ∨ a = 2 ∨ a = 3 ∨ a = 4 ∨ a = 5 := by omega
  have key : ∀ (s s' s'' : Int × Str), spec_FormatInt_L1 s = some (.next s') → spec_FormatInt_L1 s' = some (.brk s'') → wlO spec_FormatInt_L1 18446744073709551616 s = some s'' := fun s s' s'' h1 h2 => by
    have : ∀ n, wlO spec_FormatInt_L1 (n + 2) s = some s'' := fun n => by
      unfold wlO
      rw [whO, h1]
      simp only [Option.bind_some]
      rw [whO, h2]
      rfl
    exact this 18446744073709551614
  rcases ha with rfl | rfl | rfl | rfl | rfl | rfl
  · rfl
  · unfold spec_FormatInt
    rw [key (1, ⟨[]⟩) (0, ⟨[49]⟩) (0, ⟨[49]⟩) rfl rfl]; rfl
  · unfold spec_FormatInt
    rw [key (2, ⟨[]⟩) (0, ⟨[50]⟩) (0, ⟨[50]⟩) rfl rfl]; rfl
  · unfold spec_FormatInt
    rw [key (3, ⟨[]⟩) (0, ⟨[51]⟩) (0, ⟨[51]⟩) rfl rfl]; rfl
  · unfold spec_FormatInt
    rw [key (4, ⟨[]⟩) (0, ⟨[52]⟩) (0, ⟨[52]⟩) rfl rfl]; rfl
  · unfold spec_FormatInt
    rw [key (5, ⟨[]⟩) (0, ⟨[53]⟩) (0, ⟨[53]⟩) rfl rfl]; rfl

theorem spec_CellText_eq {c : GCell} (h : CellOkM c = true) : spec_CellText c = some ⟨cellTextM c⟩ := by
  obtain ⟨h1, h2, h3, h4, h5, h6, h7⟩ := cellOk_spec h
  unfold spec_CellText cellTextM
  simp only [spec_CellOk_eq, h, spec_FormatInt_small h3 h4, spec_FormatInt_small h5 h6, Option.bind_some, Bool.not_true, cond_false]
  cases c.Split == 1
  · cases c.Split == 2
    · rfl
    · simp only [cond_true, cond_false]
      rw [gd_pos (by simp), gd_pos (by simp [sadd])]; rfl
  · simp only [cond_true]
    rw [gd_pos (by simp), gd_pos (by simp [sadd])]; rfl

theorem spec_TextOf_eq {b : GBlock} (h : BlockOkM b = true) : spec_TextOf b = some (textM b) := by
  obtain ⟨n, hn, h1, h2, hl, hc⟩ := blockOk_spec h
  have hnn : n * n ≤ 4 * 4 := Nat.mul_le_mul h2 h2
  unfold spec_TextOf
  rw [gd_pos (by omega), lpO_st (f := spec_TextOf_L1 b) (s0 := (⟨[]⟩ : Str)) (fun k => (⟨cellsTextM (b.Cells.take k)⟩ : Str)) rfl (fun k hk => by
    have hx := hc _ (gx_mem hk)
    have hlen := cellsText_len (b.Cells.take k)
    have hlen2 : (b.Cells.take k).length ≤ 16 := by simp; omega
    have hlen3 := cellText_len (gx b.Cells k)
    simp only [spec_TextOf_L1, spec_BlockOk_eq, h, cond_true, Option.bind_some, spec_CellText_eq hx]
    rw [gd_pos (by omega), gd_pos (by simp only [sadd, List.length_append, List.length_cons, List.length_nil]; omega)]
    rw [List.take_succ_eq_append_getElem hk, ← gx_lt hk]
    simp [sadd, cellsTextM])]
  simp [textM, h]

theorem tdiv_nat (a b : Nat) : ((a : Int)).tdiv (b : Int) = ((a / b : Nat) : Int) := rfl
theorem tmod_nat (a b : Nat) : ((a : Int)).tmod (b : Int) = ((a % b : Nat) : Int) := rfl
def tgtM (w h dx dy i : Nat) : Nat := (i / w + dy) % h * w + (i % w + dx) % w
def sameAtM (l : List GBlock) (w h dx dy : Nat) : Bool := (List.range (h * w)).all fun i => SameBlockM (gx l i) (gx l (tgtM w h dx dy i))
theorem all_grid {h w : Nat} (P : Nat → Nat → Bool) (hw : 0 < w) : ((List.range (h * w)).all fun i => P (i / w) (i % w)) = (List.range h).all fun y => (List.range w).all fun x => P y x := by
  rw [Bool.eq_iff_iff]
  simp only [List.all_eq_true, List.mem_range]
  constructor
  · intro H y hy x hx
    have := H (y * w + x) (idx_lt2 hy hx)
    rwa [show (y * w + x) / w = y by rw [Nat.mul_comm, Nat.mul_add_div hw, Nat.div_eq_of_lt hx]; rfl, show (y * w + x) % w = x by rw [Nat.mul_comm, Nat.mul_add_mod, Nat.mod_eq_of_lt hx]] at this
  · intro H i hi
    exact H _ ((Nat.div_lt_iff_lt_mul hw).2 hi) _ (Nat.mod_lt _ hw)
theorem sameAt_grid {l : List GBlock} {w h dx dy : Nat} (hw : 0 < w) : sameAtM l w h dx dy = (List.range h).all fun y => (List.range w).all fun x => SameBlockM (gx l (y * w + x)) (gx l ((y + dy) % h * w + (x + dx) % w)) := by
  rw [← all_grid (fun y x => SameBlockM (gx l (y * w + x)) (gx l ((y + dy) % h * w + (x + dx) % w))) hw]
  unfold sameAtM tgtM
  congr 1
  funext i
  congr 2
  rw [Nat.mul_comm]
  exact (Nat.div_add_mod i w).symm
theorem tgt_lt {w h dx dy i : Nat} (hw : 0 < w) (hh : 0 < h) : tgtM w h dx dy i < h * w := idx_lt2 (Nat.mod_lt _ hh) (Nat.mod_lt _ hw)

def addU (acc : List Int) (a : Int) : List Int := bif acc.contains a then acc else acc ++ [a]
theorem addU_nodup {acc : List Int} (h : acc.Nodup) (a : Int) : (addU acc a).Nodup := by
  unfold addU
  cases hc : acc.contains a
  · have hn : ¬ a ∈ acc := by
      intro hm
      have := List.contains_iff_mem.2 hm
      rw [hc] at this; cases this
    simp only [cond_false]
    rw [List.nodup_append]
    refine ⟨h, by simp, ?_⟩
    intro x hx y hy e
    simp only [List.mem_singleton] at hy
    subst hy; subst e
    exact hn hx
  · exact h
theorem addU_mem {acc : List Int} {a x : Int} : x ∈ addU acc a ↔ x ∈ acc ∨ x = a := by
  unfold addU
  cases hc : acc.contains a
  · simp
  · have hm : a ∈ acc := List.contains_iff_mem.1 hc
    simp only [cond_true]
    constructor
    · exact Or.inl
    · rintro (h | rfl)
      · exact h
      · exact hm
theorem fold_addU : ∀ (l acc : List Int), acc.Nodup → (l.foldl addU acc).Nodup ∧ ∀ x, x ∈ l.foldl addU acc ↔ x ∈ acc ∨ x ∈ l
  | [], acc, h => ⟨h, fun x => by simp⟩
  | a :: l, acc, h => by
    obtain ⟨h1, h2⟩ := fold_addU l (addU acc a) (addU_nodup h a)
    refine ⟨h1, fun x => ?_⟩
    rw [List.foldl_cons, h2, addU_mem]
    simp [or_assoc]
def useSeq (b : GBlock) : List Int := b.Cells.flatMap fun c => [c.A, c.B]
def six : List Int := [0, 1, 2, 3, 4, 5]
theorem mem_six {x : Int} : x ∈ six ↔ 0 ≤ x ∧ x ≤ 5 := by
  simp only [six, List.mem_cons, List.not_mem_nil, or_false]; omega
def ord6 (b : GBlock) : List Int := (useSeq b ++ six).foldl addU []
theorem mem_useSeq {b : GBlock} {x : Int} : x ∈ useSeq b ↔ ∃ c ∈ b.Cells, x = c.A ∨ x = c.B := by simp [useSeq]
theorem ord6_ok {b : GBlock} (h : BlockOkM b = true) : (ord6 b).Nodup ∧ (∀ x, x ∈ ord6 b ↔ 0 ≤ x ∧ x ≤ 5) ∧ (ord6 b).length = 6 := by
  obtain ⟨n, hn, h1, h2, hl, hc⟩ := blockOk_spec h
  obtain ⟨g1, g2⟩ := fold_addU (useSeq b ++ six) [] (by simp)
  have g3 : ∀ x, x ∈ ord6 b ↔ 0 ≤ x ∧ x ≤ 5 := fun x => by
    unfold ord6
    rw [g2]
    simp only [List.not_mem_nil, false_or, List.mem_append, mem_six]
    constructor
    · rintro (h | h)
      · obtain ⟨c, hm, h⟩ := mem_useSeq.1 h
        obtain ⟨c1, c2, c3, c4, c5, c6, _⟩ := cellOk_spec (hc c hm)
        rcases h with rfl | rfl <;> omega
      · exact h
    · exact Or.inr
  refine ⟨g1, g3, ?_⟩
  have p : (ord6 b).Perm six := (List.perm_ext_iff_of_nodup (show (ord6 b).Nodup from g1) (by decide)).2 fun x => by rw [g3, mem_six]
  exact p.length_eq

/-- The first index of a number, -1 if there is none. -/
def idxM (l : List Int) (n : Int) : Int := match (List.range l.length).find? (fun k => gx l k == n) with | some k => (k : Int) | none => -1
theorem idxM_cases (l : List Int) (n : Int) : (¬ n ∈ l ∧ idxM l n = -1) ∨ ∃ k : Nat, k < l.length ∧ idxM l n = k ∧ gx l k = n := by
  unfold idxM
  cases h : (List.range l.length).find? (fun k => gx l k == n) with
  | none =>
    left
    refine ⟨fun hm => ?_, rfl⟩
    obtain ⟨i, hi, rfl⟩ := List.getElem_of_mem hm
    rw [List.find?_eq_none] at h
    exact h i (by simpa using hi) (by simp [gx_lt hi])
  | some k =>
    right
    refine ⟨k, by simpa using List.mem_of_find?_eq_some h, rfl, by simpa using List.find?_some h⟩
theorem idxM_neg {l : List Int} {n : Int} : idxM l n < 0 ↔ ¬ n ∈ l := by
  rcases idxM_cases l n with ⟨h1, h2⟩ | ⟨k, h1, h2, h3⟩
  · simp [h1, h2]
  · constructor
    · intro h; omega
    · intro h; exact absurd (h3 ▸ gx_mem h1) h
theorem idxM_of {l : List Int} (hn : l.Nodup) {k : Nat} (hk : k < l.length) : idxM l (gx l k) = k := by
  rcases idxM_cases l (gx l k) with ⟨h1, h2⟩ | ⟨j, h1, h2, h3⟩
  · exact absurd (gx_mem hk) h1
  · rw [h2]
    rw [gx_lt h1, gx_lt hk] at h3
    have := (List.getElem_inj hn).1 h3
    rw [this]
theorem idxM_contains (l : List Int) (n : Int) : decide (idxM l n < 0) = !(l.contains n) := by
  rw [Bool.eq_iff_iff]
  simp [idxM_neg]
theorem gx_append_left {α : Type} [Rep α] {l m : List α} {k : Nat} (h : k < l.length) : gx (l ++ m) k = gx l k := by
  unfold gx List.getD
  rw [List.getElem?_append_left h]
theorem idxM_append {l : List Int} (m : List Int) {n : Int} (hn : (l ++ m).Nodup) (h : n ∈ l) : idxM (l ++ m) n = idxM l n := by
  rcases idxM_cases l n with ⟨h1, h2⟩ | ⟨k, h1, h2, h3⟩
  · exact absurd h h1
  · rw [h2, ← h3, ← gx_append_left (m := m) h1, idxM_of hn (by simp; omega)]
theorem idxM_last {l : List Int} {n : Int} (hn : (l ++ [n]).Nodup) : idxM (l ++ [n]) n = l.length := by
  have := idxM_of hn (k := l.length) (by simp)
  have e : gx (l ++ [n]) l.length = n := by simp [gx, List.getD]
  rwa [e] at this
def FirstUseM (b : GBlock) : List Int := bif BlockOkM b then (List.range 6).map fun a : Nat => idxM (ord6 b) (a : Int) else []
theorem firstUse_len {b : GBlock} (h : BlockOkM b = true) : (FirstUseM b).length = 6 := by simp [FirstUseM, h]
theorem firstUse_in {b : GBlock} (h : BlockOkM b = true) : ∀ x ∈ FirstUseM b, 0 ≤ x ∧ x ≤ 5 := by
  obtain ⟨g1, g2, g3⟩ := ord6_ok h
  intro x hx
  simp only [FirstUseM, h, cond_true, List.mem_map, List.mem_range] at hx
  obtain ⟨a, ha, rfl⟩ := hx
  rcases idxM_cases (ord6 b) (a : Int) with ⟨h1, h2⟩ | ⟨k, h1, h2, h3⟩
  · exact absurd ((g2 _).2 ⟨by omega, by omega⟩) h1
  · omega

def ListOkM (l : List Int) : Bool := l.length == 6 && l.all fun a => inR a 0 5
theorem listOk_spec {l : List Int} (h : ListOkM l = true) : l.length = 6 ∧ ∀ a ∈ l, 0 ≤ a ∧ a ≤ 5 := by
  simp only [ListOkM, Bool.and_eq_true, beq_iff_eq, List.all_eq_true, inR_iff] at h
  exact h
theorem listOk_of {l : List Int} (h : l.length = 6) (h2 : ∀ a ∈ l, 0 ≤ a ∧ a ≤ 5) : ListOkM l = true := by
  simp only [ListOkM, Bool.and_eq_true, beq_iff_eq, List.all_eq_true, inR_iff]
  exact ⟨h, h2⟩
theorem firstUse_ok {b : GBlock} (h : BlockOkM b = true) : ListOkM (FirstUseM b) = true := listOk_of (firstUse_len h) (firstUse_in h)
theorem splitCell_ok (s a b : Int) : CellOkM (SplitCellM s a b) = true := by
  unfold SplitCellM WholeCellM
  cases h : a == b
  · cases h2 : CellOkM ⟨s, a, b⟩
    · rfl
    · exact h2
  · cases h2 : inR a 0 5
    · rfl
    · have := inR_iff.1 h2
      exact cellOk_of (by simp) (by simp) this.1 this.2 this.1 this.2 (by simp)
def ExchangeCellM (c : GCell) (l : List Int) : GCell := bif CellOkM c && ListOkM l then SplitCellM c.Split (gx l c.A.toNat) (gx l c.B.toNat) else ⟨0, 0, 0⟩
theorem exchangeCell_ok (c : GCell) (l : List Int) : CellOkM (ExchangeCellM c l) = true := by
  unfold ExchangeCellM
  cases CellOkM c && ListOkM l
  · rfl
  · exact splitCell_ok _ _ _
def ExchangeM (b : GBlock) (l : List Int) : GBlock × Bool := bif BlockOkM b && ListOkM l then (⟨b.Size, b.Cells.map fun c => ExchangeCellM c l⟩, true) else (b, false)
theorem exchange_ok {b : GBlock} (h : BlockOkM b = true) (l : List Int) : BlockOkM (ExchangeM b l).1 = true ∧ (ExchangeM b l).1.Size = b.Size := by
  unfold ExchangeM
  cases hc : BlockOkM b && ListOkM l
  · exact ⟨h, rfl⟩
  · obtain ⟨n, hn, h1, h2, hl, hcs⟩ := blockOk_spec h
    refine ⟨?_, rfl⟩
    rw [hn]
    exact blockOk_of h1 h2 (by simpa using hl) (fun c hm => by
      simp only [List.mem_map] at hm
      obtain ⟨d, _, rfl⟩ := hm
      exact exchangeCell_ok d l)
def PlainM (b : GBlock) : GBlock := (ExchangeM b (FirstUseM b)).1
theorem plain_ok {b : GBlock} (h : BlockOkM b = true) : BlockOkM (PlainM b) = true ∧ (PlainM b).Size = b.Size := exchange_ok h _
theorem cells_grid {α β : Type} [Rep α] (F : α → β) {n : Nat} {l : List α} (hl : l.length = n * n) : (cellsM n n fun y x => F (gx l (y * n + x))) = l.map F := by
  apply List.ext_getElem
  · rw [cellsM_length]; simp [hl]
  · intro i h1 h2
    have hi : i < n * n := by rw [cellsM_length] at h1; exact h1
    have hn : 0 < n := by
      rcases Nat.eq_zero_or_pos n with h | h
      · subst h; simp at hi
      · exact h
    have hd : i / n * n + i % n = i := by rw [Nat.mul_comm]; exact Nat.div_add_mod i n
    have key : ∀ (h w : Nat) (G : Nat → Nat → β) (y x : Nat), y < h → x < w → (cellsM h w G)[y * w + x]? = some (G y x) := by
      intro h w G y x hy hx
      induction h with
      | zero => omega
      | succ h ih =>
        rw [cellsM_succ]
        rcases Nat.lt_or_ge y h with hlt | hge
        · rw [List.getElem?_append_left (by rw [cellsM_length]; exact idx_lt2 hlt hx)]
          exact ih hlt
        · have e : y = h := by omega
          subst e
          rw [List.getElem?_append_right (by rw [cellsM_length]; omega), cellsM_length]
          simp [hx]
    have k1 := key n n (fun y x => F (gx l (y * n + x))) (i / n) (i % n) ((Nat.div_lt_iff_lt_mul hn).2 hi) (Nat.mod_lt _ hn)
    simp only [hd] at k1
    rw [List.getElem?_eq_getElem h1] at k1
    have := Option.some.inj k1
    rw [this, gx_lt (by omega)]
    simp

theorem impl_allWithin_eq' {l : List Int} (hl : l.length ≤ 1048576) (a b : Int) : impl_allWithin l a b = some (l.all fun x => inR x a b) := by
  unfold impl_allWithin
  rw [gd_pos (by omega), forO_all (f := impl_allWithin_L1 l a b) (fun k => inR (gx l k) a b) (fun k hk => by
    simp only [impl_allWithin_L1, within_eq, Option.bind_some]; cases inR (gx l k) a b <;> rfl), all_gx (fun x => inR x a b)]
  cases l.all fun x => inR x a b <;> rfl

theorem impl_ListOk_eq {l : List Int} (hl : l.length ≤ 1048576) : impl_ListOk l = some (ListOkM l) := by
  unfold impl_ListOk ListOkM
  rw [impl_allWithin_eq' hl]
  have : ((l.length : Int) == 6) = (l.length == 6) := by
    rw [Bool.eq_iff_iff]; simp; omega
  rw [this]
  cases l.length == 6 <;> rfl

theorem spec_ListOk_eq {l : List Int} (hl : l.length ≤ 1048576) : spec_ListOk l = some (ListOkM l) := by
  unfold spec_ListOk ListOkM
  have : ((l.length : Int) == 6) = (l.length == 6) := by
    rw [Bool.eq_iff_iff]; simp; omega
  rw [gd_pos (by omega), forO_all (f := spec_ListOk_L1 l) (c := false) (fun k => inR (gx l k) 0 5) (fun k hk => by
    simp only [spec_ListOk_L1, l01In_eq, Option.bind_some]; cases inR (gx l k) 0 5 <;> rfl), all_gx (fun x => inR x 0 5), this]
  cases l.all fun x => inR x 0 5 <;> cases l.length == 6 <;> rfl

theorem impl_ExchangeCell_eq (c : GCell) {l : List Int} (hl : l.length ≤ 1048576) : impl_ExchangeCell c l = some (ExchangeCellM c l) := by
  unfold impl_ExchangeCell ExchangeCellM
  simp only [impl_CellOk_eq, impl_ListOk_eq hl, impl_SplitCell_eq, Option.bind_some]
  cases h : CellOkM c
  · rfl
  cases hL : ListOkM l
  · rfl
  obtain ⟨h1, h2, h3, h4, h5, h6, h7⟩ := cellOk_spec h
  obtain ⟨g1, g2⟩ := listOk_spec hL
  simp only [Bool.not_true, cond_false]
  rw [gd_pos ⟨by omega, by omega⟩, gd_pos ⟨by omega, by omega⟩]
  rfl

theorem spec_ExchangeCell_eq (c : GCell) {l : List Int} (hl : l.length ≤ 1048576) : spec_ExchangeCell c l = some (ExchangeCellM c l) := by
  unfold spec_ExchangeCell ExchangeCellM
  simp only [spec_CellOk_eq, spec_ListOk_eq hl, spec_SplitCell_eq, Option.bind_some]
  cases h : CellOkM c
  · rfl
  cases hL : ListOkM l
  · rfl
  obtain ⟨h1, h2, h3, h4, h5, h6, h7⟩ := cellOk_spec h
  obtain ⟨g1, g2⟩ := listOk_spec hL
  simp only [Bool.not_true, cond_false]
  rw [gd_pos ⟨by omega, by omega⟩, gd_pos ⟨by omega, by omega⟩]
  rfl

theorem impl_ExchangeBlock_eq {b : GBlock} {l : List Int} (hb : b.Cells.length ≤ 1048576) (hl : l.length ≤ 1048576) : impl_ExchangeBlock b l = some (ExchangeM b l) := by
  unfold impl_ExchangeBlock ExchangeM
  simp only [impl_BlockOk_eq, impl_ListOk_eq hl, Option.bind_some]
  have hc : impl_Block_copied b = some b := by
    unfold impl_Block_copied
    rw [gd_pos (by simp; omega)]; simp
  cases h : BlockOkM b
  · simp [hc]
  cases h2 : ListOkM l
  · simp [hc]
  obtain ⟨n, hn, h1, h2, hl2, hcs⟩ := blockOk_spec h
  simp only [Bool.not_true, cond_false, cond_true, Bool.and_self, hn]
  rw [made_eq n _ (fun y x => ExchangeCellM (gx b.Cells (y * n + x)) l) (by omega) (fun y x hy hx => by
    simp only [impl_ExchangeBlock_c1, impl_CellAt_eq, impl_ExchangeCell_eq _ hl, Option.bind_some]
    rw [cellAtM_nat h hn hx hy]), cells_grid (fun c => ExchangeCellM c l) hl2]
  rfl

theorem spec_ExchangeBlock_eq {b : GBlock} {l : List Int} (hb : b.Cells.length ≤ 1048576) (hl : l.length ≤ 1048576) : spec_ExchangeBlock b l = some (ExchangeM b l) := by
  unfold spec_ExchangeBlock ExchangeM
  simp only [spec_BlockOk_eq, spec_ListOk_eq hl, Option.bind_some]
  have hc : spec_l03Copy b = some b := by
    unfold spec_l03Copy
    rw [gd_pos (by simp; omega)]; simp
  cases h : BlockOkM b
  · simp [hc]
  cases h2 : ListOkM l
  · simp [hc]
  simp only [Bool.not_true, cond_false, cond_true, Bool.and_self]
  rw [gd_pos (by omega), lpO_app (f := spec_ExchangeBlock_L1 b l) (xs := []) (fun k => ExchangeCellM (gx b.Cells k) l) (fun k s hk hs => by
    simp only [spec_ExchangeBlock_L1, spec_ExchangeCell_eq _ hl, Option.bind_some]
    rw [gd_pos (by simp at hs; omega)]), map_gx (fun c => ExchangeCellM c l)]
  rfl

theorem impl_indexOf_eq {l : List Int} (hl : l.length ≤ 1048576) (n : Int) : impl_indexOf l n = some (idxM l n) := by
  unfold impl_indexOf idxM
  rw [gd_pos (by omega), forO_find (f := impl_indexOf_L1 l n) (fun k => gx l k == n) (fun k => (k : Int)) (fun k hk => by
    unfold impl_indexOf_L1
    cases gx l k == n <;> rfl)]
  cases (List.range l.length).find? fun k => gx l k == n <;> rfl

def putM : List Int → Int → List Int
  | [], n => [n]
  | x :: r, n => bif decide (n ≤ x) then n :: x :: r else x :: putM r n
theorem putM_perm : ∀ (l : List Int) (n : Int), (putM l n).Perm (n :: l)
  | [], n => .refl _
  | x :: r, n => by
    unfold putM
    cases decide (n ≤ x)
    · exact ((putM_perm r n).cons x).trans (.swap _ _ _)
    · exact .refl _
theorem putM_sorted : ∀ {l : List Int}, l.Pairwise (· ≤ ·) → ∀ n, (putM l n).Pairwise (· ≤ ·)
  | [], _, n => by simp [putM]
  | x :: r, h, n => by
    unfold putM
    rw [List.pairwise_cons] at h
    cases hd : decide (n ≤ x)
    · simp only [cond_false, List.pairwise_cons]
      refine ⟨fun y hy => ?_, putM_sorted h.2 n⟩
      have := (putM_perm r n).mem_iff.1 hy
      simp only [List.mem_cons] at this
      have hd' : ¬ n ≤ x := by simpa using hd
      rcases this with rfl | hm
      · omega
      · exact h.1 _ hm
    · have hd' : n ≤ x := by simpa using hd
      simp only [cond_true, List.pairwise_cons]
      refine ⟨fun y hy => ?_, h.1, h.2⟩
      simp only [List.mem_cons] at hy
      rcases hy with rfl | hm
      · exact hd'
      · have := h.1 _ hm; omega
theorem putM_len (l : List Int) (n : Int) : (putM l n).length = l.length + 1 := by
  have := (putM_perm l n).length_eq
  simpa using this
/-- The state behind some elements: what lies before the new number's place, or all with it. -/
theorem putM_append : ∀ (l : List Int) (x n : Int), putM (l ++ [x]) n = bif l.any (fun y => decide (n ≤ y)) then putM l n ++ [x] else (bif decide (n ≤ x) then l ++ [n, x] else l ++ [x, n])
  | [], x, n => by unfold putM; simp only [List.nil_append]; cases h : decide (n ≤ x) <;> simp [putM, h]
  | y :: l, x, n => by
    simp only [List.cons_append, putM, List.any_cons]
    cases h : decide (n ≤ y)
    · simp only [cond_false, Bool.false_or, putM_append l x n]
      cases l.any fun y => decide (n ≤ y)
      · cases decide (n ≤ x) <;> rfl
      · rfl
    · rfl
theorem putM_none : ∀ (l : List Int) (n : Int), l.any (fun y => decide (n ≤ y)) = false → putM l n = l ++ [n]
  | [], _, _ => rfl
  | x :: l, n, h => by
    simp only [List.any_cons, Bool.or_eq_false_iff] at h
    simp only [putM, h.1, cond_false, List.cons_append, putM_none l n h.2]

theorem impl_put_eq {l : List Int} (hl : l.length ≤ 1048576) (n : Int) : impl_put l n = some (putM l n) := by
  unfold impl_put
  rw [gd_pos (by omega), lpO_st (f := impl_put_L1 l n) (s0 := (([] : List Int), false)) (fun k => bif (l.take k).any (fun y => decide (n ≤ y)) then (putM (l.take k) n, true) else (l.take k, false)) rfl (fun k hk => by
    have ht : l.take (k + 1) = l.take k ++ [gx l k] := by rw [List.take_succ_eq_append_getElem hk, ← gx_lt hk]
    have hlen : (l.take k).length ≤ 1048576 := by simp; omega
    have hlen2 := putM_len (l.take k) n
    rw [ht, List.any_append, putM_append]
    simp only [impl_put_L1, List.any_cons, List.any_nil, Bool.or_false]
    cases h : (l.take k).any fun y => decide (n ≤ y)
    · simp only [cond_false, Bool.not_false, Bool.true_and, Bool.false_or]
      cases decide (n ≤ gx l k)
      · simp only [cond_false, Option.bind_some]
        rw [gd_pos (by omega)]
      · simp only [cond_true]
        rw [gd_pos (by omega)]
        simp only [Option.bind_some]
        rw [gd_pos (by simp; omega)]
        simp
    · simp only [cond_true, Bool.not_true, Bool.false_and, cond_false, Bool.true_or, Option.bind_some]
      rw [gd_pos (by omega)])]
  simp only [Option.bind_some, List.take_length]
  cases h : l.any fun y => decide (n ≤ y)
  · simp only [cond_false, Bool.not_false, cond_true]
    rw [gd_pos (by omega), putM_none l n h]
    rfl
  · rfl

theorem impl_sorted_eq {l : List Int} (hl : l.length ≤ 1000) : ∃ s, impl_sorted l = some s ∧ s.Perm l ∧ s.Pairwise (· ≤ ·) := by
  have key : ∀ k, k ≤ l.length → ((l.take k).foldl putM []).Perm (l.take k) ∧ ((l.take k).foldl putM []).Pairwise (· ≤ ·) := by
    intro k
    induction k with
    | zero => intro _; exact ⟨by simp, by simp⟩
    | succ k ih =>
      intro hk
      obtain ⟨i1, i2⟩ := ih (by omega)
      rw [List.take_succ_eq_append_getElem (by omega), List.foldl_append]
      simp only [List.foldl_cons, List.foldl_nil]
      refine ⟨(putM_perm _ _).trans ?_, putM_sorted i2 _⟩
      exact (i1.cons _).trans (List.perm_append_singleton _ _).symm
  refine ⟨l.foldl putM [], ?_, by simpa using (key l.length (by omega)).1, by simpa using (key l.length (by omega)).2⟩
  unfold impl_sorted
  rw [gd_pos (by omega), lpO_st (f := impl_sorted_L1 l) (s0 := []) (fun k => (l.take k).foldl putM []) rfl (fun k hk => by
    have hp := (key k (by omega)).1.length_eq
    have hle : ((l.take k).foldl putM []).length ≤ 1048576 := by rw [hp]; simp; omega
    simp only [impl_sorted_L1, impl_put_eq hle, Option.bind_some]
    rw [List.take_succ_eq_append_getElem hk, List.foldl_append, ← gx_lt hk]
    rfl)]
  simp

theorem impl_isStrict_true {l : List Int} (hl : l.length ≤ 1000) {a b : Int} (h : l.Pairwise (· < ·)) (hr : ∀ x ∈ l, a ≤ x ∧ x ≤ b) : impl_isStrict l a b = some true := by
  unfold impl_isStrict
  rw [impl_allWithin_eq' (by omega), gd_pos (by omega), all_next (f := impl_isStrict_L1 l) (fun k hk => by
    unfold impl_isStrict_L1
    rcases Nat.eq_zero_or_pos k with h0 | h0
    · subst h0; rfl
    · have e : wr ((k : Int) - 1) = ((k - 1 : Nat) : Int) := by rw [wr_of (by omega) (by omega)]; omega
      have hd : decide ((k : Int) > 0) = true := by simp; omega
      rw [List.pairwise_iff_getElem] at h
      have hlt := h (k - 1) k (by omega) hk (by omega)
      rw [← gx_lt, ← gx_lt] at hlt
      simp only [hd, cond_true, e, Int.toNat_natCast]
      rw [gd_pos ⟨by omega, by omega⟩]
      have : decide (gx l k ≤ gx l (k - 1)) = false := by simp; omega
      simp only [this, Option.bind_some, cond_false])]
  have : (l.all fun x => inR x a b) = true := by
    rw [List.all_eq_true]
    exact fun x hx => inR_iff.2 (hr x hx)
  simp only [sq_inl, this, Option.bind_some]

theorem impl_IsExchange_true {l : List Int} (hl : l.length = 6) (hn : l.Nodup) (hr : ∀ x ∈ l, 0 ≤ x ∧ x ≤ 5) : impl_IsExchange l = some true := by
  obtain ⟨s, h1, h2, h3⟩ := impl_sorted_eq (l := l) (by omega)
  have hs : s.Pairwise (· < ·) := by
    have hnd : s.Nodup := (h2.nodup_iff).2 hn
    unfold List.Nodup at hnd
    exact (h3.and hnd).imp fun ⟨a, b⟩ => by omega
  unfold impl_IsExchange
  rw [h1, show ((l.length : Int) == 6) = true by rw [hl]; rfl]
  simp only [cond_true, Option.bind_some, impl_isStrict_true (l := s) (by rw [h2.length_eq]; omega) hs (fun x hx => hr x (h2.mem_iff.1 hx))]

theorem undo_ok {l : List Int} (hl : l.length = 6) (hn : l.Nodup) (hr : ∀ x, x ∈ l ↔ 0 ≤ x ∧ x ≤ 5) : impl_UndoList l = some ((List.range 6).map fun a : Nat => idxM l (a : Int)) := by
  unfold impl_UndoList
  rw [impl_IsExchange_true hl hn (fun x hx => (hr x).1 hx)]
  simp only [Option.bind_some, Bool.not_true, cond_false]
  have h0 : List.replicate 6 (0 : Int) = (List.range 6).map fun a : Nat => bif decide (idxM l (a : Int) < ((0 : Nat) : Int)) then idxM l (a : Int) else 0 := by
    have : ∀ a : Nat, a < 6 → (bif decide (idxM l (a : Int) < ((0 : Nat) : Int)) then idxM l (a : Int) else 0) = 0 := fun a ha => by
      have : ¬ idxM l (a : Int) < 0 := by rw [idxM_neg]; exact fun h => h ((hr _).2 ⟨by omega, by omega⟩)
      simp [this]
    have e : ((List.range 6).map fun a : Nat => bif decide (idxM l (a : Int) < ((0 : Nat) : Int)) then idxM l (a : Int) else 0) = (List.range 6).map fun _ => (0 : Int) := List.map_congr_left fun a ha => this a (by simpa using ha)
    rw [e]; rfl
  rw [gd_pos (by omega), lpO_st (f := impl_UndoList_L1 l) (fun k => (List.range 6).map fun a : Nat => bif decide (idxM l (a : Int) < (k : Int)) then idxM l (a : Int) else 0) h0 (fun k hk => by
    obtain ⟨b1, b2⟩ := (hr _).1 (gx_mem hk)
    unfold impl_UndoList_L1
    rw [gd_pos ⟨b1, by simp; omega⟩]
    congr 2
    apply gx_ext
    · simp
    · intro j hj
      have hj' : j < 6 := by simpa using hj
      rw [gx_range _ hj']
      by_cases e : j = (gx l k).toNat
      · have ej : (j : Int) = gx l k := by omega
        subst e
        rw [gx_set (by simp; omega), ej, idxM_of hn hk]
        have : decide ((k : Int) < ((k + 1 : Nat) : Int)) = true := by simp; omega
        simp only [this, cond_true]
      · rw [gx_set_ne e, gx_range _ hj']
        rcases idxM_cases l (j : Int) with ⟨g1, _⟩ | ⟨i, g1, g2, g3⟩
        · exact absurd ((hr _).2 ⟨by omega, by omega⟩) g1
        · have hne : i ≠ k := fun h => e (by rw [← h, g3]; simp)
          have : decide (idxM l (j : Int) < (k : Int)) = decide (idxM l (j : Int) < ((k + 1 : Nat) : Int)) := by
            rw [g2, Bool.eq_iff_iff]; simp; omega
          rw [this])]
  simp only [Option.bind_some, hl]
  congr 1
  apply List.map_congr_left
  intro a ha
  rcases idxM_cases l (a : Int) with ⟨g1, _⟩ | ⟨i, g1, g2, g3⟩
  · exact absurd ((hr _).2 ⟨by omega, by simp at ha; omega⟩) g1
  · have : decide (idxM l (a : Int) < ((6 : Nat) : Int)) = true := by rw [g2]; simp; omega
    rw [this, cond_true]

theorem addU_len (acc : List Int) (a : Int) : (addU acc a).length ≤ acc.length + 1 := by
  unfold addU
  cases acc.contains a <;> simp
theorem fold_addU_len : ∀ (l acc : List Int), (l.foldl addU acc).length ≤ acc.length + l.length
  | [], acc => by simp
  | a :: l, acc => by
    have := fold_addU_len l (addU acc a)
    have := addU_len acc a
    simp only [List.foldl_cons, List.length_cons]; omega
def useL (l : List GCell) : List Int := l.flatMap fun c => [c.A, c.B]
theorem useL_len : ∀ l : List GCell, (useL l).length = 2 * l.length
  | [] => rfl
  | c :: l => by
    have := useL_len l
    simp only [useL, List.flatMap_cons, List.length_append, List.length_cons, List.length_nil] at this ⊢; omega
theorem useL_take {l : List GCell} {k : Nat} (hk : k < l.length) : useL (l.take (k + 1)) = useL (l.take k) ++ [(gx l k).A, (gx l k).B] := by
  rw [List.take_succ_eq_append_getElem hk, ← gx_lt hk]
  simp [useL]
theorem gx_cons_succ {α : Type} [Rep α] (a : α) (l : List α) (k : Nat) : gx (a :: l) (k + 1) = gx l k := by simp [gx, List.getD]
theorem gx_cons_zero {α : Type} [Rep α] (a : α) (l : List α) : gx (a :: l) 0 = a := by simp [gx, List.getD]
theorem useL_gx : ∀ (l : List GCell) (k : Nat), k < 2 * l.length → gx (useL l) k = bif k % 2 == 1 then (gx l (k / 2)).B else (gx l (k / 2)).A
  | [], k, h => by simp at h
  | c :: l, 0, h => by simp [useL, gx_cons_zero]
  | c :: l, 1, h => by simp [useL, gx_cons_zero, gx_cons_succ]
  | c :: l, k + 2, h => by
    have := useL_gx l k (by simp at h; omega)
    have e : useL (c :: l) = c.A :: c.B :: useL l := rfl
    rw [e, gx_cons_succ, gx_cons_succ, this, show (k + 2) / 2 = k / 2 + 1 by omega, show (k + 2) % 2 = k % 2 by omega, gx_cons_succ]
theorem tdiv2 (k : Nat) : ((k : Int)).tdiv 2 = ((k / 2 : Nat) : Int) := rfl
theorem tmod2 (k : Nat) : (((k : Int)).tmod 2 == 1) = (k % 2 == 1) := by
  have : ((k : Int)).tmod 2 = ((k % 2 : Nat) : Int) := rfl
  rw [this, Bool.eq_iff_iff]; simp; omega
theorem range_six : (List.range 6).map (fun i : Nat => (i : Int)) = six := rfl

theorem impl_FirstUse_eq (b : GBlock) : impl_FirstUse b = some (FirstUseM b) := by
  unfold impl_FirstUse FirstUseM
  simp only [impl_BlockOk_eq, Option.bind_some]
  cases h : BlockOkM b
  · rfl
  obtain ⟨n, hn, h1, h2, hl, hc⟩ := blockOk_spec h
  have hnn : n * n ≤ 4 * 4 := Nat.mul_le_mul h2 h2
  obtain ⟨g1, g2, g3⟩ := ord6_ok h
  have step : ∀ (s : List Int) (x : Int), s.length ≤ 1000 → ((impl_indexOf s x).bind fun v => (bif decide (v < 0) then gd (s.length + 1 ≤ 1099511627776) (some (s ++ [x])) else some s).bind fun j => some (Res.next (R := Empty) j)) = some (Res.next (addU s x)) := fun s x hs => by
    rw [impl_indexOf_eq (by omega)]
    simp only [Option.bind_some, idxM_contains, addU]
    cases s.contains x
    · simp only [Bool.not_false, cond_true, cond_false]
      rw [gd_pos (by omega)]; rfl
    · rfl
  simp only [Bool.not_true, cond_false, cond_true]
  rw [gd_pos (by omega), lpO_st (f := impl_FirstUse_L1 b) (s0 := []) (fun k => (useL (b.Cells.take k)).foldl addU []) rfl (fun k hk => by
    have hlen := fold_addU_len (useL (b.Cells.take k)) []
    have hul := useL_len (b.Cells.take k)
    have hle : ((useL (b.Cells.take k)).foldl addU []).length ≤ 32 := by simp at hlen hul; omega
    unfold impl_FirstUse_L1
    rw [gd_pos (by simp), lpO_st (f := impl_FirstUse_L2 b k) (s0 := (useL (b.Cells.take k)).foldl addU []) (fun i => ([(gx b.Cells k).A, (gx b.Cells k).B].take i).foldl addU ((useL (b.Cells.take k)).foldl addU [])) rfl (fun i hi => by
      have hi2 : i < 2 := by simpa using hi
      have hlen2 := fold_addU_len ([(gx b.Cells k).A, (gx b.Cells k).B].take i) ((useL (b.Cells.take k)).foldl addU [])
      unfold impl_FirstUse_L2
      rw [step _ _ (by simp at hlen2; omega), List.take_succ_eq_append_getElem hi, List.foldl_append, ← gx_lt hi]
      rfl)]
    rw [useL_take hk, List.foldl_append]
    rfl)]
  simp only [Option.bind_some, List.take_length]
  have hlen := fold_addU_len (useL b.Cells) []
  have hul := useL_len b.Cells
  have hle : ((useL b.Cells).foldl addU []).length ≤ 32 := by simp at hlen; omega
  rw [lpO_st (f := impl_FirstUse_L3) (s0 := (useL b.Cells).foldl addU []) (fun k => ((List.range k).map fun i : Nat => (i : Int)).foldl addU ((useL b.Cells).foldl addU [])) rfl (fun k hk => by
    have hlen2 := fold_addU_len ((List.range k).map fun i : Nat => (i : Int)) ((useL b.Cells).foldl addU [])
    unfold impl_FirstUse_L3
    rw [step _ _ (by simp at hlen2; omega), List.range_succ, List.map_append, List.foldl_append]
    rfl)]
  have e : ((List.range 6).map fun i : Nat => (i : Int)).foldl addU ((useL b.Cells).foldl addU []) = ord6 b := by
    rw [range_six, ← List.foldl_append]; rfl
  simp only [Option.bind_some, e, undo_ok g3 g1 g2]

def tabU (acc : List Int) : List Int := (List.range 6).map fun a : Nat => idxM acc (a : Int)
theorem tabU_add {acc : List Int} (hn : acc.Nodup) {a : Int} (h0 : 0 ≤ a) (h1 : a ≤ 5) : (bif decide (gx (tabU acc) a.toNat < 0) then (tabU acc).set a.toNat (acc.length : Int) else tabU acc) = tabU (addU acc a) ∧ (bif decide (gx (tabU acc) a.toNat < 0) then ((acc.length : Int) + 1) else (acc.length : Int)) = ((addU acc a).length : Int) := by
  have ea : ((a.toNat : Nat) : Int) = a := by omega
  have hg : gx (tabU acc) a.toNat = idxM acc a := by
    unfold tabU
    rw [gx_range _ (by omega), ea]
  have hnd := addU_nodup hn a
  rw [hg, idxM_contains]
  unfold addU at hnd ⊢
  cases hc : acc.contains a
  · rw [hc] at hnd
    simp only [cond_false] at hnd
    simp only [Bool.not_false, cond_true, cond_false]
    refine ⟨?_, by simp⟩
    apply gx_ext
    · simp [tabU]
    · intro j hj
      have hj' : j < 6 := by simpa [tabU] using hj
      have e2 : gx (tabU (acc ++ [a])) j = idxM (acc ++ [a]) (j : Int) := gx_range _ hj'
      rw [e2]
      by_cases e : j = a.toNat
      · subst e
        rw [gx_set (by simp [tabU]; omega), ea, idxM_last hnd]
      · rw [gx_set_ne e]
        have e3 : gx (tabU acc) j = idxM acc (j : Int) := gx_range _ hj'
        rw [e3]
        by_cases hm : (j : Int) ∈ acc
        · rw [idxM_append _ hnd hm]
        · have hm2 : ¬ (j : Int) ∈ acc ++ [a] := by
            simp only [List.mem_append, List.mem_singleton, not_or]
            exact ⟨hm, by omega⟩
          rcases idxM_cases acc (j : Int) with ⟨_, q⟩ | ⟨k, q1, _, q3⟩
          · rcases idxM_cases (acc ++ [a]) (j : Int) with ⟨_, q'⟩ | ⟨k, q1, _, q3⟩
            · rw [q, q']
            · exact absurd (q3 ▸ gx_mem q1) hm2
          · exact absurd (q3 ▸ gx_mem q1) hm
  · simp

theorem spec_FirstUse_eq (b : GBlock) : spec_FirstUse b = some (FirstUseM b) := by
  unfold spec_FirstUse FirstUseM
  simp only [spec_BlockOk_eq, Option.bind_some]
  cases h : BlockOkM b
  · rfl
  obtain ⟨n, hn, h1, h2, hl, hc⟩ := blockOk_spec h
  have hnn : n * n ≤ 4 * 4 := Nat.mul_le_mul h2 h2
  have hul := useL_len b.Cells
  have hN : (wr (2 * (b.Cells.length : Int))).toNat = (useL b.Cells).length := by
    rw [wr_of (by omega) (by omega)]; omega
  have h0 : lpO spec_FirstUse_L1 6 [] = some (tabU []) := by rfl
  have hin : ∀ x ∈ useL b.Cells, 0 ≤ x ∧ x ≤ 5 := fun x hx => by
    obtain ⟨c, hm, h⟩ := mem_useSeq.1 (show x ∈ useSeq b from hx)
    obtain ⟨c1, c2, c3, c4, c5, c6, _⟩ := cellOk_spec (hc c hm)
    rcases h with rfl | rfl <;> omega
  have hs : ((tabU [], 0) : List Int × Int) = (tabU ((useL b.Cells).take 0 |>.foldl addU []), ((((useL b.Cells).take 0).foldl addU []).length : Int)) := rfl
  simp only [Bool.not_true, cond_false, cond_true, h0, Option.bind_some, hN]
  rw [gd_pos (by omega), lpO_st (f := spec_FirstUse_L2 b) (fun k => (tabU (((useL b.Cells).take k).foldl addU []), ((((useL b.Cells).take k).foldl addU []).length : Int))) hs (fun k hk => by
    have hnd := (fold_addU ((useL b.Cells).take k) [] (by simp)).1
    have hlen := fold_addU_len ((useL b.Cells).take k) []
    have hx := useL_gx b.Cells k (by omega)
    obtain ⟨x0, x1⟩ := hin _ (gx_mem hk)
    obtain ⟨t1, t2⟩ := tabU_add hnd x0 x1
    have e2 : wr (((k / 2 : Nat) : Int)) = ((k / 2 : Nat) : Int) := wr_of (by omega) (by omega)
    have e3 : wr (((((useL b.Cells).take k).foldl addU []).length : Int) + 1) = ((((useL b.Cells).take k).foldl addU []).length : Int) + 1 := wr_of (by omega) (by simp at hlen; omega)
    simp only [spec_FirstUse_L2, tdiv2, tmod2, e2, e3, Int.toNat_natCast, ← hx]
    rw [gd_pos ⟨by omega, by omega⟩, gd_pos ⟨x0, by simp [tabU]; omega⟩, t1, t2, List.take_succ_eq_append_getElem hk, List.foldl_append, ← gx_lt hk]
    rfl)]
  simp only [Option.bind_some, List.take_length]
  have hnd0 := (fold_addU (useL b.Cells) [] (by simp)).1
  have hlen0 := fold_addU_len (useL b.Cells) []
  rw [lpO_st (f := spec_FirstUse_L3) (s0 := (tabU ((useL b.Cells).foldl addU []), ((((useL b.Cells).foldl addU []).length : Nat) : Int))) (fun k => (tabU (((List.range k).map fun i : Nat => (i : Int)).foldl addU ((useL b.Cells).foldl addU [])), ((((List.range k).map fun i : Nat => (i : Int)).foldl addU ((useL b.Cells).foldl addU [])).length : Int))) rfl (fun k hk => by
    have hnd := (fold_addU ((List.range k).map fun i : Nat => (i : Int)) _ hnd0).1
    have hlen := fold_addU_len ((List.range k).map fun i : Nat => (i : Int)) ((useL b.Cells).foldl addU [])
    obtain ⟨t1, t2⟩ := tabU_add hnd (a := (k : Int)) (by omega) (by omega)
    simp only [Int.toNat_natCast] at t1 t2
    have e3 : wr (((((List.range k).map fun i : Nat => (i : Int)).foldl addU ((useL b.Cells).foldl addU [])).length : Int) + 1) = ((((List.range k).map fun i : Nat => (i : Int)).foldl addU ((useL b.Cells).foldl addU [])).length : Int) + 1 := wr_of (by omega) (by simp at hlen hlen0; omega)
    simp only [spec_FirstUse_L3, e3]
    rw [gd_pos (by simp [tabU]; omega), t1, t2, List.range_succ, List.map_append, List.foldl_append]
    rfl)]
  have e : ((List.range 6).map fun i : Nat => (i : Int)).foldl addU ((useL b.Cells).foldl addU []) = ord6 b := by
    rw [range_six, ← List.foldl_append]; rfl
  simp only [Option.bind_some, e]
  rfl

theorem impl_plain_eq {b : GBlock} (h : BlockOkM b = true) : impl_plain b = some (PlainM b) := by
  unfold impl_plain PlainM
  have hs := (blockOk_sm h).1
  have hf := firstUse_len h
  simp only [impl_FirstUse_eq, Option.bind_some, impl_ExchangeBlock_eq hs (l := FirstUseM b) (by omega)]

theorem spec_l07Plain_eq {b : GBlock} (h : BlockOkM b = true) : spec_l07Plain b = some (PlainM b) := by
  unfold spec_l07Plain PlainM
  have hs := (blockOk_sm h).1
  have hf := firstUse_len h
  simp only [spec_FirstUse_eq, Option.bind_some, spec_ExchangeBlock_eq hs (l := FirstUseM b) (by omega)]

def viewsM (b : GBlock) : List GBlock := (List.range 8).map fun k : Nat => SeenM b (k : Int)
theorem views_len (b : GBlock) : (viewsM b).length = 8 := by simp [viewsM]
theorem views_gx (b : GBlock) {k : Nat} (hk : k < 8) : gx (viewsM b) k = SeenM b (k : Int) := gx_range _ hk
theorem view_ok {b : GBlock} (h : BlockOkM b = true) {k : Nat} (hk : k < 8) : BlockOkM (SeenM b (k : Int)) = true ∧ (SeenM b (k : Int)).Size = b.Size := seen_ok h (inR_iff.2 ⟨by omega, by omega⟩)

theorem impl_views_eq (b : GBlock) : impl_views b = some (viewsM b) := by
  unfold impl_views
  rw [lpO_app (f := impl_views_L1 b) (xs := []) (fun k : Nat => SeenM b (k : Int)) (fun k s hk hs => by
    simp only [impl_views_L1, impl_SeenFrom_eq, Option.bind_some]
    rw [gd_pos (by simp at hs; omega)])]
  rfl

def EntOkM (e : GEntry) : Bool := inR e.Owner 0 99 && inR e.Day 0 9999 && BlockOkM e.Block

theorem spec_EntryOk_eq' (e : GEntry) : spec_EntryOk e = some (EntOkM e) := by
  unfold spec_EntryOk EntOkM
  simp only [l01In_eq, spec_BlockOk_eq, Option.bind_some]
  cases inR e.Owner 0 99 <;> cases inR e.Day 0 9999 <;> cases BlockOkM e.Block <;> rfl

theorem impl_EntryOk_eq' (e : GEntry) : impl_EntryOk e = some (EntOkM e) := by
  unfold impl_EntryOk EntOkM
  simp only [within_eq, impl_BlockOk_eq, Option.bind_some]
  cases inR e.Owner 0 99 <;> cases inR e.Day 0 9999 <;> cases BlockOkM e.Block <;> rfl

def tab6 (f : Nat → Int) : List Int := (List.range 6).map f
theorem tab6_len (f : Nat → Int) : (tab6 f).length = 6 := by simp [tab6]
theorem tab6_gx (f : Nat → Int) {a : Nat} (ha : a < 6) : gx (tab6 f) a = f a := gx_range f ha
theorem tab6_congr {f g : Nat → Int} (h : ∀ a, a < 6 → f a = g a) : tab6 f = tab6 g := List.map_congr_left fun a ha => h a (by simpa using ha)
theorem tab6_set (f : Nat → Int) (a : Nat) (v : Int) : (tab6 f).set a v = tab6 fun i => bif i == a then v else f i := by
  apply gx_ext
  · simp [tab6]
  · intro k hk
    have hk' : k < 6 := by simpa [tab6] using hk
    rw [tab6_gx _ hk']
    by_cases e : k = a
    · subst e
      rw [gx_set (by rw [tab6_len]; exact hk')]; simp
    · rw [gx_set_ne e, tab6_gx _ hk', beq_eq_false_iff_ne.2 e, cond_false]
def wcM (a : Int) (c : GCell) : Int := bif c.Split == 0 then (bif c.A == a then 1 else 0) else 0
def hcM (a : Int) (c : GCell) : Int := bif c.Split == 0 then 0 else (bif c.A == a then 1 else 0) + (bif c.B == a then 1 else 0)
theorem wc_bound (a : Int) (c : GCell) : 0 ≤ wcM a c ∧ wcM a c ≤ 2 := by unfold wcM; cases c.Split == 0 <;> cases c.A == a <;> simp
theorem hc_bound (a : Int) (c : GCell) : 0 ≤ hcM a c ∧ hcM a c ≤ 2 := by unfold hcM; cases c.Split == 0 <;> cases c.A == a <;> cases c.B == a <;> simp
theorem wc_turn (a : Int) {c : GCell} (h : CellOkM c = true) : wcM a (TurnCellM c) = wcM a c := by
  unfold TurnCellM wcM
  rw [h]
  by_cases e1 : c.Split = 1
  · simp [e1]
  · by_cases e2 : c.Split = 2
    · simp [e2]
    · rw [beq_eq_false_iff_ne.2 e1, beq_eq_false_iff_ne.2 e2]; rfl
theorem hc_turn (a : Int) {c : GCell} (h : CellOkM c = true) : hcM a (TurnCellM c) = hcM a c := by
  unfold TurnCellM hcM
  rw [h]
  by_cases e1 : c.Split = 1
  · simp [e1, Int.add_comm]
  · by_cases e2 : c.Split = 2
    · simp [e2]
    · rw [beq_eq_false_iff_ne.2 e1, beq_eq_false_iff_ne.2 e2]; rfl
theorem mirror_split {c : GCell} (h : CellOkM c = true) (h0 : c.Split ≠ 0) : (MirrorCellM c).Split ≠ 0 ∧ (MirrorCellM c).A = c.B ∧ (MirrorCellM c).B = c.A := by
  obtain ⟨h1, h2, _⟩ := cellOk_spec h
  have e : (c.Split == 0) = false := by simp [h0]
  unfold MirrorCellM
  rw [h, e]
  simp only [cond_true, cond_false]
  refine ⟨?_, trivial, trivial⟩
  omega
theorem wc_mirror (a : Int) {c : GCell} (h : CellOkM c = true) : wcM a (MirrorCellM c) = wcM a c := by
  by_cases e0 : c.Split = 0
  · unfold MirrorCellM; simp [h, e0]
  · obtain ⟨m1, m2, m3⟩ := mirror_split h e0
    unfold wcM
    rw [beq_eq_false_iff_ne.2 m1, beq_eq_false_iff_ne.2 e0]
    rfl
theorem hc_mirror (a : Int) {c : GCell} (h : CellOkM c = true) : hcM a (MirrorCellM c) = hcM a c := by
  by_cases e0 : c.Split = 0
  · unfold MirrorCellM; simp [h, e0]
  · obtain ⟨m1, m2, m3⟩ := mirror_split h e0
    unfold hcM
    rw [beq_eq_false_iff_ne.2 m1, beq_eq_false_iff_ne.2 e0, m2, m3]
    simp only [cond_false]; omega
theorem nat_toNat_beq {x : Int} (h : 0 ≤ x) (a : Nat) : (a == x.toNat) = (x == (a : Int)) := by
  rw [Bool.eq_iff_iff]; simp; omega
def wsM (cs : List GCell) (a : Int) : Int := isum (cs.map (wcM a))
def hsM (cs : List GCell) (a : Int) : Int := isum (cs.map (hcM a))
theorem ws_bound {cs : List GCell} (hl : cs.length ≤ 16) (a : Int) : 0 ≤ wsM cs a ∧ wsM cs a ≤ 32 := by
  have := isum_bound (B := 2) (xs := cs.map (wcM a)) (fun x hx => by
    simp only [List.mem_map] at hx; obtain ⟨c, _, rfl⟩ := hx; exact wc_bound a c)
  simp only [List.length_map] at this
  unfold wsM; omega
theorem hs_bound {cs : List GCell} (hl : cs.length ≤ 16) (a : Int) : 0 ≤ hsM cs a ∧ hsM cs a ≤ 32 := by
  have := isum_bound (B := 2) (xs := cs.map (hcM a)) (fun x hx => by
    simp only [List.mem_map] at hx; obtain ⟨c, _, rfl⟩ := hx; exact hc_bound a c)
  simp only [List.length_map] at this
  unfold hsM; omega
theorem mul_b {v x B : Int} (h0 : 0 ≤ v) (h1 : v ≤ B) (x0 : 0 ≤ x) (x1 : x ≤ 32) : 0 ≤ v * x ∧ v * x ≤ B * 32 :=
  ⟨Int.mul_nonneg h0 x0, Int.mul_le_mul h1 x1 x0 (by omega)⟩
/-- The cells of a block, counted into two tables. -/
theorem cell_loop {f : Nat → List Int × List Int → Option (Res (List Int × List Int) Empty)} {cs : List GCell} (hc : ∀ c ∈ cs, CellOkM c = true) (hl : cs.length ≤ 16) {vw vh B M : Int} (w0 : 0 ≤ vw) (w1 : vw ≤ B) (h0 : 0 ≤ vh) (h1 : vh ≤ B) (hM : M + B * 34 ≤ 4611686018427387904) (hB : 0 ≤ B)
    (h : ∀ k (w h : List Int), k < cs.length → w.length = 6 → h.length = 6 → (∀ a, a < 6 → 0 ≤ gx w a ∧ gx w a + B ≤ 4611686018427387904) → (∀ a, a < 6 → 0 ≤ gx h a ∧ gx h a + B ≤ 4611686018427387904) →
      f k (w, h) = some (.next (bif (gx cs k).Split == 0 then (w.set (gx cs k).A.toNat (gx w (gx cs k).A.toNat + vw), h) else (w, (h.set (gx cs k).A.toNat (gx h (gx cs k).A.toNat + vh)).set (gx cs k).B.toNat (gx h (gx cs k).B.toNat + vh)))))
    {W H : Nat → Int} (hW : ∀ a, a < 6 → 0 ≤ W a ∧ W a ≤ M) (hH : ∀ a, a < 6 → 0 ≤ H a ∧ H a ≤ M) :
    lpO f cs.length (tab6 W, tab6 H) = some (tab6 fun a => W a + vw * wsM cs a, tab6 fun a => H a + vh * hsM cs a) := by
  have hs0 : (tab6 W, tab6 H) = (tab6 fun a => W a + vw * wsM (cs.take 0) a, tab6 fun a => H a + vh * hsM (cs.take 0) a) := by simp [wsM, hsM, isum]
  have hend : (tab6 fun a => W a + vw * wsM cs a, tab6 fun a => H a + vh * hsM cs a) = (tab6 fun a => W a + vw * wsM (cs.take cs.length) a, tab6 fun a => H a + vh * hsM (cs.take cs.length) a) := by simp
  rw [hend]
  refine lpO_st (fun j => (tab6 fun a => W a + vw * wsM (cs.take j) a, tab6 fun a => H a + vh * hsM (cs.take j) a)) hs0 fun j hj => ?_
  have hok := hc _ (gx_mem hj)
  obtain ⟨c1, c2, c3, c4, c5, c6, c7⟩ := cellOk_spec hok
  have tl : (cs.take j).length ≤ 16 := by simp; omega
  have bw : ∀ a, a < 6 → 0 ≤ W a + vw * wsM (cs.take j) a ∧ W a + vw * wsM (cs.take j) a ≤ M + B * 32 := fun a ha => by
    obtain ⟨b1, b2⟩ := ws_bound tl a
    have := mul_b w0 w1 b1 b2
    have := hW a ha
    omega
  have bh : ∀ a, a < 6 → 0 ≤ H a + vh * hsM (cs.take j) a ∧ H a + vh * hsM (cs.take j) a ≤ M + B * 32 := fun a ha => by
    obtain ⟨b1, b2⟩ := hs_bound tl a
    have := mul_b h0 h1 b1 b2
    have := hH a ha
    omega
  have sw : ∀ a : Nat, wsM (cs.take (j + 1)) a = wsM (cs.take j) a + wcM a (gx cs j) := fun a => by
    unfold wsM
    rw [List.take_succ_eq_append_getElem hj, List.map_append, isum_append, ← gx_lt hj]; simp [isum]
  have sh : ∀ a : Nat, hsM (cs.take (j + 1)) a = hsM (cs.take j) a + hcM a (gx cs j) := fun a => by
    unfold hsM
    rw [List.take_succ_eq_append_getElem hj, List.map_append, isum_append, ← gx_lt hj]; simp [isum]
  rw [h j _ _ hj (tab6_len _) (tab6_len _) (fun a ha => by rw [tab6_gx _ ha]; have := bw a ha; omega) (fun a ha => by rw [tab6_gx _ ha]; have := bh a ha; omega)]
  congr 2
  have hA : (gx cs j).A.toNat < 6 := by omega
  have hB' : (gx cs j).B.toNat < 6 := by omega
  cases hsp : (gx cs j).Split == 0
  · have hne : (gx cs j).A ≠ (gx cs j).B := fun e => by
      have := c7.2 e
      rw [this] at hsp; cases hsp
    simp only [cond_false]
    rw [tab6_gx _ hA, tab6_gx _ hB', tab6_set, tab6_set]
    congr 1
    · exact tab6_congr fun a ha => by rw [sw]; simp [wcM, hsp]
    · exact tab6_congr fun a ha => by
        rw [sh]
        unfold hcM
        rw [hsp, nat_toNat_beq c3, nat_toNat_beq c5]
        simp only [cond_false]
        cases hb : (gx cs j).B == (a : Int)
        · cases hx : (gx cs j).A == (a : Int)
          · simp
          · have e : (gx cs j).A.toNat = a := by have := eq_of_beq hx; omega
            simp only [cond_true, cond_false, e, Int.mul_add]; omega
        · have e : (gx cs j).B.toNat = a := by have := eq_of_beq hb; omega
          have hx : ((gx cs j).A == (a : Int)) = false := by
            rw [beq_eq_false_iff_ne]
            have := eq_of_beq hb
            omega
          simp only [cond_true, cond_false, e, hx, Int.mul_add]; omega
  · simp only [cond_true]
    rw [tab6_gx _ hA, tab6_set]
    congr 1
    · exact tab6_congr fun a ha => by
        rw [sw]
        unfold wcM
        rw [hsp, nat_toNat_beq c3]
        simp only [cond_true]
        cases hx : (gx cs j).A == (a : Int)
        · simp
        · have e : (gx cs j).A.toNat = a := by have := eq_of_beq hx; omega
          simp only [cond_true, e, Int.mul_add]; omega
    · exact tab6_congr fun a ha => by rw [sh]; simp [hcM, hsp]

theorem forO_allSt {S C : Type} {f : Nat → S → Option (Res S C)} {N : Nat} (p : Nat → Bool) (st : Nat → S) {s0 : S} (h0 : s0 = st 0) {c : C} (h : ∀ k, k < N → (∀ j, j < k → p j = true) → f k (st k) = some (bif p k then .next (st (k + 1)) else .ret c)) : forO f N 0 s0 = some (bif (List.range N).all p then .inl (st N) else .inr c) := by
  have hmin : ∀ n, (∀ j, j < n → p j = true) ∨ ∃ k, k < n ∧ p k = false ∧ ∀ j, j < k → p j = true := by
    intro n
    induction n with
    | zero => left; intro j hj; omega
    | succ n ih =>
      rcases ih with ih | ⟨k, h1, h2, h3⟩
      · cases hp : p n with
        | true => left; intro j hj; rcases Nat.lt_or_ge j n with hlt | hge
                  · exact ih j hlt
                  · rw [show j = n by omega]; exact hp
        | false => right; exact ⟨n, by omega, hp, ih⟩
      · right; exact ⟨k, by omega, h2, h3⟩
  rcases hmin N with hall | ⟨K, hK, hp, hlt⟩
  · have : (List.range N).all p = true := by
      rw [List.all_eq_true]; intro k hk; exact hall k (by simpa using hk)
    rw [this]
    exact forO_st st h0 fun k hk => by rw [h k hk (fun j hj => hall j (by omega)), hall k hk]; rfl
  · have : (List.range N).all p = false := by
      rw [List.all_eq_false]; exact ⟨K, by simpa using hK, by simp [hp]⟩
    rw [this]
    exact forO_retAt st h0 K hK (fun k hk => by rw [h k (by omega) (fun j hj => hlt j (by omega)), hlt k hk]; rfl) (by rw [h K hK hlt, hp]; rfl)

theorem guild_parts {g : GGuild} (h : GuildOkM g = true) : MembersOkM g.Members = true ∧ StockOkM g.Stock = true ∧ LedgerOkM g.Books = true ∧ g.Entries.length ≤ 10 ∧ ∀ k, k < g.Entries.length → BlockOkM (gx g.Entries k).Block = true := by
  simp only [GuildOkM, Bool.and_eq_true, List.all_eq_true, List.mem_range] at h
  obtain ⟨⟨⟨⟨⟨⟨h1, h2⟩, h3⟩, h4⟩, h5⟩, h6⟩, h7⟩ := h
  refine ⟨h1, h2, h3, ?_, fun k hk => ?_⟩
  · simp at h4; omega
  · have := h6 k hk
    simp only [entP, EntryOkM, Bool.and_eq_true] at this
    exact this.1.1.2

theorem join_loop (xs : List GMember) (n : Int) (hl : xs.length ≤ 1048600) : ∃ j : Nat, j ≤ xs.length ∧ wlO (spec_JoinGuild_L1 xs n) 18446744073709551616 0 = some (j : Int) := by
  have key : ∀ m k fuel, k + m = xs.length → m < fuel → ∃ j : Nat, j ≤ xs.length ∧ whO (spec_JoinGuild_L1 xs n) fuel (k : Int) = some (.inl (j : Int)) := by
    intro m
    induction m with
    | zero =>
      intro k fuel hk hf
      obtain ⟨fuel, rfl⟩ : ∃ q, fuel = q + 1 := ⟨fuel - 1, by omega⟩
      refine ⟨k, by omega, ?_⟩
      have hd : decide ((k : Int) < (xs.length : Int)) = false := by simp; omega
      have hg : spec_JoinGuild_L1 xs n (k : Int) = some (.brk (k : Int)) := by
        unfold spec_JoinGuild_L1
        rw [hd]; rfl
      rw [whO, hg]; rfl
    | succ m ih =>
      intro k fuel hk hf
      obtain ⟨fuel, rfl⟩ : ∃ q, fuel = q + 1 := ⟨fuel - 1, by omega⟩
      have hd : decide ((k : Int) < (xs.length : Int)) = true := by simp; omega
      have e : wr ((k : Int) + 1) = ((k + 1 : Nat) : Int) := by rw [wr_of (by omega) (by omega)]; simp
      have hg : spec_JoinGuild_L1 xs n (k : Int) = some (bif decide ((gx xs k).Number < n) then .next ((k + 1 : Nat) : Int) else .brk (k : Int)) := by
        unfold spec_JoinGuild_L1
        rw [hd, e]
        simp only [cond_true, Int.toNat_natCast]
        rw [gd_pos ⟨by omega, by omega⟩]
        simp only [Option.bind_some]
        cases decide ((gx xs k).Number < n) <;> rfl
      rw [whO, hg]
      cases decide ((gx xs k).Number < n)
      · exact ⟨k, by omega, rfl⟩
      · exact ih (k + 1) fuel (by omega) (by omega)
  obtain ⟨j, h1, h2⟩ := key xs.length 0 18446744073709551616 (by omega) (by omega)
  refine ⟨j, h1, ?_⟩
  unfold wlO
  rw [show (0 : Int) = ((0 : Nat) : Int) from rfl, h2]; rfl
theorem gx_mid {α : Type} [Rep α] (A B : List α) (x : α) {j : Nat} (hj : A.length = j) : gx ((A ++ [x]) ++ B) j = x := by
  subst hj
  simp [gx, List.getD]

theorem rx_join (xs : List GMember) (n y : Int) (hl : xs.length ≤ 1048576) : ∃ (r : List GMember × Bool) (j : Nat), wlO (spec_JoinGuild_L1 xs n) 18446744073709551616 0 = some (j : Int) ∧ r.1.length ≤ xs.length + 1 ∧ spec_JoinGuild xs n y = some r ∧ impl_JoinGuild xs n y = some r ∧ (∀ m ∈ r.1, m ∈ xs ∨ m.Number = n) ∧ (MembersOkM xs = true → inR y 1900 2999 = true → MembersOkM (((([] : List GMember) ++ ((xs.drop 0).take (j - 0))) ++ [(GMember.mk n y (wr (y - 1)))]) ++ ((xs.drop j).take (xs.length - j))) = true → r = (((([] : List GMember) ++ ((xs.drop 0).take (j - 0))) ++ [(GMember.mk n y (wr (y - 1)))]) ++ ((xs.drop j).take (xs.length - j)), true)) := by
  obtain ⟨j, hj, hloop⟩ := join_loop xs n (by omega)
  have hloop' : wlO (impl_JoinGuild_L1 xs n) 18446744073709551616 0 = some (j : Int) := hloop
  have hA : (([] : List GMember) ++ ((xs.drop 0).take (j - 0))).length = j := by simp; omega
  have hB : ((xs.drop j).take (xs.length - j)).length = xs.length - j := by simp
  generalize hout : ((([] : List GMember) ++ ((xs.drop 0).take (j - 0))) ++ [(GMember.mk n y (wr (y - 1)))]) ++ ((xs.drop j).take (xs.length - j)) = out
  have hol : out.length = xs.length + 1 := by
    rw [← hout, List.length_append, List.length_append, hA, hB]; simp; omega
  have hmid : gx out j = GMember.mk n y (wr (y - 1)) := by rw [← hout]; exact gx_mid _ _ _ hA
  have g1 : gd (0 ≤ (j : Int) ∧ 0 ≤ (j : Int).toNat ∧ (j : Int).toNat ≤ xs.length) = fun (t : Option (List GMember × Bool)) => t := by
    funext t; exact gd_pos ⟨by omega, by omega, by omega⟩ t
  have hd0 : ((xs.drop 0).take (j - 0)).length = j := by simp; omega
  have fI : impl_JoinGuild xs n y = ((bif !MembersOkM xs then some true else some (!MembersOkM out)).bind fun j2 => bif j2 then some (xs, false) else some (out, true)) := by
    unfold impl_JoinGuild
    rw [hloop']
    simp only [Option.bind_some, Int.toNat_natCast]
    rw [gd_pos ⟨by omega, by omega, by omega⟩, gd_pos (by rw [hd0]; simp; omega), gd_pos (by rw [hA]; omega), gd_pos ⟨by omega, by omega, by omega⟩, gd_pos (by rw [List.length_append, hA, hB]; simp; omega)]
    rw [hout, impl_MembersOk_eq xs (by omega), impl_MembersOk_eq out (by omega), impl_copyMembers_eq (by omega)]
    simp only [Option.bind_some]
  have fS : spec_JoinGuild xs n y = ((bif !MembersOkM xs then some true else some (!inR y 1900 2999)).bind fun j1 => bif j1 then some (xs, false) else (bif !MembersOkM out then some (xs, false) else some (out, true))) := by
    unfold spec_JoinGuild
    rw [hloop]
    simp only [Option.bind_some, Int.toNat_natCast]
    rw [gd_pos (by simp; omega), spec_MembersOk_eq xs (by omega)]
    simp only [l01In_eq, Option.bind_some, List.nil_append]
    have e : ∀ t : Option (List GMember × Bool), (gd (0 ≤ (j : Int) ∧ 0 ≤ j ∧ j ≤ xs.length) <| gd (([] : List GMember).length + ((xs.drop 0).take (j - 0)).length ≤ 1099511627776) <| gd ((((xs.drop 0).take (j - 0))).length + 1 ≤ 1099511627776) <| gd (0 ≤ (j : Int) ∧ j ≤ xs.length ∧ xs.length ≤ xs.length) <| gd (((((xs.drop 0).take (j - 0))) ++ [(GMember.mk n y (wr (y - 1)))]).length + ((xs.drop j).take (xs.length - j)).length ≤ 1099511627776) t) = t := fun t => by
      rw [gd_pos ⟨by omega, by omega, by omega⟩, gd_pos (by rw [hd0]; simp; omega), gd_pos (by rw [hd0]; omega), gd_pos ⟨by omega, by omega, by omega⟩, gd_pos (by rw [List.length_append, hd0, hB]; simp; omega)]
    rw [e]
    have ho : (((xs.drop 0).take (j - 0)) ++ [(GMember.mk n y (wr (y - 1)))]) ++ ((xs.drop j).take (xs.length - j)) = out := by rw [← hout]; simp
    rw [ho, spec_MembersOk_eq out (by omega)]
    simp only [Option.bind_some]
  have hmem : ∀ m ∈ out, m ∈ xs ∨ m.Number = n := fun m h => by
    rw [← hout] at h
    simp only [List.nil_append, List.mem_append, List.mem_singleton] at h
    rcases h with (h | rfl) | h
    · exact .inl (List.mem_of_mem_drop (List.mem_of_mem_take h))
    · exact .inr rfl
    · exact .inl (List.mem_of_mem_drop (List.mem_of_mem_take h))
  rw [fI, fS]
  cases hm : MembersOkM xs
  · exact ⟨(xs, false), j, hloop, by simp, rfl, rfl, fun m h => .inl h, fun h => by cases h⟩
  cases ho : MembersOkM out
  · exact ⟨(xs, false), j, hloop, by simp, by cases inR y 1900 2999 <;> rfl, rfl, fun m h => .inl h, fun _ _ h => by rw [hout, ho] at h; cases h⟩
  · have hy : inR y 1900 2999 = true := by
      simp only [MembersOkM, Bool.and_eq_true, List.all_eq_true, List.mem_range] at ho
      have := ho.1 j (by omega)
      simp only [memP, hmid, Bool.and_eq_true] at this
      exact this.1.1.2
    rw [hy]
    exact ⟨(out, true), j, hloop, by simp only; omega, rfl, rfl, hmem, fun _ _ _ => by rw [hout]⟩
theorem join_same (xs : List GMember) (n y : Int) (hl : xs.length ≤ 1048576) : ∃ r : List GMember × Bool, r.1.length ≤ xs.length + 1 ∧ spec_JoinGuild xs n y = some r ∧ impl_JoinGuild xs n y = some r :=
  have ⟨r, _, _, a, b, c, _⟩ := rx_join xs n y hl
  ⟨r, a, b, c⟩

theorem set_self {α : Type} [Rep α] {s : List α} {k : Nat} {x : α} (hk : k < s.length) (h : gx s k = x) : s.set k x = s := by
  apply gx_ext
  · simp
  · intro i hi
    by_cases e : i = k
    · subst e; rw [gx_set hk, h]
    · rw [gx_set_ne e]
theorem map_loop {α : Type} [Rep α] {f : Nat → List α × Bool → Option (Res (List α × Bool) Empty)} (xs : List α) (F : α → α) (p : α → Bool) (h : ∀ k s b, k < xs.length → s.length = xs.length → gx s k = gx xs k → f k (s, b) = some (.next (s.set k (F (gx xs k)), p (gx xs k) || b))) : lpO f xs.length (xs, false) = some (xs.map F, xs.any p) := by
  have hend : (xs.map F, xs.any p) = ((xs.take xs.length).map F ++ xs.drop xs.length, (xs.take xs.length).any p) := by simp
  rw [hend]
  refine lpO_st (fun k => ((xs.take k).map F ++ xs.drop k, (xs.take k).any p)) (by simp) fun k hk => ?_
  have hg : gx ((xs.take k).map F ++ xs.drop k) k = gx xs k := by
    unfold gx List.getD
    rw [List.getElem?_append_right (by simp; omega)]
    simp [Nat.min_eq_left (Nat.le_of_lt hk)]
  rw [h k _ _ hk (by simp; omega) hg]
  congr 3
  · apply gx_ext
    · simp; omega
    · intro i hi
      have hi' : i < xs.length := by simp at hi; omega
      by_cases e : i = k
      · subst e
        rw [gx_set (by simp; omega), List.take_succ_eq_append_getElem hk, ← gx_lt hk, List.map_append]
        rw [gx_append_left (by simp; omega)]
        unfold gx List.getD
        rw [List.getElem?_append_right (by simp; omega)]
        simp [Nat.min_eq_left (Nat.le_of_lt hk)]
      · rw [gx_set_ne e]
        rcases Nat.lt_or_ge i k with hlt | hge
        · rw [gx_append_left (by simp; omega), gx_append_left (by simp; omega), List.take_succ_eq_append_getElem hk, List.map_append, gx_append_left (by simp; omega)]
        · unfold gx List.getD
          rw [List.getElem?_append_right (by simp; omega), List.getElem?_append_right (by simp; omega)]
          simp only [List.length_map, List.length_take, List.getElem?_drop]
          rw [Nat.min_eq_left (by omega), Nat.min_eq_left (by omega), show k + (i - k) = k + 1 + (i - (k + 1)) by omega]
  · rw [List.take_succ_eq_append_getElem hk, List.any_append, ← gx_lt hk, Bool.or_comm]
    simp
def dueM (n : Int) (m : GMember) : GMember := bif m.Number == n then ⟨m.Number, m.Since, wr (m.Paid + 1)⟩ else m
def PayM (xs : List GMember) (n : Int) : List GMember × Bool := bif MembersOkM xs && xs.any (fun m => m.Number == n) && MembersOkM (xs.map (dueM n)) then (xs.map (dueM n), true) else (xs, false)
theorem pay_len (xs : List GMember) (n : Int) : (PayM xs n).1.length = xs.length := by
  unfold PayM
  cases MembersOkM xs && xs.any (fun m => m.Number == n) && MembersOkM (xs.map (dueM n)) <;> simp

theorem spec_PayDues_eq {xs : List GMember} (hl : xs.length ≤ 1048577) (n : Int) : spec_PayDues xs n 1 = some (PayM xs n) := by
  unfold spec_PayDues PayM
  simp only [List.nil_append]
  rw [gd_pos (by simp; omega), gd_pos (by omega), map_loop (f := spec_PayDues_L1 xs n 1) xs (dueM n) (fun m => m.Number == n) (fun k s b hk hs hg => by
    have i1 : inR 1 1 10 = true := rfl
    simp only [spec_PayDues_L1, l01In_eq, i1, Option.bind_some, cond_true, dueM, hg]
    cases hq : (gx xs k).Number == n
    · simp only [cond_false, Option.bind_some, Bool.false_or]
      rw [set_self (by omega) hg]
    · simp only [cond_true]
      rw [gd_pos (by omega)]
      rfl)]
  simp only [Option.bind_some, spec_MembersOk_eq xs (show xs.length ≤ 4611686018427387904 by omega), spec_MembersOk_eq (xs.map (dueM n)) (show (xs.map (dueM n)).length ≤ 4611686018427387904 by simp; omega)]
  cases MembersOkM xs <;> cases xs.any (fun m => m.Number == n) <;> cases MembersOkM (xs.map (dueM n)) <;> rfl

theorem impl_PayDues_eq {xs : List GMember} (hl : xs.length ≤ 1048577) (n : Int) : impl_PayDues xs n 1 = some (PayM xs n) := by
  have i1 : inR 1 1 10 = true := rfl
  unfold impl_PayDues PayM
  simp only [impl_copyMembers_eq (show xs.length ≤ 1048600 by omega), within_eq, i1, Option.bind_some, impl_MembersOk_eq xs (show xs.length ≤ 4611686018427387904 by omega)]
  cases MembersOkM xs
  · rfl
  simp only [Bool.not_true, cond_false, Option.bind_some]
  rw [gd_pos (by omega), map_loop (f := impl_PayDues_L1 n 1) xs (dueM n) (fun m => m.Number == n) (fun k s b hk hs hg => by
    unfold impl_PayDues_L1
    rw [gd_pos (by simp only; omega)]
    simp only [hg, dueM]
    cases hq : (gx xs k).Number == n
    · simp only [cond_false]
      rw [set_self (by omega) hg]
    · rfl)]
  simp only [Option.bind_some, impl_MembersOk_eq (xs.map (dueM n)) (show (xs.map (dueM n)).length ≤ 4611686018427387904 by simp; omega)]
  cases xs.any (fun m => m.Number == n) <;> cases MembersOkM (xs.map (dueM n)) <;> rfl

def BookM (xs : List GBooking) (b : GBooking) : List GBooking × Bool := bif LedgerOkM xs && LedgerOkM (xs ++ [b]) then (xs ++ [b], true) else (xs, false)
theorem book_len (xs : List GBooking) (b : GBooking) : (BookM xs b).1.length ≤ xs.length + 1 := by
  unfold BookM
  cases LedgerOkM xs && LedgerOkM (xs ++ [b]) <;> simp

theorem spec_BookSum_eq {xs : List GBooking} (hl : xs.length ≤ 1048576) (b : GBooking) : spec_BookSum xs b = some (BookM xs b) := by
  unfold spec_BookSum BookM
  simp only [List.nil_append]
  rw [gd_pos (by simp; omega), gd_pos (by omega), spec_LedgerOk_eq xs (by omega), spec_LedgerOk_eq (xs ++ [b]) (by simp; omega)]
  cases LedgerOkM xs <;> cases LedgerOkM (xs ++ [b]) <;> rfl

theorem impl_BookSum_eq {xs : List GBooking} (hl : xs.length ≤ 1048576) (b : GBooking) : impl_BookSum xs b = some (BookM xs b) := by
  unfold impl_BookSum BookM
  simp only [List.nil_append]
  rw [gd_pos (by simp; omega), gd_pos (by omega), impl_LedgerOk_eq xs (by omega), impl_LedgerOk_eq (xs ++ [b]) (by simp; omega)]
  cases LedgerOkM xs <;> cases LedgerOkM (xs ++ [b]) <;> rfl

/-- What it means that a member was admitted. -/
def AdmitTo (g : GGuild) (n : Int) (w : GGuild × Bool) : Prop := ∃ (r : List GMember × Bool) (d : Int), spec_JoinGuild g.Members n g.Year = some r ∧ r.2 = true ∧ (PayM r.1 n).2 = true ∧ (BookM g.Books ⟨d, 0, 1, 20⟩).2 = true ∧ w = ((⟨(PayM r.1 n).1, g.Stock, g.Entries, (BookM g.Books ⟨d, 0, 1, 20⟩).1, g.Round, g.Year⟩ : GGuild), true) ∧ GuildOkM w.1 = true
/-- The day of the last booking. -/
def lastDay (xs : List GBooking) : Int := bif decide ((xs.length : Int) > 0) then (gx xs (xs.length - 1)).Day else 0
theorem fx_Admit (g : GGuild) (n : Int) (h : Sm.ok g) : ∃ r : List GMember × Bool, spec_JoinGuild g.Members n g.Year = some r ∧ r.1.length ≤ g.Members.length + 1 ∧ (∀ x : GGuild, x = ⟨(PayM r.1 n).1, g.Stock, g.Entries, (BookM g.Books ⟨lastDay g.Books, 0, 1, 20⟩).1, g.Round, g.Year⟩ → spec_Admit g n = some (bif GuildOkM g && (g.Round == 0) && r.2 && (PayM r.1 n).2 && (BookM g.Books ⟨lastDay g.Books, 0, 1, 20⟩).2 && GuildOkM x then (x, true) else (g, false)) ∧ impl_Admit g n = some (bif GuildOkM g && (g.Round == 0) && r.2 && (PayM r.1 n).2 && (BookM g.Books ⟨lastDay g.Books, 0, 1, 20⟩).2 && GuildOkM x then (x, true) else (g, false))) := by
  have hm := h.1.1
  have hbk : g.Books.length ≤ 1048576 := h.2.2.2.1
  obtain ⟨r, rl, rs, ri⟩ := join_same g.Members n g.Year hm
  have hd : (bif decide ((g.Books.length : Int) > 0) then gd (0 ≤ wr ((g.Books.length : Int) - 1) ∧ wr ((g.Books.length : Int) - 1) < (g.Books.length : Int)) (some (gx g.Books (wr ((g.Books.length : Int) - 1)).toNat).Day) else some 0) = some (lastDay g.Books) := by
    unfold lastDay
    cases hd : decide ((g.Books.length : Int) > 0)
    · rfl
    · have hd' : (g.Books.length : Int) > 0 := by simpa using hd
      have e : wr ((g.Books.length : Int) - 1) = ((g.Books.length - 1 : Nat) : Int) := by rw [wr_of (by omega) (by omega)]; omega
      rw [e, cond_true, cond_true, gd_pos ⟨by omega, by omega⟩, Int.toNat_natCast]
  generalize lastDay g.Books = d at hd ⊢
  have pl := pay_len r.1 n
  have bl := book_len g.Books ⟨d, 0, 1, 20⟩
  have hgl := sm_GL h
  have hn : GL (⟨(PayM r.1 n).1, g.Stock, g.Entries, (BookM g.Books ⟨d, 0, 1, 20⟩).1, g.Round, g.Year⟩ : GGuild) := ⟨by simp only; omega, hgl.2.1, hgl.2.2.1, by simp only; omega⟩
  refine ⟨r, rs, rl, fun x hxe => ?_⟩
  unfold spec_Admit impl_Admit
  simp only [spec_l38Copy_eq h, impl_Guild_copied_eq h, spec_GuildOk_eq g hgl, Option.bind_some, hd, rs, ri, spec_PayDues_eq (show r.1.length ≤ 1048577 by omega), impl_PayDues_eq (show r.1.length ≤ 1048577 by omega), spec_BookSum_eq hbk, impl_BookSum_eq hbk, spec_GuildOk_eq _ hn, impl_becomes_eq h hn]
  simp only [← hxe]
  have hr' : (g.Round != 0) = !(g.Round == 0) := rfl
  rw [hr']
  cases GuildOkM g <;> cases (g.Round == 0) <;> cases r.2 <;> cases (PayM r.1 n).2 <;> cases (BookM g.Books ⟨d, 0, 1, 20⟩).2 <;> cases GuildOkM x <;> exact ⟨rfl, rfl⟩
theorem rx_Admit (g : GGuild) (n : Int) (h : Sm.ok g) : ∃ w, spec_Admit g n = some w ∧ impl_Admit g n = some w ∧ Sm.ok w.1 ∧ (w = (g, false) ∨ AdmitTo g n w) := by
  obtain ⟨r, r1, _, hx⟩ := fx_Admit g n h
  obtain ⟨e1, e2⟩ := hx _ rfl
  cases hc : GuildOkM g && (g.Round == 0) && r.2 && (PayM r.1 n).2 && (BookM g.Books ⟨lastDay g.Books, 0, 1, 20⟩).2 && GuildOkM (⟨(PayM r.1 n).1, g.Stock, g.Entries, (BookM g.Books ⟨lastDay g.Books, 0, 1, 20⟩).1, g.Round, g.Year⟩ : GGuild)
  · rw [hc] at e1 e2
    exact ⟨_, e1, e2, h, .inl rfl⟩
  · rw [hc] at e1 e2
    simp only [Bool.and_eq_true] at hc
    obtain ⟨⟨⟨⟨⟨_, _⟩, c3⟩, c4⟩, c5⟩, c6⟩ := hc
    exact ⟨_, e1, e2, guildOk_sm c6, .inr ⟨r, _, r1, c3, c4, c5, rfl, c6⟩⟩

def usedM (b : GBlock) (a : Int) : Bool := b.Cells.any fun c => c.A == a || c.B == a
theorem isum_nonneg {α : Type} {f : α → Int} : ∀ {xs : List α}, (∀ x ∈ xs, 0 ≤ f x) → 0 ≤ isum (xs.map f)
  | [], _ => by simp [isum]
  | x :: r, h => by
    have := isum_nonneg (xs := r) fun y hy => h y (by simp [hy])
    have := h x (by simp)
    simp only [List.map_cons, isum]; omega
theorem isum_pos_iff {α : Type} {f : α → Int} : ∀ {xs : List α}, (∀ x ∈ xs, 0 ≤ f x) → (0 < isum (xs.map f) ↔ ∃ x, x ∈ xs ∧ 0 < f x)
  | [], _ => by simp [isum]
  | x :: r, h => by
    have ih := isum_pos_iff (xs := r) fun y hy => h y (by simp [hy])
    have h0 := h x (by simp)
    have hr := isum_nonneg (xs := r) (f := f) fun y hy => h y (by simp [hy])
    simp only [List.map_cons, isum]
    constructor
    · intro hp
      by_cases hx : 0 < f x
      · exact ⟨x, by simp, hx⟩
      · obtain ⟨y, hy, hp⟩ := ih.1 (by omega)
        exact ⟨y, by simp [hy], hp⟩
    · rintro ⟨y, hy, hp⟩
      simp only [List.mem_cons] at hy
      rcases hy with rfl | hy
      · omega
      · have := ih.2 ⟨y, hy, hp⟩; omega
theorem area_pos {b : GBlock} (h : BlockOkM b = true) (a : Int) : decide (AreaM b a > 0) = usedM b a := by
  rw [Bool.eq_iff_iff, decide_eq_true_iff]
  unfold AreaM usedM
  rw [h, cond_true, List.any_eq_true]
  refine (isum_pos_iff fun c _ => (ar_bound a c).1).trans ?_
  constructor
  · rintro ⟨c, hc, hp⟩
    refine ⟨c, hc, ?_⟩
    unfold arM at hp
    cases h1 : c.A == a
    · cases h2 : c.B == a
      · rw [h1, h2] at hp; simp at hp
      · rfl
    · rfl
  · rintro ⟨c, hc, hp⟩
    refine ⟨c, hc, ?_⟩
    unfold arM
    cases h1 : c.A == a
    · cases h2 : c.B == a
      · rw [h1, h2] at hp; simp at hp
      · simp
    · cases h2 : c.B == a <;> simp
def colsM (b : GBlock) : List Int := ((List.range 6).filter fun a : Nat => usedM b (a : Int)).map fun a : Nat => (a : Int)
def ColorsM (b : GBlock) : List Int := bif BlockOkM b then colsM b else []
theorem mem_cols {b : GBlock} {x : Int} : x ∈ colsM b ↔ (0 ≤ x ∧ x ≤ 5) ∧ usedM b x = true := by
  simp only [colsM, List.mem_map, List.mem_filter, List.mem_range]
  constructor
  · rintro ⟨a, ⟨h1, h2⟩, rfl⟩
    exact ⟨⟨by omega, by omega⟩, h2⟩
  · rintro ⟨⟨h1, h2⟩, h3⟩
    obtain ⟨a, rfl⟩ := Int.eq_ofNat_of_zero_le h1
    exact ⟨a, ⟨by omega, h3⟩, rfl⟩
theorem cols_nodup (b : GBlock) : (colsM b).Nodup := by
  have h : ((List.range 6).filter fun a : Nat => usedM b (a : Int)).Nodup := List.Pairwise.filter _ List.nodup_range
  exact List.Pairwise.map _ (fun a b hab e => hab (by omega)) h
theorem cols_len (b : GBlock) : (colsM b).length ≤ 6 := by
  have := List.length_filter_le (fun a : Nat => usedM b (a : Int)) (List.range 6)
  simpa [colsM] using this
theorem cols_pos {b : GBlock} (h : BlockOkM b = true) : 0 < (colsM b).length := by
  obtain ⟨n, hn, h1, h2, hl, hc⟩ := blockOk_spec h
  have hnn : 1 * 1 ≤ n * n := Nat.mul_le_mul h1 h1
  have hm : gx b.Cells 0 ∈ b.Cells := gx_mem (by omega)
  obtain ⟨_, _, a1, a2, _⟩ := cellOk_spec (hc _ hm)
  apply List.length_pos_of_mem (a := (gx b.Cells 0).A)
  refine mem_cols.2 ⟨⟨a1, a2⟩, ?_⟩
  unfold usedM
  rw [List.any_eq_true]
  exact ⟨_, hm, by simp⟩

theorem impl_ColorsOf_eq (b : GBlock) : impl_ColorsOf b = some (ColorsM b) := by
  unfold impl_ColorsOf ColorsM
  simp only [impl_BlockOk_eq, Option.bind_some]
  cases h : BlockOkM b
  · rfl
  simp only [Bool.not_true, cond_false, cond_true]
  rw [lpO_filter (f := impl_ColorsOf_L1 b) (xs := []) (fun a : Nat => usedM b (a : Int)) (fun a : Nat => (a : Int)) (fun k s hk hs => by
    simp only [impl_ColorsOf_L1, impl_AreaOf_eq, Option.bind_some, area_pos h]
    rw [gd_pos (by simp at hs; omega)]
    cases usedM b (k : Int) <;> rfl)]
  rfl

theorem spec_ColorsOf_eq (b : GBlock) : spec_ColorsOf b = some (ColorsM b) := by
  unfold spec_ColorsOf ColorsM
  simp only [spec_BlockOk_eq, Option.bind_some]
  cases h : BlockOkM b
  · rfl
  obtain ⟨n, hn, h1, h2, hl, hc⟩ := blockOk_spec h
  have hnn : n * n ≤ 4 * 4 := Nat.mul_le_mul h2 h2
  simp only [Bool.not_true, cond_false, cond_true]
  rw [lpO_filter (f := spec_ColorsOf_L1 b) (xs := []) (fun a : Nat => usedM b (a : Int)) (fun a : Nat => (a : Int)) (fun k s hk hs => by
    unfold spec_ColorsOf_L1
    rw [gd_pos (by omega), lpO_st (f := spec_ColorsOf_L2 b k) (s0 := false) (fun j => (b.Cells.take j).any fun c => c.A == (k : Int) || c.B == (k : Int)) rfl (fun j hj => by
      unfold spec_ColorsOf_L2
      rw [List.take_succ_eq_append_getElem hj, List.any_append, ← gx_lt hj]
      simp)]
    simp only [Option.bind_some, List.take_length]
    rw [gd_pos (by simp at hs; omega)]
    unfold usedM
    cases b.Cells.any fun c => c.A == (k : Int) || c.B == (k : Int) <;> rfl)]
  rfl

def ColorAtM (c : GCell) (s : Nat) : Int := bif s == 0 || (c.Split == 1 && s == 1) || (c.Split == 2 && s == 3) then c.A else c.B
theorem colorAt_mem (c : GCell) (s : Nat) : ColorAtM c s = c.A ∨ ColorAtM c s = c.B := by
  unfold ColorAtM
  cases (s == 0 || (c.Split == 1 && s == 1) || (c.Split == 2 && s == 3)) <;> simp
theorem colorAt_in {c : GCell} (h : CellOkM c = true) (s : Nat) : 0 ≤ ColorAtM c s ∧ ColorAtM c s ≤ 5 := by
  obtain ⟨_, _, h1, h2, h3, h4, _⟩ := cellOk_spec h
  rcases colorAt_mem c s with e | e <;> rw [e] <;> omega

theorem spec_ColorAt_ok {c : GCell} (h : CellOkM c = true) {s : Nat} (hs : s < 4) : spec_ColorAt c (s : Int) = some (ColorAtM c s) := by
  have i : inR (s : Int) 0 3 = true := inR_iff.2 ⟨by omega, by omega⟩
  unfold spec_ColorAt ColorAtM
  simp only [spec_CellOk_eq, l01In_eq, h, i, Option.bind_some, Bool.not_true, cond_false]
  have h4 : s = 0 ∨ s = 1 ∨ s = 2 ∨ s = 3 := by omega
  rcases h4 with rfl | rfl | rfl | rfl <;> cases c.Split == 1 <;> cases c.Split == 2 <;> rfl

theorem impl_ColorAt_ok {c : GCell} (h : CellOkM c = true) {s : Nat} (hs : s < 4) : impl_ColorAt c (s : Int) = some (ColorAtM c s) := by
  have i : inR (s : Int) 0 3 = true := inR_iff.2 ⟨by omega, by omega⟩
  unfold impl_ColorAt ColorAtM
  simp only [impl_CellOk_eq, within_eq, h, i, Option.bind_some, Bool.not_true, cond_false]
  have h4 : s = 0 ∨ s = 1 ∨ s = 2 ∨ s = 3 := by omega
  rcases h4 with rfl | rfl | rfl | rfl <;> cases c.Split == 1 <;> cases c.Split == 2 <;> rfl

def cellLikeM (c d : GCell) : Int := sumN 4 fun s => bif ColorAtM c s == ColorAtM d s then 1 else 0
theorem cellLike_bound (c d : GCell) : 0 ≤ cellLikeM c d ∧ cellLikeM c d ≤ 4 := by
  have := sumN_bound (m := 4) (F := fun s => bif ColorAtM c s == ColorAtM d s then 1 else 0) (B := 1) fun s _ => by cases ColorAtM c s == ColorAtM d s <;> simp
  unfold cellLikeM; omega
def LikeM (b d : GBlock) : Int := sumN b.Cells.length fun i => cellLikeM (gx b.Cells i) (gx d.Cells i)
def pairM (b d : GBlock) : Bool := BlockOkM b && BlockOkM d && (b.Size == d.Size)
theorem pair_len {b d : GBlock} (h : pairM b d = true) : BlockOkM b = true ∧ BlockOkM d = true ∧ b.Cells.length = d.Cells.length ∧ b.Cells.length ≤ 16 := by
  simp only [pairM, Bool.and_eq_true, beq_iff_eq] at h
  obtain ⟨⟨h1, h2⟩, h3⟩ := h
  obtain ⟨n, hn, n1, n2, nl, _⟩ := blockOk_spec h1
  obtain ⟨m, hm, m1, m2, ml, _⟩ := blockOk_spec h2
  have e : n = m := by omega
  have hnn : n * n ≤ 4 * 4 := Nat.mul_le_mul n2 n2
  exact ⟨h1, h2, by rw [nl, ml, e], by omega⟩

theorem impl_arePaired_eq (b d : GBlock) : impl_arePaired b d = some (pairM b d) := by
  unfold impl_arePaired pairM
  simp only [impl_BlockOk_eq, Option.bind_some]
  cases BlockOkM b <;> cases BlockOkM d <;> rfl

theorem spec_l29Ok_eq (b d : GBlock) : spec_l29Ok b d = some (pairM b d) := by
  unfold spec_l29Ok pairM
  simp only [spec_BlockOk_eq, Option.bind_some]
  cases BlockOkM b <;> cases BlockOkM d <;> rfl

theorem impl_CellLikeness_ok {c d : GCell} (hc : CellOkM c = true) (hd : CellOkM d = true) : impl_CellLikeness c d = some (cellLikeM c d) := by
  unfold impl_CellLikeness
  simp only [impl_CellOk_eq, hc, hd, Option.bind_some, Bool.not_true, cond_false]
  rw [lpO_sum (f := impl_CellLikeness_L1 c d) (fun s => bif ColorAtM c s == ColorAtM d s then 1 else 0) (s0 := 0) (B := 1) (fun k s hk h0 h1 => by
    simp only [impl_CellLikeness_L1, impl_ColorAt_ok hc hk, impl_ColorAt_ok hd hk, Option.bind_some]
    cases ColorAtM c k == ColorAtM d k
    · simp
    · simp only [cond_true]; rw [wr_of (by omega) (by omega)]) (fun k _ => by cases ColorAtM c k == ColorAtM d k <;> simp) (by omega) (by omega) (by omega)]
  simp [cellLikeM, sumN]

theorem impl_Likeness_ok {b d : GBlock} (h : pairM b d = true) : impl_Likeness b d = some (LikeM b d) := by
  obtain ⟨h1, h2, h3, h4⟩ := pair_len h
  obtain ⟨_, _, _, _, _, c1⟩ := blockOk_spec h1
  obtain ⟨_, _, _, _, _, c2⟩ := blockOk_spec h2
  unfold impl_Likeness
  simp only [impl_arePaired_eq, h, Option.bind_some, Bool.not_true, cond_false]
  rw [gd_pos (by omega), lpO_sum (f := impl_Likeness_L1 b d) (fun i => cellLikeM (gx b.Cells i) (gx d.Cells i)) (s0 := 0) (B := 4) (fun k s hk g0 g1 => by
    have := cellLike_bound (gx b.Cells k) (gx d.Cells k)
    unfold impl_Likeness_L1
    rw [gd_pos (by omega), impl_CellLikeness_ok (c1 _ (gx_mem hk)) (c2 _ (gx_mem (by omega)))]
    simp only [Option.bind_some]
    rw [wr_of (by omega) (by omega)]) (fun k _ => cellLike_bound _ _) (by omega) (by omega) (by omega)]
  simp [LikeM, sumN]

def mx : Nat → (Nat → Int) → Int
  | 0, _ => 0
  | n + 1, g => if g n > mx n g then g n else mx n g
theorem mx_nonneg : ∀ n g, 0 ≤ mx n g
  | 0, _ => Int.le_refl _
  | n + 1, g => by
    have := mx_nonneg n g
    unfold mx
    split <;> omega
theorem mx_le {g : Nat → Int} : ∀ {n k : Nat}, k < n → g k ≤ mx n g
  | n + 1, k, h => by
    unfold mx
    rcases Nat.lt_or_ge k n with hlt | hge
    · have := mx_le (g := g) hlt
      split <;> omega
    · have e : k = n := by omega
      subst e
      split <;> omega
theorem mx_le_of {g : Nat → Int} {v : Int} (h0 : 0 ≤ v) : ∀ {n : Nat}, (∀ k, k < n → g k ≤ v) → mx n g ≤ v
  | 0, _ => h0
  | n + 1, h => by
    have := mx_le_of h0 (n := n) fun k hk => h k (by omega)
    have := h n (by omega)
    unfold mx
    split <;> omega
theorem mx_congr {g h : Nat → Int} : ∀ {n : Nat}, (∀ k, k < n → g k = h k) → mx n g = mx n h
  | 0, _ => rfl
  | n + 1, H => by
    unfold mx
    rw [mx_congr (n := n) fun k hk => H k (by omega), H n (by omega)]
theorem lpO_mx {f : Nat → Int → Option (Res Int Empty)} {N : Nat} (g : Nat → Int) (h : ∀ k s, k < N → f k s = some (.next (if g k > s then g k else s))) : lpO f N 0 = some (mx N g) :=
  lpO_st (fun k => mx k g) rfl fun k hk => by rw [h k _ hk]; rfl
def BestLikeM (b d : GBlock) : Int := mx 8 fun k => LikeM b (SeenM d (k : Int))
theorem pair_seen {b d : GBlock} (h : pairM b d = true) {k : Nat} (hk : k < 8) : pairM b (SeenM d (k : Int)) = true := by
  simp only [pairM, Bool.and_eq_true, beq_iff_eq] at h ⊢
  obtain ⟨⟨h1, h2⟩, h3⟩ := h
  obtain ⟨v1, v2⟩ := view_ok h2 hk
  exact ⟨⟨h1, v1⟩, by rw [v2, h3]⟩

theorem impl_BestLikeness_ok {b d : GBlock} (h : pairM b d = true) : impl_BestLikeness b d = some (BestLikeM b d) := by
  unfold impl_BestLikeness
  simp only [impl_arePaired_eq, h, Option.bind_some, Bool.not_true, cond_false, impl_views_eq, views_len]
  rw [gd_pos (by omega), lpO_mx (f := impl_BestLikeness_L1 b (viewsM d)) (fun k => LikeM b (SeenM d (k : Int))) (fun k s hk => by
    unfold impl_BestLikeness_L1
    rw [views_gx _ hk, impl_Likeness_ok (pair_seen h hk)]
    rfl)]
  rfl

/-- Exchanged colors, side by side. -/
theorem colorAt_exchange {c : GCell} {l : List Int} (hc : CellOkM c = true) (hl : ListOkM l = true) (s : Nat) : ColorAtM (ExchangeCellM c l) s = gx l (ColorAtM c s).toNat := by
  obtain ⟨h1, h2, h3, h4, h5, h6, h7⟩ := cellOk_spec hc
  obtain ⟨g1, g2⟩ := listOk_spec hl
  obtain ⟨a0, a1⟩ := g2 _ (gx_mem (show c.A.toNat < l.length by omega))
  obtain ⟨b0, b1⟩ := g2 _ (gx_mem (show c.B.toNat < l.length by omega))
  unfold ExchangeCellM SplitCellM
  rw [hc, hl]
  simp only [Bool.and_self, cond_true]
  cases he : gx l c.A.toNat == gx l c.B.toNat
  · have hne : gx l c.A.toNat ≠ gx l c.B.toNat := by simpa using he
    have hab : c.A ≠ c.B := fun e => hne (by rw [e])
    have hok : CellOkM ⟨c.Split, gx l c.A.toNat, gx l c.B.toNat⟩ = true := cellOk_of h1 h2 a0 a1 b0 b1 ⟨fun e => absurd (h7.1 e) hab, fun e => absurd e hne⟩
    rw [hok]
    simp only [cond_false, cond_true]
    unfold ColorAtM
    simp only
    cases (s == 0 || (c.Split == 1 && s == 1) || (c.Split == 2 && s == 3)) <;> rfl
  · have e : gx l c.A.toNat = gx l c.B.toNat := by simpa using he
    have hi : inR (gx l c.A.toNat) 0 5 = true := inR_iff.2 ⟨a0, a1⟩
    unfold WholeCellM
    rw [hi]
    simp only [cond_true]
    rcases colorAt_mem c s with q | q <;> rw [q]
    · rcases colorAt_mem ⟨0, gx l c.A.toNat, gx l c.A.toNat⟩ s with r | r <;> exact r
    · rw [← e]
      rcases colorAt_mem ⟨0, gx l c.A.toNat, gx l c.A.toNat⟩ s with r | r <;> exact r
theorem turn_exchange {c : GCell} {l : List Int} (hc : CellOkM c = true) (hl : ListOkM l = true) : TurnCellM (ExchangeCellM c l) = ExchangeCellM (TurnCellM c) l := by
  obtain ⟨h1, h2, h3, h4, h5, h6, h7⟩ := cellOk_spec hc
  obtain ⟨g1, g2⟩ := listOk_spec hl
  obtain ⟨a0, a1⟩ := g2 _ (gx_mem (show c.A.toNat < l.length by omega))
  obtain ⟨b0, b1⟩ := g2 _ (gx_mem (show c.B.toNat < l.length by omega))
  have ht := turnCell_ok hc
  have hs : c.Split = 0 ∨ c.Split = 1 ∨ c.Split = 2 := by omega
  have hia : inR (gx l c.A.toNat) 0 5 = true := inR_iff.2 ⟨a0, a1⟩
  have hib : inR (gx l c.B.toNat) 0 5 = true := inR_iff.2 ⟨b0, b1⟩
  obtain ⟨cs, ca, cb⟩ := c
  simp only at h1 h2 h3 h4 h5 h6 h7 hs hia hib a0 a1 b0 b1
  rcases hs with rfl | rfl | rfl
  · have e := h7.1 rfl
    subst e
    have ew : CellOkM ⟨0, gx l ca.toNat, gx l ca.toNat⟩ = true := cellOk_of (by simp) (by simp) a0 a1 a0 a1 (by simp)
    have e1 : ExchangeCellM ⟨0, ca, ca⟩ l = ⟨0, gx l ca.toNat, gx l ca.toNat⟩ := by simp [ExchangeCellM, hc, hl, SplitCellM, WholeCellM, hia]
    have e2 : TurnCellM ⟨0, ca, ca⟩ = ⟨0, ca, ca⟩ := by simp [TurnCellM, hc]
    rw [e1, e2, e1]
    simp [TurnCellM, ew]
  · have e2 : TurnCellM ⟨1, ca, cb⟩ = ⟨2, cb, ca⟩ := by simp [TurnCellM, hc]
    rw [e2] at ht ⊢
    unfold ExchangeCellM SplitCellM
    rw [hc, ht, hl]
    simp only [Bool.and_self, cond_true]
    cases he : gx l ca.toNat == gx l cb.toNat
    · have hne : gx l ca.toNat ≠ gx l cb.toNat := by simpa using he
      have he' : (gx l cb.toNat == gx l ca.toNat) = false := by simpa using fun e => hne e.symm
      have o1 : CellOkM ⟨1, gx l ca.toNat, gx l cb.toNat⟩ = true := cellOk_of (by simp) (by simp) a0 a1 b0 b1 ⟨fun e => by simp at e, fun e => absurd e hne⟩
      have o2 : CellOkM ⟨2, gx l cb.toNat, gx l ca.toNat⟩ = true := cellOk_of (by simp) (by simp) b0 b1 a0 a1 ⟨fun e => by simp at e, fun e => absurd e.symm hne⟩
      rw [he', o1, o2]
      simp [TurnCellM, o1]
    · have e : gx l ca.toNat = gx l cb.toNat := by simpa using he
      have he' : (gx l cb.toNat == gx l ca.toNat) = true := by simp [e]
      rw [he']
      have ew : CellOkM ⟨0, gx l cb.toNat, gx l cb.toNat⟩ = true := cellOk_of (by simp) (by simp) b0 b1 b0 b1 (by simp)
      simp [WholeCellM, e, hib, TurnCellM, ew]
  · have e2 : TurnCellM ⟨2, ca, cb⟩ = ⟨1, ca, cb⟩ := by simp [TurnCellM, hc]
    rw [e2] at ht ⊢
    unfold ExchangeCellM SplitCellM
    rw [hc, ht, hl]
    simp only [Bool.and_self, cond_true]
    cases he : gx l ca.toNat == gx l cb.toNat
    · have hne : gx l ca.toNat ≠ gx l cb.toNat := by simpa using he
      have o1 : CellOkM ⟨2, gx l ca.toNat, gx l cb.toNat⟩ = true := cellOk_of (by simp) (by simp) a0 a1 b0 b1 ⟨fun e => by simp at e, fun e => absurd e hne⟩
      have o2 : CellOkM ⟨1, gx l ca.toNat, gx l cb.toNat⟩ = true := cellOk_of (by simp) (by simp) a0 a1 b0 b1 ⟨fun e => by simp at e, fun e => absurd e hne⟩
      rw [o1, o2]
      simp [TurnCellM, o1]
    · have e : gx l ca.toNat = gx l cb.toNat := by simpa using he
      have ew : CellOkM ⟨0, gx l cb.toNat, gx l cb.toNat⟩ = true := cellOk_of (by simp) (by simp) b0 b1 b0 b1 (by simp)
      simp [WholeCellM, e, hib, TurnCellM, ew]
theorem mirror_exchange {c : GCell} {l : List Int} (hc : CellOkM c = true) (hl : ListOkM l = true) : MirrorCellM (ExchangeCellM c l) = ExchangeCellM (MirrorCellM c) l := by
  obtain ⟨h1, h2, h3, h4, h5, h6, h7⟩ := cellOk_spec hc
  obtain ⟨g1, g2⟩ := listOk_spec hl
  obtain ⟨a0, a1⟩ := g2 _ (gx_mem (show c.A.toNat < l.length by omega))
  obtain ⟨b0, b1⟩ := g2 _ (gx_mem (show c.B.toNat < l.length by omega))
  have ht := mirrorCell_ok hc
  have hs : c.Split = 0 ∨ c.Split = 1 ∨ c.Split = 2 := by omega
  have hia : inR (gx l c.A.toNat) 0 5 = true := inR_iff.2 ⟨a0, a1⟩
  have hib : inR (gx l c.B.toNat) 0 5 = true := inR_iff.2 ⟨b0, b1⟩
  obtain ⟨cs, ca, cb⟩ := c
  simp only at h1 h2 h3 h4 h5 h6 h7 hs hia hib a0 a1 b0 b1
  rcases hs with rfl | rfl | rfl
  · have e := h7.1 rfl
    subst e
    have ew : CellOkM ⟨0, gx l ca.toNat, gx l ca.toNat⟩ = true := cellOk_of (by simp) (by simp) a0 a1 a0 a1 (by simp)
    have e1 : ExchangeCellM ⟨0, ca, ca⟩ l = ⟨0, gx l ca.toNat, gx l ca.toNat⟩ := by simp [ExchangeCellM, hc, hl, SplitCellM, WholeCellM, hia]
    have e2 : MirrorCellM ⟨0, ca, ca⟩ = ⟨0, ca, ca⟩ := by simp [MirrorCellM, hc]
    rw [e1, e2, e1]
    simp [MirrorCellM, ew]
  · have e2 : MirrorCellM ⟨1, ca, cb⟩ = ⟨2, cb, ca⟩ := by simp [MirrorCellM, hc]
    rw [e2] at ht ⊢
    unfold ExchangeCellM SplitCellM
    rw [hc, ht, hl]
    simp only [Bool.and_self, cond_true]
    cases he : gx l ca.toNat == gx l cb.toNat
    · have hne : gx l ca.toNat ≠ gx l cb.toNat := by simpa using he
      have he' : (gx l cb.toNat == gx l ca.toNat) = false := by simpa using fun e => hne e.symm
      have o1 : CellOkM ⟨1, gx l ca.toNat, gx l cb.toNat⟩ = true := cellOk_of (by simp) (by simp) a0 a1 b0 b1 ⟨fun e => by simp at e, fun e => absurd e hne⟩
      have o2 : CellOkM ⟨2, gx l cb.toNat, gx l ca.toNat⟩ = true := cellOk_of (by simp) (by simp) b0 b1 a0 a1 ⟨fun e => by simp at e, fun e => absurd e.symm hne⟩
      rw [he', o1, o2]
      simp [MirrorCellM, o1]
    · have e : gx l ca.toNat = gx l cb.toNat := by simpa using he
      have he' : (gx l cb.toNat == gx l ca.toNat) = true := by simp [e]
      rw [he']
      have ew : CellOkM ⟨0, gx l cb.toNat, gx l cb.toNat⟩ = true := cellOk_of (by simp) (by simp) b0 b1 b0 b1 (by simp)
      simp [WholeCellM, e, hib, MirrorCellM, ew]
  · have e2 : MirrorCellM ⟨2, ca, cb⟩ = ⟨1, cb, ca⟩ := by simp [MirrorCellM, hc]
    rw [e2] at ht ⊢
    unfold ExchangeCellM SplitCellM
    rw [hc, ht, hl]
    simp only [Bool.and_self, cond_true]
    cases he : gx l ca.toNat == gx l cb.toNat
    · have hne : gx l ca.toNat ≠ gx l cb.toNat := by simpa using he
      have he' : (gx l cb.toNat == gx l ca.toNat) = false := by simpa using fun e => hne e.symm
      have o1 : CellOkM ⟨2, gx l ca.toNat, gx l cb.toNat⟩ = true := cellOk_of (by simp) (by simp) a0 a1 b0 b1 ⟨fun e => by simp at e, fun e => absurd e hne⟩
      have o2 : CellOkM ⟨1, gx l cb.toNat, gx l ca.toNat⟩ = true := cellOk_of (by simp) (by simp) b0 b1 a0 a1 ⟨fun e => by simp at e, fun e => absurd e.symm hne⟩
      rw [he', o1, o2]
      simp [MirrorCellM, o1]
    · have e : gx l ca.toNat = gx l cb.toNat := by simpa using he
      have he' : (gx l cb.toNat == gx l ca.toNat) = true := by simp [e]
      rw [he']
      have ew : CellOkM ⟨0, gx l cb.toNat, gx l cb.toNat⟩ = true := cellOk_of (by simp) (by simp) b0 b1 b0 b1 (by simp)
      simp [WholeCellM, e, hib, MirrorCellM, ew]
theorem cellsM_map {α β : Type} (g : α → β) (h w : Nat) (F : Nat → Nat → α) : (cellsM h w F).map g = cellsM h w fun y x => g (F y x) := by
  simp [cellsM, List.map_flatMap]
  rfl
theorem cellsM_congr {α : Type} {h w : Nat} {F G : Nat → Nat → α} (H : ∀ y x, y < h → x < w → F y x = G y x) : cellsM h w F = cellsM h w G := by
  induction h with
  | zero => rfl
  | succ h ih =>
    rw [cellsM_succ, cellsM_succ, ih fun y x hy hx => H y x (by omega) hx]
    congr 1
    exact List.map_congr_left fun x hx => H h x (by omega) (by simpa using hx)
def exB (l : List Int) (b : GBlock) : GBlock := ⟨b.Size, b.Cells.map fun c => ExchangeCellM c l⟩
theorem exB_ok {b : GBlock} (h : BlockOkM b = true) (l : List Int) : BlockOkM (exB l b) = true := by
  obtain ⟨n, hn, h1, h2, hl, hcs⟩ := blockOk_spec h
  unfold exB
  rw [hn]
  exact blockOk_of h1 h2 (by simpa using hl) (fun c hm => by
    simp only [List.mem_map] at hm
    obtain ⟨d, _, rfl⟩ := hm
    exact exchangeCell_ok d l)
theorem exB_eq {b : GBlock} (h : BlockOkM b = true) {l : List Int} (hl : ListOkM l = true) : ExchangeM b l = (exB l b, true) := by simp [ExchangeM, h, hl, exB]
theorem turnB_exchange {b : GBlock} (h : BlockOkM b = true) {l : List Int} (hl : ListOkM l = true) : TurnBlockM (exB l b) = exB l (TurnBlockM b) := by
  obtain ⟨n, hn, h1, h2, hlen, hcs⟩ := blockOk_spec h
  have ho := exB_ok h l
  unfold TurnBlockM
  rw [ho, h]
  unfold exB
  simp only [cond_true, hn, Int.toNat_natCast]
  rw [cellsM_map]
  congr 1
  refine cellsM_congr fun y x hy hx => ?_
  have hi : (n - 1 - x) * n + y < b.Cells.length := by rw [hlen]; exact idx_lt (by omega) hy
  rw [gx_map _ hi, turn_exchange (hcs _ (gx_mem hi)) hl]
theorem mirrorB_exchange {b : GBlock} (h : BlockOkM b = true) {l : List Int} (hl : ListOkM l = true) : MirrorBlockM (exB l b) = exB l (MirrorBlockM b) := by
  obtain ⟨n, hn, h1, h2, hlen, hcs⟩ := blockOk_spec h
  have ho := exB_ok h l
  unfold MirrorBlockM
  rw [ho, h]
  unfold exB
  simp only [cond_true, hn, Int.toNat_natCast]
  rw [cellsM_map]
  congr 1
  refine cellsM_congr fun y x hy hx => ?_
  have hi : y * n + (n - 1 - x) < b.Cells.length := by rw [hlen]; exact idx_lt hy (by omega)
  rw [gx_map _ hi, mirror_exchange (hcs _ (gx_mem hi)) hl]
theorem seen_exchange {b : GBlock} (h : BlockOkM b = true) {l : List Int} (hl : ListOkM l = true) {k : Nat} (hk : k < 8) : SeenM (exB l b) (k : Int) = exB l (SeenM b (k : Int)) := by
  have turns : ∀ (b0 : GBlock), BlockOkM b0 = true → ∀ j, turnsM j (exB l b0) = exB l (turnsM j b0) := fun b0 h0 j => by
    induction j with
    | zero => rfl
    | succ j ih => rw [turnsM, ih, turnB_exchange (turns_ok h0 j).1 hl]; rfl
  have hi : inR (k : Int) 0 7 = true := inR_iff.2 ⟨by omega, by omega⟩
  unfold SeenM
  rw [h, exB_ok h l, hi]
  cases decide ((k : Int) ≥ 4)
  · exact turns b h _
  · simp only [Bool.and_self, cond_true]
    rw [mirrorB_exchange h hl, turns _ (mirrorBlock_ok h)]
/-- The colors of a view are the block's. -/
theorem seen_colors {b : GBlock} (h : BlockOkM b = true) {k : Nat} (hk : k < 8) {i : Nat} (hi : i < (SeenM b (k : Int)).Cells.length) (s : Nat) : ColorAtM (gx (SeenM b (k : Int)).Cells i) s ∈ colsM b := by
  have hi7 : inR (k : Int) 0 7 = true := inR_iff.2 ⟨by omega, by omega⟩
  have hv := (seen_ok h hi7).1
  obtain ⟨_, _, _, _, _, hcs⟩ := blockOk_spec hv
  have hm := gx_mem hi
  refine mem_cols.2 ⟨colorAt_in (hcs _ hm) s, ?_⟩
  rw [← area_pos h, ← area_seen _ h hi7, area_pos hv]
  unfold usedM
  rw [List.any_eq_true]
  refine ⟨_, hm, ?_⟩
  rcases colorAt_mem (gx (SeenM b (k : Int)).Cells i) s with e | e <;> rw [e] <;> simp

def cnt1 (u v c d : Int) : Int := bif c == u && d == v then 1 else 0
def sumP (ps : List (Int × Int)) (f : Int → Int → Int) : Int := isum (ps.map fun p => f p.1 p.2)
theorem sumP_cons (p : Int × Int) (ps : List (Int × Int)) (f : Int → Int → Int) : sumP (p :: ps) f = f p.1 p.2 + sumP ps f := rfl
theorem pick_none (c d : Int) : ∀ {ps : List (Int × Int)}, (∀ p ∈ ps, p.1 ≠ c) → sumP ps (fun u v => cnt1 u v c d) = 0
  | [], _ => rfl
  | p :: ps, h => by
    have hp := h p (by simp)
    have hb : (c == p.1) = false := by simpa using fun e : c = p.1 => hp e.symm
    rw [sumP_cons, pick_none c d fun q hq => h q (by simp [hq])]
    simp [cnt1, hb]
theorem pick_one {g : Int → Int} {c d : Int} : ∀ {ps : List (Int × Int)}, (ps.map Prod.fst).Nodup → c ∈ ps.map Prod.fst → (∀ p ∈ ps, g p.1 = p.2) → sumP ps (fun u v => cnt1 u v c d) = bif d == g c then 1 else 0
  | [], _, hm, _ => by simp at hm
  | p :: ps, hn, hm, hg => by
    rw [List.map_cons, List.nodup_cons] at hn
    rw [sumP_cons]
    have hgp := hg p (by simp)
    by_cases e : c = p.1
    · have hz : ∀ q ∈ ps, q.1 ≠ c := fun q hq h => hn.1 (by rw [← e, ← h]; exact List.mem_map_of_mem hq)
      rw [pick_none c d hz, e, hgp]
      simp [cnt1]
    · have hm' : c ∈ ps.map Prod.fst := by
        rw [List.map_cons, List.mem_cons] at hm
        rcases hm with h | h
        · exact absurd h e
        · exact h
      have hb : (c == p.1) = false := by simpa using e
      rw [pick_one hn.2 hm' fun q hq => hg q (by simp [hq])]
      simp [cnt1, hb]
theorem sumP_swap (m : Nat) (f : Nat → Int → Int → Int) : ∀ ps : List (Int × Int), sumP ps (fun u v => sumN m fun i => f i u v) = sumN m fun i => sumP ps (f i)
  | [] => by
    have : sumN m (fun i => sumP [] (f i)) = sumN m fun _ => 0 := sumN_congr fun _ _ => rfl
    rw [this, sumN_nil]; rfl
  | p :: ps => by
    rw [sumP_cons, sumP_swap m f ps, ← sumN_add]
    rfl
/-- At how many sides the one block has the color v and the other one u. -/
def TM (b d : GBlock) (u v : Int) : Int := sumN b.Cells.length fun i => sumN 4 fun s => cnt1 u v (ColorAtM (gx d.Cells i) s) (ColorAtM (gx b.Cells i) s)
theorem like_exchange {b d : GBlock} (h : pairM b d = true) {l : List Int} (hl : ListOkM l = true) {ps : List (Int × Int)} (hn : (ps.map Prod.fst).Nodup) (hc : ∀ i, i < d.Cells.length → ∀ s, ColorAtM (gx d.Cells i) s ∈ ps.map Prod.fst) (hg : ∀ p ∈ ps, gx l p.1.toNat = p.2) : LikeM b (exB l d) = sumP ps (TM b d) := by
  obtain ⟨h1, h2, h3, h4⟩ := pair_len h
  obtain ⟨_, _, _, _, _, c2⟩ := blockOk_spec h2
  have e : sumP ps (TM b d) = sumN b.Cells.length fun i => sumN 4 fun s => sumP ps fun u v => cnt1 u v (ColorAtM (gx d.Cells i) s) (ColorAtM (gx b.Cells i) s) := by
    unfold TM
    rw [sumP_swap]
    refine sumN_congr fun i _ => ?_
    rw [sumP_swap]
  rw [e]
  unfold LikeM
  refine sumN_congr fun i hi => ?_
  unfold cellLikeM
  refine sumN_congr fun s hs => ?_
  have hx : gx (exB l d).Cells i = ExchangeCellM (gx d.Cells i) l := gx_map _ (by omega)
  rw [hx, colorAt_exchange (c2 _ (gx_mem (by omega))) hl, pick_one (g := fun x => gx l x.toNat) hn (hc i (by omega) s) hg]

def maskM : List Nat → Int
  | [] => 0
  | a :: r => orI (maskM r) (shlI 1 (a : Int))
theorem mask0 : ∀ k : Nat, k < 6 → (andI (shrI 0 (k : Int)) 1 == 0) = true := by decide +kernel
theorem mask1 : ∀ a : Nat, a < 6 → ∀ k : Nat, k < 6 → (andI (shrI (orI 0 (shlI 1 (a : Int))) (k : Int)) 1 == 0) = !(k == a) := by decide +kernel
theorem mask2 : ∀ a : Nat, a < 6 → ∀ b : Nat, b < 6 → ∀ k : Nat, k < 6 → (andI (shrI (orI (orI 0 (shlI 1 (b : Int))) (shlI 1 (a : Int))) (k : Int)) 1 == 0) = !(k == a || k == b) := by decide +kernel
theorem mask_free {used : List Nat} (hl : used.length ≤ 2) (hu : ∀ a ∈ used, a < 6) {k : Nat} (hk : k < 6) : (andI (shrI (maskM used) (k : Int)) 1 == 0) = !(used.contains k) := by
  match used, hl, hu with
  | [], _, _ => exact mask0 k hk
  | [a], _, hu => rw [show maskM [a] = orI 0 (shlI 1 (a : Int)) from rfl, mask1 a (hu a (by simp)) k hk, Bool.eq_iff_iff]; simp
  | [a, b], _, hu => rw [show maskM [a, b] = orI (orI 0 (shlI 1 (b : Int))) (shlI 1 (a : Int)) from rfl, mask2 a (hu a (by simp)) b (hu b (by simp)) k hk, Bool.eq_iff_iff]; simp
  | a :: b :: c :: r, hl, _ => simp at hl
/-- The greatest of what p allows. -/
def mxc : Nat → (Nat → Bool) → (Nat → Int) → Int
  | 0, _, _ => 0
  | n + 1, p, g => bif p n then (if g n > mxc n p g then g n else mxc n p g) else mxc n p g
theorem mxc_nonneg : ∀ n p g, 0 ≤ mxc n p g
  | 0, _, _ => Int.le_refl _
  | n + 1, p, g => by
    have := mxc_nonneg n p g
    unfold mxc
    cases p n
    · exact this
    · simp only [cond_true]; split <;> omega
theorem mxc_le {p : Nat → Bool} {g : Nat → Int} : ∀ {n k : Nat}, k < n → p k = true → g k ≤ mxc n p g
  | n + 1, k, h, hp => by
    unfold mxc
    rcases Nat.lt_or_ge k n with hlt | hge
    · have := mxc_le (g := g) hlt hp
      cases p n
      · exact this
      · simp only [cond_true]; split <;> omega
    · have e : k = n := by omega
      subst e
      rw [hp]
      simp only [cond_true]; split <;> omega
theorem mxc_att {p : Nat → Bool} {g : Nat → Int} : ∀ n, mxc n p g = 0 ∨ ∃ k, k < n ∧ p k = true ∧ mxc n p g = g k
  | 0 => .inl rfl
  | n + 1 => by
    have ih := mxc_att (p := p) (g := g) n
    unfold mxc
    cases hp : p n
    · simp only [cond_false]
      rcases ih with h | ⟨k, h1, h2, h3⟩
      · exact .inl h
      · exact .inr ⟨k, by omega, h2, h3⟩
    · simp only [cond_true]
      split
      · exact .inr ⟨n, by omega, hp, rfl⟩
      · rcases ih with h | ⟨k, h1, h2, h3⟩
        · exact .inl h
        · exact .inr ⟨k, by omega, h2, h3⟩
theorem mxc_congr {p q : Nat → Bool} {g h : Nat → Int} : ∀ {n : Nat}, (∀ k, k < n → p k = q k) → (∀ k, k < n → g k = h k) → mxc n p g = mxc n q h
  | 0, _, _ => rfl
  | n + 1, H, K => by
    unfold mxc
    rw [mxc_congr (n := n) (fun k hk => H k (by omega)) (fun k hk => K k (by omega)), H n (by omega), K n (by omega)]
def bestM (T : Int → Int → Int) : List Int → List Nat → Int
  | [], _ => 0
  | u :: r, used => mxc 6 (fun a => !used.contains a) fun a => T u (a : Int) + bestM T r (a :: used)
theorem best_bound {T : Int → Int → Int} (hT : ∀ u v, 0 ≤ T u v ∧ T u v ≤ 64) : ∀ (L : List Int) (used : List Nat), 0 ≤ bestM T L used ∧ bestM T L used ≤ 64 * L.length
  | [], _ => by simp [bestM]
  | u :: r, used => by
    unfold bestM
    refine ⟨mxc_nonneg _ _ _, ?_⟩
    rcases mxc_att (p := fun a => !used.contains a) (g := fun a => T u (a : Int) + bestM T r (a :: used)) 6 with h | ⟨k, h1, h2, h3⟩
    · rw [h]; omega
    · rw [h3]
      have := best_bound hT r (k :: used)
      have := hT u (k : Int)
      simp only [List.length_cons]; omega
theorem best_ge {T : Int → Int → Int} : ∀ (L : List Int) (used : List Nat) (p : List Int), p.length = L.length → (∀ x ∈ p, 0 ≤ x ∧ x ≤ 5) → p.Nodup → (∀ x ∈ p, ¬ x.toNat ∈ used) → sumP (L.zip p) T ≤ bestM T L used
  | [], used, p, _, _, _, _ => by simp [sumP, isum, bestM]
  | u :: r, used, [], hl, _, _, _ => by simp at hl
  | u :: r, used, v :: p, hl, hr, hn, hu => by
    rw [List.nodup_cons] at hn
    obtain ⟨v0, v1⟩ := hr v (by simp)
    have ih := best_ge (T := T) r (v.toNat :: used) p (by simpa using hl) (fun x hx => hr x (by simp [hx])) hn.2 (fun x hx => by
      have := hr x (by simp [hx])
      simp only [List.mem_cons, not_or]
      refine ⟨fun e => hn.1 ?_, hu x (by simp [hx])⟩
      have : x = v := by omega
      rw [← this]; exact hx)
    have hm := mxc_le (p := fun a => !used.contains a) (g := fun a => T u (a : Int) + bestM T r (a :: used)) (n := 6) (k := v.toNat) (by omega) (by
      have := hu v (by simp)
      simpa using this)
    have ev : ((v.toNat : Nat) : Int) = v := by omega
    simp only [ev] at hm
    rw [List.zip_cons_cons, sumP_cons]
    unfold bestM
    simp only
    omega
theorem free_color {used : List Nat} (hl : used.length ≤ 2) : ∃ a, a < 6 ∧ ¬ a ∈ used := by
  match used, hl with
  | [], _ => exact ⟨0, by omega, by simp⟩
  | [x], _ =>
    by_cases h : x = 0
    · exact ⟨1, by omega, by simp; omega⟩
    · exact ⟨0, by omega, by simp; omega⟩
  | [x, y], _ =>
    by_cases h0 : x = 0 ∨ y = 0
    · by_cases h1 : x = 1 ∨ y = 1
      · exact ⟨2, by omega, by simp; omega⟩
      · exact ⟨1, by omega, by simp; omega⟩
    · exact ⟨0, by omega, by simp; omega⟩
  | a :: b :: c :: r, hl => simp at hl
theorem best_att {T : Int → Int → Int} (hT : ∀ u v, 0 ≤ T u v) : ∀ (L : List Int) (used : List Nat), used.length + L.length ≤ 3 → ∃ p : List Int, p.length = L.length ∧ (∀ x ∈ p, 0 ≤ x ∧ x ≤ 5) ∧ p.Nodup ∧ (∀ x ∈ p, ¬ x.toNat ∈ used) ∧ bestM T L used ≤ sumP (L.zip p) T
  | [], used, _ => ⟨[], rfl, by simp, by simp, by simp, by simp [sumP, isum, bestM]⟩
  | u :: r, used, hl => by
    have step : ∀ a, a < 6 → ¬ a ∈ used → ∃ p : List Int, p.length = (u :: r).length ∧ (∀ x ∈ p, 0 ≤ x ∧ x ≤ 5) ∧ p.Nodup ∧ (∀ x ∈ p, ¬ x.toNat ∈ used) ∧ T u (a : Int) + bestM T r (a :: used) ≤ sumP ((u :: r).zip p) T := fun a ha hna => by
      obtain ⟨p, p1, p2, p3, p4, p5⟩ := best_att hT r (a :: used) (by simp at hl ⊢; omega)
      refine ⟨(a : Int) :: p, by simp [p1], ?_, ?_, ?_, ?_⟩
      · intro x hx
        simp only [List.mem_cons] at hx
        rcases hx with rfl | hx
        · omega
        · exact p2 x hx
      · rw [List.nodup_cons]
        exact ⟨fun hm => p4 _ hm (by simp), p3⟩
      · intro x hx
        simp only [List.mem_cons] at hx
        rcases hx with rfl | hx
        · simpa using hna
        · exact fun h => p4 x hx (by simp [h])
      · rw [List.zip_cons_cons, sumP_cons]
        simp only; omega
    unfold bestM
    rcases mxc_att (p := fun a => !used.contains a) (g := fun a => T u (a : Int) + bestM T r (a :: used)) 6 with h | ⟨k, h1, h2, h3⟩
    · obtain ⟨a, ha, hna⟩ := free_color (used := used) (by simp at hl; omega)
      obtain ⟨p, p1, p2, p3, p4, p5⟩ := step a ha hna
      refine ⟨p, p1, p2, p3, p4, ?_⟩
      rw [h]
      have hs : 0 ≤ sumP ((u :: r).zip p) T := isum_nonneg fun q _ => hT q.1 q.2
      exact hs
    · obtain ⟨p, p1, p2, p3, p4, p5⟩ := step k h1 (by simpa using h2)
      exact ⟨p, p1, p2, p3, p4, by rw [h3]; exact p5⟩

theorem rng_set {α : Type} [Rep α] {m : Nat} (G : Nat → α) (u : Nat) (y : α) : ((List.range m).map G).set u y = (List.range m).map fun i => bif i == u then y else G i := by
  apply gx_ext
  · simp
  · intro k hk
    have hk' : k < m := by simpa using hk
    rw [gx_range _ hk']
    by_cases e : k = u
    · subst e
      rw [gx_set (by simpa using hk')]; simp
    · rw [gx_set_ne e, gx_range _ hk', beq_eq_false_iff_ne.2 e, cond_false]
def tab66 (f : Nat → Nat → Int) : List (List Int) := (List.range 6).map fun u => tab6 (f u)
theorem tab66_len (f : Nat → Nat → Int) : (tab66 f).length = 6 := by simp [tab66]
theorem tab66_gx (f : Nat → Nat → Int) {u : Nat} (hu : u < 6) : gx (tab66 f) u = tab6 (f u) := gx_range _ hu
theorem tab66_congr {f g : Nat → Nat → Int} (h : ∀ u v, u < 6 → v < 6 → f u v = g u v) : tab66 f = tab66 g := List.map_congr_left fun u hu => tab6_congr fun v hv => h u v (by simpa using hu) hv
theorem tab66_set (f : Nat → Nat → Int) {u : Nat} (hu : u < 6) (v : Nat) (x : Int) : (tab66 f).set u ((gx (tab66 f) u).set v x) = tab66 fun i j => bif i == u && j == v then x else f i j := by
  rw [tab66_gx _ hu, tab6_set]
  unfold tab66
  rw [rng_set]
  refine List.map_congr_left fun i _ => ?_
  cases h : i == u
  · simp only [cond_false, h, Bool.false_and]
  · have e : i = u := by simpa using h
    subst e
    simp
theorem cnt1_bound (u v c d : Int) : 0 ≤ cnt1 u v c d ∧ cnt1 u v c d ≤ 1 := by unfold cnt1; cases c == u && d == v <;> simp
theorem TM_bound {b d : GBlock} (hl : b.Cells.length ≤ 16) (u v : Int) : 0 ≤ TM b d u v ∧ TM b d u v ≤ 64 := by
  have := sumN_bound (m := b.Cells.length) (F := fun i => sumN 4 fun s => cnt1 u v (ColorAtM (gx d.Cells i) s) (ColorAtM (gx b.Cells i) s)) (B := 4) fun i _ => by
    have := sumN_bound (m := 4) (F := fun s => cnt1 u v (ColorAtM (gx d.Cells i) s) (ColorAtM (gx b.Cells i) s)) (B := 1) fun s _ => cnt1_bound _ _ _ _
    omega
  unfold TM; omega

theorem spec_l29Table_ok {b d : GBlock} (h : pairM b d = true) : spec_l29Table b d = some (tab66 fun u v => TM b d (u : Int) (v : Int)) := by
  obtain ⟨h1, h2, h3, h4⟩ := pair_len h
  obtain ⟨_, _, _, _, _, c1⟩ := blockOk_spec h1
  obtain ⟨_, _, _, _, _, c2⟩ := blockOk_spec h2
  have h0 : lpO spec_l29Table_L1 6 [] = some (tab66 fun _ _ => 0) := by rfl
  unfold spec_l29Table
  rw [h0]
  simp only [Option.bind_some]
  rw [gd_pos (by omega), lpO_st (f := spec_l29Table_L2 b d) (s0 := tab66 fun _ _ => 0) (fun k => tab66 fun u v => sumN k fun i => sumN 4 fun s => cnt1 u v (ColorAtM (gx d.Cells i) s) (ColorAtM (gx b.Cells i) s)) rfl (fun k hk => by
    have hb : ∀ u v : Int, 0 ≤ sumN k (fun i => sumN 4 fun s => cnt1 u v (ColorAtM (gx d.Cells i) s) (ColorAtM (gx b.Cells i) s)) ∧ sumN k (fun i => sumN 4 fun s => cnt1 u v (ColorAtM (gx d.Cells i) s) (ColorAtM (gx b.Cells i) s)) ≤ 64 := fun u v => by
      have := sumN_bound (m := k) (F := fun i => sumN 4 fun s => cnt1 u v (ColorAtM (gx d.Cells i) s) (ColorAtM (gx b.Cells i) s)) (B := 4) fun i _ => by
        have := sumN_bound (m := 4) (F := fun s => cnt1 u v (ColorAtM (gx d.Cells i) s) (ColorAtM (gx b.Cells i) s)) (B := 1) fun s _ => cnt1_bound _ _ _ _
        omega
      omega
    have ok1 := c1 _ (gx_mem hk)
    have ok2 := c2 _ (gx_mem (show k < d.Cells.length by omega))
    unfold spec_l29Table_L2
    rw [lpO_st (f := spec_l29Table_L3 b d k) (s0 := tab66 fun u v => sumN k fun i => sumN 4 fun s => cnt1 u v (ColorAtM (gx d.Cells i) s) (ColorAtM (gx b.Cells i) s)) (fun j => tab66 fun u v => sumN k (fun i => sumN 4 fun s => cnt1 u v (ColorAtM (gx d.Cells i) s) (ColorAtM (gx b.Cells i) s)) + sumN j fun s => cnt1 u v (ColorAtM (gx d.Cells k) s) (ColorAtM (gx b.Cells k) s)) (by simp [sumN_zero]) (fun j hj => by
      obtain ⟨x0, x1⟩ := colorAt_in ok2 j
      obtain ⟨y0, y1⟩ := colorAt_in ok1 j
      have hx6 : (ColorAtM (gx d.Cells k) j).toNat < 6 := by omega
      have hy6 : (ColorAtM (gx b.Cells k) j).toNat < 6 := by omega
      unfold spec_l29Table_L3
      rw [gd_pos (by omega), spec_ColorAt_ok ok2 hj, spec_ColorAt_ok ok1 hj]
      simp only [Option.bind_some]
      rw [gd_pos ⟨x0, by rw [tab66_len]; omega⟩, gd_pos ⟨y0, by rw [tab66_gx _ hx6, tab6_len]; omega⟩]
      congr 2
      rw [tab66_set _ hx6, tab66_gx _ hx6, tab6_gx _ hy6]
      refine tab66_congr fun u v hu hv => ?_
      rw [sumN_succ]
      have hb2 := hb (u : Int) (v : Int)
      have hb3 := sumN_bound (m := j) (F := fun s => cnt1 u v (ColorAtM (gx d.Cells k) s) (ColorAtM (gx b.Cells k) s)) (B := 1) fun s _ => cnt1_bound _ _ _ _
      unfold cnt1 at hb2 hb3 ⊢
      cases hq : (u == (ColorAtM (gx d.Cells k) j).toNat && v == (ColorAtM (gx b.Cells k) j).toNat)
      · have : (ColorAtM (gx d.Cells k) j == (u : Int) && ColorAtM (gx b.Cells k) j == (v : Int)) = false := by
          rw [← nat_toNat_beq x0 u, ← nat_toNat_beq y0 v]; exact hq
        rw [this]
        simp only [cond_false]; omega
      · have : (ColorAtM (gx d.Cells k) j == (u : Int) && ColorAtM (gx b.Cells k) j == (v : Int)) = true := by
          rw [← nat_toNat_beq x0 u, ← nat_toNat_beq y0 v]; exact hq
        simp only [Bool.and_eq_true, beq_iff_eq] at hq
        obtain ⟨q1, q2⟩ := hq
        rw [this, ← q1, ← q2]
        simp only [cond_true]
        rw [wr_of (by omega) (by omega)]; omega)]
    simp only [Option.bind_some, sumN_succ])]
  rfl

theorem lpO_mxc {f : Nat → Int → Option (Res Int Empty)} {N : Nat} (p : Nat → Bool) (g : Nat → Int) (h : ∀ k s, k < N → f k s = some (.next (bif p k then (if g k > s then g k else s) else s))) : lpO f N 0 = some (mxc N p g) :=
  lpO_st (fun k => mxc k p g) rfl fun k hk => by rw [h k _ hk]; rfl

theorem spec_l29Best_ok {T : Int → Int → Int} (hT : ∀ u v, 0 ≤ T u v ∧ T u v ≤ 64) {L : List Int} (hL : L.length ≤ 3) (hin : ∀ u ∈ L, 0 ≤ u ∧ u ≤ 5) : ∀ (m j : Nat) (used : List Nat), j + m = L.length → used.length = j → (∀ a ∈ used, a < 6) →
    spec_l29Best (m + 1) (tab66 fun u v => T (u : Int) (v : Int)) L (j : Int) (maskM used) = some (bestM T (L.drop j) used)
  | 0, j, used, hj, hu, hu6 => by
    have e : ((j : Int) == (L.length : Int)) = true := by simp; omega
    unfold spec_l29Best
    rw [e, List.drop_eq_nil_of_le (by omega)]
    rfl
  | m + 1, j, used, hj, hu, hu6 => by
    have hjl : j < L.length := by omega
    have e : ((j : Int) == (L.length : Int)) = false := by rw [beq_eq_false_iff_ne]; omega
    obtain ⟨u0, u1⟩ := hin _ (gx_mem hjl)
    have hu6' : (gx L j).toNat < 6 := by omega
    have ecast : (((gx L j).toNat : Nat) : Int) = gx L j := by omega
    unfold spec_l29Best
    rw [e, List.drop_eq_getElem_cons hjl, ← gx_lt hjl]
    simp only [cond_false]
    rw [lpO_mxc (f := spec_l29Best_L1 (spec_l29Best (m + 1)) (tab66 fun u v => T (u : Int) (v : Int)) L (j : Int) (maskM used)) (fun a => !used.contains a) (fun a => T (gx L j) (a : Int) + bestM T (L.drop (j + 1)) (a :: used)) (fun k s hk => by
      have hbb := best_bound hT (L.drop (j + 1)) (k :: used)
      have hdl : (L.drop (j + 1)).length ≤ 3 := by simp; omega
      have ht := hT (gx L j) (k : Int)
      have ej : wr ((j : Int) + 1) = ((j + 1 : Nat) : Int) := by rw [wr_of (by omega) (by omega)]; simp
      have hr := spec_l29Best_ok hT hL hin m (j + 1) (k :: used) (by omega) (by simp [hu]) (fun a ha => by
        simp only [List.mem_cons] at ha
        rcases ha with rfl | ha
        · exact hk
        · exact hu6 a ha)
      have hmask : maskM (k :: used) = orI (maskM used) (shlI 1 (k : Int)) := rfl
      unfold spec_l29Best_L1
      rw [gd_pos (by omega), mask_free (by omega) hu6 hk]
      cases hc : used.contains k
      · simp only [Bool.not_false, cond_true, Int.toNat_natCast]
        rw [gd_pos ⟨by omega, by omega⟩, gd_pos ⟨u0, by rw [tab66_len]; omega⟩, gd_pos (by rw [tab66_gx _ hu6', tab6_len]; exact hk), ej, ← hmask, hr]
        simp only [Option.bind_some]
        rw [tab66_gx _ hu6', tab6_gx _ hk, ecast, wr_of (by omega) (by omega)]
      · simp only [Bool.not_true, cond_false, Option.bind_some])]
    rfl

/-- The colors that an index picks. -/
def pkM : List Nat → Nat → List Int → List Int
  | [], _, _ => []
  | r :: rs, i, left => gx left (i / r) :: pkM rs (i % r) (left.take (i / r) ++ left.drop (i / r + 1))
theorem pk1_ok : ∀ i, i < 6 → (pkM [1] i six).Nodup ∧ ∀ x ∈ pkM [1] i six, 0 ≤ x ∧ x ≤ 5 := by decide +kernel
theorem pk2_ok : ∀ i, i < 30 → (pkM [5, 1] i six).Nodup ∧ ∀ x ∈ pkM [5, 1] i six, 0 ≤ x ∧ x ≤ 5 := by decide +kernel
theorem pk3_ok : ∀ i, i < 120 → (pkM [20, 4, 1] i six).Nodup ∧ ∀ x ∈ pkM [20, 4, 1] i six, 0 ≤ x ∧ x ≤ 5 := by decide +kernel
def inv2 (a b : Nat) : Nat := 5 * a + (b - bif decide (a < b) then 1 else 0)
def inv3 (a b c : Nat) : Nat := 20 * a + 4 * (b - bif decide (a < b) then 1 else 0) + (c - (bif decide (a < c) then 1 else 0) - (bif decide (b < c) then 1 else 0))
theorem pk1_inv : ∀ a, a < 6 → pkM [1] a six = [(a : Int)] := by decide +kernel
theorem pk2_inv : ∀ a, a < 6 → ∀ b, b < 6 → a ≠ b → inv2 a b < 30 ∧ pkM [5, 1] (inv2 a b) six = [(a : Int), (b : Int)] := by decide +kernel
def chk3 : Bool := (List.range 6).all fun a => (List.range 6).all fun b => (List.range 6).all fun c => (a == b || a == c || b == c) || (decide (inv3 a b c < 120) && (pkM [20, 4, 1] (inv3 a b c) six == [(a : Int), (b : Int), (c : Int)]))
theorem chk3_ok : chk3 = true := by decide +kernel
theorem pk3_inv (a : Nat) (ha : a < 6) (b : Nat) (hb : b < 6) (c : Nat) (hc : c < 6) (hab : a ≠ b) (hac : a ≠ c) (hbc : b ≠ c) : inv3 a b c < 120 ∧ pkM [20, 4, 1] (inv3 a b c) six = [(a : Int), (b : Int), (c : Int)] := by
  have h := chk3_ok
  unfold chk3 at h
  rw [List.all_eq_true] at h
  have h := h a (by simpa using ha)
  rw [List.all_eq_true] at h
  have h := h b (by simpa using hb)
  rw [List.all_eq_true] at h
  have h := h c (by simpa using hc)
  have e1 : (a == b) = false := by simpa using hab
  have e2 : (a == c) = false := by simpa using hac
  have e3 : (b == c) = false := by simpa using hbc
  rw [e1, e2, e3] at h
  simp only [Bool.or_self, Bool.false_or, Bool.and_eq_true, decide_eq_true_iff, beq_iff_eq] at h
  exact h
def asgM : List Int → List Int → List Int → List Int
  | u :: L, v :: p, acc => asgM L p (acc.set u.toNat v)
  | _, _, acc => acc
theorem asg_len : ∀ (L p acc : List Int), (asgM L p acc).length = acc.length
  | [], _, _ => by simp [asgM]
  | _ :: _, [], _ => by simp [asgM]
  | u :: L, v :: p, acc => by rw [asgM, asg_len L p]; simp
theorem asg_other : ∀ (L p acc : List Int) {x : Nat}, (∀ u ∈ L, u.toNat ≠ x) → gx (asgM L p acc) x = gx acc x
  | [], _, _, _, _ => by simp [asgM]
  | _ :: _, [], _, _, _ => by simp [asgM]
  | u :: L, v :: p, acc, x, h => by
    rw [asgM, asg_other L p _ fun w hw => h w (by simp [hw]), gx_set_ne (Ne.symm (h u (by simp)))]
theorem asg_gx : ∀ (L p acc : List Int), acc.length = 6 → L.Nodup → (∀ u ∈ L, 0 ≤ u ∧ u ≤ 5) → ∀ q ∈ L.zip p, gx (asgM L p acc) q.1.toNat = q.2
  | [], _, _, _, _, _, q, hq => by simp at hq
  | _ :: _, [], _, _, _, _, q, hq => by simp at hq
  | u :: L, v :: p, acc, hl, hn, hr, q, hq => by
    rw [List.nodup_cons] at hn
    rw [List.zip_cons_cons, List.mem_cons] at hq
    have hu := hr u (by simp)
    rw [asgM]
    rcases hq with rfl | hq
    · rw [asg_other L p _ fun w hw e => hn.1 (by
        have := hr w (by simp [hw])
        have : w = u := by simp only at e; omega
        rw [← this]; exact hw), gx_set (by rw [hl]; omega)]
    · exact asg_gx L p _ (by simpa using hl) hn.2 (fun w hw => hr w (by simp [hw])) q hq
theorem asg_in : ∀ (L p acc : List Int), (∀ x ∈ acc, 0 ≤ x ∧ x ≤ 5) → (∀ x ∈ p, 0 ≤ x ∧ x ≤ 5) → ∀ x ∈ asgM L p acc, 0 ≤ x ∧ x ≤ 5
  | [], _, _, h, _, x, hx => h x (by simpa [asgM] using hx)
  | _ :: _, [], _, h, _, x, hx => h x (by simpa [asgM] using hx)
  | u :: L, v :: p, acc, h, hp, x, hx => by
    rw [asgM] at hx
    refine asg_in L p _ (fun y hy => ?_) (fun y hy => hp y (by simp [hy])) x hx
    rcases List.mem_or_eq_of_mem_set hy with hm | rfl
    · exact h y hm
    · exact hp _ (by simp)
def zeros6 : List Int := List.replicate 6 0
def wayM (L p : List Int) : List Int := asgM L p zeros6
theorem way_ok {L p : List Int} (hp : ∀ x ∈ p, 0 ≤ x ∧ x ≤ 5) : ListOkM (wayM L p) = true :=
  listOk_of (by unfold wayM; rw [asg_len]; rfl) (asg_in L p _ (by intro x hx; simp [zeros6] at hx; omega) hp)
def ratesM : Nat → List Nat
  | 1 => [1]
  | 2 => [5, 1]
  | 3 => [20, 4, 1]
  | _ => []
def chsM : Nat → Nat
  | 1 => 6
  | 2 => 30
  | 3 => 120
  | _ => 1
theorem pk_ok {n i : Nat} (h1 : 1 ≤ n) (h3 : n ≤ 3) (hi : i < chsM n) : (pkM (ratesM n) i six).length = n ∧ (pkM (ratesM n) i six).Nodup ∧ ∀ x ∈ pkM (ratesM n) i six, 0 ≤ x ∧ x ≤ 5 := by
  have hn : n = 1 ∨ n = 2 ∨ n = 3 := by omega
  rcases hn with rfl | rfl | rfl
  · exact ⟨rfl, pk1_ok i hi⟩
  · exact ⟨rfl, pk2_ok i hi⟩
  · exact ⟨rfl, pk3_ok i hi⟩
theorem pk_surj {p : List Int} (h1 : 1 ≤ p.length) (h3 : p.length ≤ 3) (hr : ∀ x ∈ p, 0 ≤ x ∧ x ≤ 5) (hn : p.Nodup) : ∃ i, i < chsM p.length ∧ pkM (ratesM p.length) i six = p := by
  match p, h1, h3, hr, hn with
  | [x], _, _, hr, _ =>
    obtain ⟨a, rfl⟩ := Int.eq_ofNat_of_zero_le (hr x (by simp)).1
    have := (hr _ (List.mem_singleton.2 rfl)).2
    exact ⟨a, by simp only [chsM, List.length_cons, List.length_nil]; omega, pk1_inv a (by omega)⟩
  | [x, y], _, _, hr, hn =>
    have hx := hr x (by simp)
    have hy := hr y (by simp)
    obtain ⟨a, rfl⟩ := Int.eq_ofNat_of_zero_le hx.1
    obtain ⟨b, rfl⟩ := Int.eq_ofNat_of_zero_le hy.1
    have hab : a ≠ b := fun e => by subst e; simp at hn
    obtain ⟨g1, g2⟩ := pk2_inv a (by omega) b (by omega) hab
    exact ⟨inv2 a b, g1, g2⟩
  | [x, y, z], _, _, hr, hn =>
    have hx := hr x (by simp)
    have hy := hr y (by simp)
    have hz := hr z (by simp)
    obtain ⟨a, rfl⟩ := Int.eq_ofNat_of_zero_le hx.1
    obtain ⟨b, rfl⟩ := Int.eq_ofNat_of_zero_le hy.1
    obtain ⟨c, rfl⟩ := Int.eq_ofNat_of_zero_le hz.1
    have hab : a ≠ b := fun e => by subst e; simp at hn
    have hac : a ≠ c := fun e => by subst e; simp at hn
    have hbc : b ≠ c := fun e => by subst e; simp at hn
    obtain ⟨g1, g2⟩ := pk3_inv a (by omega) b (by omega) c (by omega) hab hac hbc
    exact ⟨inv3 a b c, g1, g2⟩
  | _ :: _ :: _ :: _ :: _, _, h3, _, _ => simp at h3

theorem impl_choices_small {n : Nat} (h : n ≤ 3) : impl_choices (n : Int) = some ((bif n == 0 then 1 else chsM n : Nat) : Int) := by
  have hn : n = 0 ∨ n = 1 ∨ n = 2 ∨ n = 3 := by omega
  rcases hn with rfl | rfl | rfl | rfl <;> rfl

theorem impl_upTo_six : impl_upTo 6 = some six := rfl

theorem way_step {L : List Int} {k idx r c1 c2 : Nat} {left list : List Int} (e1 : impl_choices ((L.length : Nat) : Int) = some (c1 : Int)) (e2 : impl_choices ((k + 1 : Nat) : Int) = some (c2 : Int)) (h2 : 0 < c2) (hr : c1 / c2 = r) (hr0 : 0 < r) (hr1 : c1 ≤ 1000) (hidx : idx < r * left.length) (hleft : left.length ≤ 6) (hlist : list.length = 6) (hu : 0 ≤ gx L k ∧ gx L k ≤ 5) (hi : idx ≤ 1000) :
    impl_ColorwayAt_L1 L k ((idx : Int), left, list) = some (.next (((idx % r : Nat) : Int), left.take (idx / r) ++ left.drop (idx / r + 1), list.set (gx L k).toNat (gx left (idx / r)))) := by
  have hq : idx / r < left.length := Nat.div_lt_of_lt_mul hidx
  have hq2 : idx / r ≤ idx := Nat.div_le_self _ _
  have hrr : r ≤ c1 := by rw [← hr]; exact Nat.div_le_self _ _
  have er : wr (((c1 / c2 : Nat) : Int)) = (r : Int) := by
    rw [hr]; exact wr_of (by omega) (by omega)
  unfold impl_ColorwayAt_L1
  rw [e1, e2]
  simp only [Option.bind_some, er, tdiv_nat, tmod_nat]
  generalize idx / r = q at hq hq2 ⊢
  have eq1 : wr ((q : Nat) : Int) = (q : Int) := wr_of (by omega) (by omega)
  have eq2 : wr ((q : Int) + 1) = ((q + 1 : Nat) : Int) := by rw [wr_of (by omega) (by omega)]; simp
  simp only [eq1, eq2, Int.toNat_natCast]
  have ht : ((left.drop 0).take (q - 0)) = left.take q := by simp
  have hd : ((left.drop (q + 1)).take (left.length - (q + 1))) = left.drop (q + 1) := List.take_of_length_le (by simp)
  rw [gd_pos (by omega), gd_pos (by omega), gd_pos ⟨by omega, by omega⟩, gd_pos ⟨hu.1, by omega⟩, gd_pos ⟨by omega, by omega, by omega⟩, gd_pos ⟨by omega, by omega, by omega⟩, ht, hd, gd_pos (by simp; omega), gd_pos (by simp; omega)]
  rfl

theorem impl_ColorwayAt_ok {b : GBlock} (h : BlockOkM b = true) (h3 : (colsM b).length ≤ 3) {i : Nat} (hi : i < chsM (colsM b).length) : impl_ColorwayAt b (i : Int) = some (exB (wayM (colsM b) (pkM (ratesM (colsM b).length) i six)) b, true) := by
  have hp := cols_pos h
  have hc : ColorsM b = colsM b := by simp [ColorsM, h]
  have hu : ∀ k, k < (colsM b).length → 0 ≤ gx (colsM b) k ∧ gx (colsM b) k ≤ 5 := fun k hk => (mem_cols.1 (gx_mem hk)).1
  have hpk := pk_ok hp h3 hi
  have hch := impl_choices_small h3
  have hn0 : ((colsM b).length == 0) = false := by rw [beq_eq_false_iff_ne]; omega
  rw [hn0, cond_false] at hch
  have hcount : impl_ColorwayCount b = some ((chsM (colsM b).length : Nat) : Int) := by
    unfold impl_ColorwayCount
    simp only [impl_BlockOk_eq, h, Option.bind_some, Bool.not_true, cond_false, impl_ColorsOf_eq, hc, hch]
  have hle : chsM (colsM b).length ≤ 120 := by
    have hn : (colsM b).length = 1 ∨ (colsM b).length = 2 ∨ (colsM b).length = 3 := by omega
    rcases hn with e | e | e <;> rw [e] <;> decide
  have ew : wr (((chsM (colsM b).length : Nat) : Int) - 1) = ((chsM (colsM b).length : Nat) : Int) - 1 := wr_of (by omega) (by omega)
  have hin : inR (i : Int) 0 (((chsM (colsM b).length : Nat) : Int) - 1) = true := inR_iff.2 ⟨by omega, by omega⟩
  have hloop : (lpO (impl_ColorwayAt_L1 (colsM b)) (colsM b).length ((i : Int), six, List.replicate 6 (0 : Int))).map (fun s => s.2.2) = some (wayM (colsM b) (pkM (ratesM (colsM b).length) i six)) := by
    have hst := fun (k c2 r idx : Nat) (left list : List Int) (q1 : impl_choices ((k + 1 : Nat) : Int) = some (c2 : Int)) (q2 : 0 < c2) (q3 : chsM (colsM b).length / c2 = r) (q4 : 0 < r) (q5 : idx < r * left.length) (q6 : left.length ≤ 6) (q7 : list.length = 6) (q8 : k < (colsM b).length) (q9 : idx ≤ 1000) => way_step (L := colsM b) (k := k) (idx := idx) (r := r) (c1 := chsM (colsM b).length) (c2 := c2) (left := left) (list := list) hch q1 q2 q3 q4 (by omega) q5 q6 q7 (hu k q8) q9
    have hn : (colsM b).length = 1 ∨ (colsM b).length = 2 ∨ (colsM b).length = 3 := by omega
    generalize hL : colsM b = L at hn hst hi ⊢
    rcases hn with e | e | e
    · obtain ⟨u, rfl⟩ : ∃ u, L = [u] := by
        match L, e with
        | [u], _ => exact ⟨u, rfl⟩
      have hi6 : i < 6 := hi
      have s0 := hst 0 6 1 i six (List.replicate 6 (0 : Int)) rfl (by omega) (by simp [chsM]) (by omega) (by simp [six]; omega) (by simp [six]) (by simp) (by simp) (by omega)
      unfold lpO
      rw [show ([u] : List Int).length = 0 + 1 from rfl, forO, s0]
      rfl
    · obtain ⟨u, v, rfl⟩ : ∃ u v, L = [u, v] := by
        match L, e with
        | [u, v], _ => exact ⟨u, v, rfl⟩
      have hi6 : i < 30 := hi
      have s0 := hst 0 6 5 i six (List.replicate 6 (0 : Int)) rfl (by omega) (by simp [chsM]) (by omega) (by simp [six]; omega) (by simp [six]) (by simp) (by simp) (by omega)
      have l1 : (six.take (i / 5) ++ six.drop (i / 5 + 1)).length = 5 := by simp [six]; omega
      have s1 := hst 1 30 1 (i % 5) (six.take (i / 5) ++ six.drop (i / 5 + 1)) ((List.replicate 6 (0 : Int)).set (gx [u, v] 0).toNat (gx six (i / 5))) rfl (by omega) (by simp [chsM]) (by omega) (by rw [l1]; omega) (by rw [l1]; omega) (by simp) (by simp) (by omega)
      unfold lpO
      rw [show ([u, v] : List Int).length = 1 + 1 from rfl, forO, s0]
      simp only [Option.bind_some]
      rw [forO, s1]
      rfl
    · obtain ⟨u, v, w, rfl⟩ : ∃ u v w, L = [u, v, w] := by
        match L, e with
        | [u, v, w], _ => exact ⟨u, v, w, rfl⟩
      have hi6 : i < 120 := hi
      have s0 := hst 0 6 20 i six (List.replicate 6 (0 : Int)) rfl (by omega) (by simp [chsM]) (by omega) (by simp [six]; omega) (by simp [six]) (by simp) (by simp) (by omega)
      have l1 : (six.take (i / 20) ++ six.drop (i / 20 + 1)).length = 5 := by simp [six]; omega
      have s1 := hst 1 30 4 (i % 20) (six.take (i / 20) ++ six.drop (i / 20 + 1)) ((List.replicate 6 (0 : Int)).set (gx [u, v, w] 0).toNat (gx six (i / 20))) rfl (by omega) (by simp [chsM]) (by omega) (by rw [l1]; omega) (by rw [l1]; omega) (by simp) (by simp) (by omega)
      generalize hl1 : six.take (i / 20) ++ six.drop (i / 20 + 1) = left1 at l1 s0 s1
      have l2 : (left1.take (i % 20 / 4) ++ left1.drop (i % 20 / 4 + 1)).length = 4 := by simp; omega
      have s2 := hst 2 120 1 (i % 20 % 4) (left1.take (i % 20 / 4) ++ left1.drop (i % 20 / 4 + 1)) (((List.replicate 6 (0 : Int)).set (gx [u, v, w] 0).toNat (gx six (i / 20))).set (gx [u, v, w] 1).toNat (gx left1 (i % 20 / 4))) rfl (by omega) (by simp [chsM]) (by omega) (by rw [l2]; omega) (by rw [l2]; omega) (by simp) (by simp) (by omega)
      unfold lpO
      rw [show ([u, v, w] : List Int).length = 2 + 1 from rfl, forO, s0]
      simp only [Option.bind_some]
      rw [forO, s1]
      simp only [Option.bind_some]
      rw [forO, s2]
      subst hl1
      rfl
  cases hl : lpO (impl_ColorwayAt_L1 (colsM b)) (colsM b).length ((i : Int), six, List.replicate 6 (0 : Int)) with
  | none => rw [hl] at hloop; cases hloop
  | some e =>
    rw [hl] at hloop
    have hz : e.2.2 = wayM (colsM b) (pkM (ratesM (colsM b).length) i six) := Option.some.inj hloop
    have hw := way_ok (L := colsM b) hpk.2.2
    have hwl := (listOk_spec hw).1
    unfold impl_ColorwayAt
    rw [hcount]
    simp only [Option.bind_some, within_eq, ew, hin, Bool.not_true, cond_false, impl_ColorsOf_eq, hc, impl_upTo_six]
    rw [gd_pos (by omega), hl]
    simp only [Option.bind_some, hz]
    rw [impl_ExchangeBlock_eq (blockOk_sm h).1 (by omega), exB_eq h hw]
    rfl

def PatLikeM (b d : GBlock) : Int := bif pairM b d && decide ((colsM d).length ≤ 3) then mx 8 (fun k => bestM (TM b (SeenM d (k : Int))) (colsM d) []) else 0
theorem zip_fst {L p : List Int} (h : p.length = L.length) : (L.zip p).map Prod.fst = L := by
  rw [List.map_fst_zip (by omega)]
theorem like_way {b d : GBlock} (h : pairM b d = true) {k : Nat} (hk : k < 8) {p : List Int} (hl : p.length = (colsM d).length) (hr : ∀ x ∈ p, 0 ≤ x ∧ x ≤ 5) : LikeM b (SeenM (exB (wayM (colsM d) p) d) (k : Int)) = sumP ((colsM d).zip p) (TM b (SeenM d (k : Int))) := by
  obtain ⟨h1, h2, h3, h4⟩ := pair_len h
  have hw := way_ok (L := colsM d) hr
  rw [seen_exchange h2 hw hk]
  refine like_exchange (pair_seen h hk) hw (by rw [zip_fst hl]; exact cols_nodup d) (fun i hi s => by rw [zip_fst hl]; exact seen_colors h2 hk hi s) ?_
  exact asg_gx _ _ _ rfl (cols_nodup d) fun u hu => (mem_cols.1 hu).1

theorem spec_PatternLikeness_eq (b d : GBlock) : spec_PatternLikeness b d = some (PatLikeM b d) := by
  unfold spec_PatternLikeness PatLikeM
  simp only [spec_ColorsOf_eq, spec_l29Ok_eq, Option.bind_some]
  cases h : pairM b d
  · rfl
  obtain ⟨h1, h2, h3, h4⟩ := pair_len h
  have hc : ColorsM d = colsM d := by simp [ColorsM, h2]
  rw [hc]
  by_cases hn : (colsM d).length ≤ 3
  · have hd : decide (((colsM d).length : Int) > 3) = false := by simp; omega
    have hd' : decide ((colsM d).length ≤ 3) = true := by simpa using hn
    simp only [hd, hd', Bool.not_true, cond_false, Option.bind_some, Bool.and_self, cond_true]
    rw [lpO_mx (f := spec_PatternLikeness_L1 b d (colsM d)) (fun k => bestM (TM b (SeenM d (k : Int))) (colsM d) []) (fun k s hk => by
      have hb := spec_l29Best_ok (T := TM b (SeenM d (k : Int))) (fun u v => TM_bound h4 u v) hn (fun u hu => (mem_cols.1 hu).1) (colsM d).length 0 [] (by omega) rfl (by simp)
      simp only [List.drop_zero] at hb
      simp only [spec_PatternLikeness_L1, spec_SeenFrom_eq, spec_l29Table_ok (pair_seen h hk), Option.bind_some]
      rw [show (0 : Int) = ((0 : Nat) : Int) from rfl, show spec_l29Best ((colsM d).length + 1) (tab66 fun u v => TM b (SeenM d (k : Int)) (u : Int) (v : Int)) (colsM d) ((0 : Nat) : Int) ((0 : Nat) : Int) = _ from hb]
      rfl)]
    rfl
  · have hd : decide (((colsM d).length : Int) > 3) = true := by simp; omega
    have hd' : decide ((colsM d).length ≤ 3) = false := by simpa using hn
    simp [hd, hd']
end Go.Proofs.YtjfjbgihojiijaaGreatDoor
