/-
  The plain laws: what the functions compute, in Lean alone.
-/
import Derived.Test.YtkahnmhkfmjomabDoorPure
namespace Go.Proofs.YtkahnmhkfmjomabDoor
open Go

theorem gd_pos {α : Type} {p : Prop} [Decidable p] (h : p) (t : Option α) : gd p t = t := by simp [gd, h]
@[simp] theorem sq_inl {J C : Type} (j : J) (k : J → Option C) : sq (some (.inl j)) k = k j := rfl
@[simp] theorem sq_inr {J C : Type} (c : C) (k : J → Option C) : sq (some (.inr c)) k = some c := rfl

section
variable {S C : Type} {f : Nat → S → Option (Res S C)} {N : Nat}
theorem forO_at (st : Nat → S) (h : ∀ k, k < N → f k (st k) = some (.next (st (k + 1)))) : ∀ m k, k + m = N → forO f m k (st k) = some (.inl (st N))
  | 0, k, e => by simp at e; subst e; rfl
  | m + 1, k, e => by
    rw [forO, h k (by omega)]
    exact forO_at st h m (k + 1) (by omega)
theorem forO_st (st : Nat → S) {s0 : S} (h0 : s0 = st 0) (h : ∀ k, k < N → f k (st k) = some (.next (st (k + 1)))) : forO f N 0 s0 = some (.inl (st N)) := by
  rw [h0]; exact forO_at st h N 0 (by omega)
theorem forO_upto (st : Nat → S) (K : Nat) (hK : K < N) (h : ∀ k, k < K → f k (st k) = some (.next (st (k + 1)))) : ∀ m k, k + m = N → k ≤ K → forO f m k (st k) = forO f (N - K) K (st K)
  | 0, k, e, hk => by omega
  | m + 1, k, e, hk => by
    rcases Nat.lt_or_ge k K with hlt | hge
    · rw [forO, h k hlt]
      exact forO_upto st K hK h m (k + 1) (by omega) (by omega)
    · have : k = K := by omega
      subst this
      rw [show N - k = m + 1 by omega]
theorem forO_retAt (st : Nat → S) {s0 : S} (h0 : s0 = st 0) (K : Nat) (hK : K < N) (h : ∀ k, k < K → f k (st k) = some (.next (st (k + 1)))) {c : C} (hr : f K (st K) = some (.ret c)) : forO f N 0 s0 = some (.inr c) := by
  rw [h0, forO_upto st K hK h N 0 (by omega) (by omega), show N - K = (N - K - 1) + 1 by omega, forO, hr]; rfl
theorem forO_brkAt (st : Nat → S) {s0 : S} (h0 : s0 = st 0) (K : Nat) (hK : K < N) (h : ∀ k, k < K → f k (st k) = some (.next (st (k + 1)))) {s' : S} (hr : f K (st K) = some (.brk s')) : forO f N 0 s0 = some (.inl s') := by
  rw [h0, forO_upto st K hK h N 0 (by omega) (by omega), show N - K = (N - K - 1) + 1 by omega, forO, hr]; rfl
/-- A loop that looks for the first place where p fails. -/
theorem forO_all (p : Nat → Bool) {s : S} {c : C} (h : ∀ k, k < N → f k s = some (bif p k then .next s else .ret c)) : forO f N 0 s = some (bif (List.range N).all p then .inl s else .inr c) := by
  cases ha : (List.range N).all p with
  | true =>
    rw [List.all_eq_true] at ha
    exact forO_st (fun _ => s) rfl fun k hk => by rw [h k hk, ha k (by simpa using hk)]; rfl
  | false =>
    have : ∃ k, k < N ∧ p k = false := by
      rw [List.all_eq_false] at ha
      obtain ⟨k, hk, hp⟩ := ha
      exact ⟨k, by simpa using hk, by simpa using hp⟩
    have hmin : ∃ k, k < N ∧ p k = false ∧ ∀ j, j < k → p j = true := by
      obtain ⟨k, hk, hp⟩ := this
      induction k using Nat.strongRecOn with
      | _ k ih =>
        by_cases hx : ∃ j, j < k ∧ p j = false
        · obtain ⟨j, hj, hpj⟩ := hx
          exact ih j hj (by omega) hpj
        · refine ⟨k, hk, hp, fun j hj => ?_⟩
          cases hpj : p j with
          | true => rfl
          | false => exact absurd ⟨j, hj, hpj⟩ hx
    obtain ⟨k, hk, hp, hall⟩ := hmin
    exact forO_retAt (fun _ => s) rfl k hk (fun j hj => by rw [h j (by omega), hall j hj]; rfl) (by rw [h k hk, hp]; rfl)
/-- A loop that returns at the first place where p holds. -/
theorem forO_find (p : Nat → Bool) {s : S} (c : Nat → C) (h : ∀ k, k < N → f k s = some (bif p k then .ret (c k) else .next s)) : forO f N 0 s = some (match (List.range N).find? p with | some k => .inr (c k) | none => .inl s) := by
  cases ha : (List.range N).find? p with
  | none =>
    rw [List.find?_eq_none] at ha
    exact forO_st (fun _ => s) rfl fun k hk => by
      rw [h k hk]
      have := ha k (by simpa using hk)
      simp at this
      rw [this]; rfl
  | some K =>
    have hp := List.find?_some ha
    have hK : K < N := by simpa using List.mem_of_find?_eq_some ha
    refine forO_retAt (fun _ => s) rfl K hK (fun j hj => ?_) (by rw [h K hK, hp]; rfl)
    rw [h j (by omega)]
    have : p j = false := by
      rw [List.find?_range_eq_some] at ha
      simpa using ha.2.2 j hj
    rw [this]; rfl
end
section
variable {S : Type} {f : Nat → S → Option (Res S Empty)} {N : Nat}
theorem lpO_st (st : Nat → S) {s0 : S} (h0 : s0 = st 0) (h : ∀ k, k < N → f k (st k) = some (.next (st (k + 1)))) : lpO f N s0 = some (st N) := by
  unfold lpO; rw [forO_st st h0 h]; rfl
/-- A state that each round turns by g. -/
def fold {S : Type} (g : Nat → S → S) (s0 : S) : Nat → S
  | 0 => s0
  | n + 1 => g n (fold g s0 n)
theorem lpO_fold (g : Nat → S → S) {s0 : S} (h : ∀ k, k < N → f k (fold g s0 k) = some (.next (g k (fold g s0 k)))) : lpO f N s0 = some (fold g s0 N) :=
  lpO_st (fold g s0) rfl h
end
section
variable {α : Type} {f : Nat → List α → Option (Res (List α) Empty)} {N : Nat}
theorem lpO_app (F : Nat → α) {xs : List α} (h : ∀ k s, k < N → s.length = xs.length + k → f k s = some (.next (s ++ [F k]))) : lpO f N xs = some (xs ++ (List.range N).map F) :=
  lpO_st (fun k => xs ++ (List.range k).map F) (by simp) fun k hk => by
    rw [h k _ hk (by simp)]
    simp [List.range_succ]
theorem lpO_filter (p : Nat → Bool) (F : Nat → α) {xs : List α} (h : ∀ k s, k < N → s.length ≤ xs.length + k → f k s = some (.next (bif p k then s ++ [F k] else s))) : lpO f N xs = some (xs ++ ((List.range N).filter p).map F) :=
  lpO_st (fun k => xs ++ ((List.range k).filter p).map F) (by simp) fun k hk => by
    rw [h k _ hk (by
      have := List.length_filter_le p (List.range k)
      simp at this ⊢; omega)]
    cases hp : p k <;> simp [List.range_succ, List.filter_append, hp]
theorem lpO_cat (F : Nat → List α) {xs : List α} (h : ∀ k s, k < N → s = xs ++ (List.range k).flatMap F → f k s = some (.next (s ++ F k))) : lpO f N xs = some (xs ++ (List.range N).flatMap F) :=
  lpO_st (fun k => xs ++ (List.range k).flatMap F) (by simp) fun k hk => by
    rw [h k _ hk rfl]
    simp [List.range_succ]
end
theorem map_gx {α β : Type} [Rep α] (F : α → β) (xs : List α) : (List.range xs.length).map (fun k => F (gx xs k)) = xs.map F := by
  apply List.ext_getElem
  · simp
  · intro i h1 h2
    simp at h1
    simp [gx, List.getD, h1]
theorem all_gx {α : Type} [Rep α] (F : α → Bool) (xs : List α) : (List.range xs.length).all (fun k => F (gx xs k)) = xs.all F := by
  have := map_gx F xs
  calc (List.range xs.length).all (fun k => F (gx xs k)) = ((List.range xs.length).map (fun k => F (gx xs k))).all id := by simp [List.all_map]
    _ = xs.all F := by rw [this]; simp [List.all_map]
theorem gx_lt {α : Type} [Rep α] {xs : List α} {k : Nat} (h : k < xs.length) : gx xs k = xs[k] := by simp [gx, List.getD, h]
theorem gx_mem {α : Type} [Rep α] {xs : List α} {k : Nat} (h : k < xs.length) : gx xs k ∈ xs := by rw [gx_lt h]; exact List.getElem_mem h
theorem wr_of {n : Int} (h1 : -4611686018427387904 ≤ n) (h2 : n ≤ 4611686018427387904) : wr n = n := wr_id (by omega) (by omega)

/-- What is small enough for all bounds. -/
class Sm (α : Type) where
  ok : α → Prop
instance : Sm Int := ⟨fun _ => True⟩
instance : Sm Bool := ⟨fun _ => True⟩
instance : Sm Str := ⟨fun s => s.b.length ≤ 1048576⟩
instance (α : Type) [Sm α] : Sm (List α) := ⟨fun xs => xs.length ≤ 1048576 ∧ ∀ x ∈ xs, Sm.ok x⟩
theorem sm_len {α : Type} [Sm α] {xs : List α} (h : Sm.ok xs) : xs.length ≤ 1048576 := h.1
theorem sm_gx {α : Type} [Sm α] [Rep α] {xs : List α} (h : Sm.ok xs) {k : Nat} (hk : k < xs.length) : Sm.ok (gx xs k) := h.2 _ (gx_mem hk)
theorem sm_ints {xs : List Int} (h : xs.length ≤ 1048576) : Sm.ok xs := ⟨h, fun _ _ => trivial⟩

theorem gx_set_ne {α : Type} [Rep α] {xs : List α} {k j : Nat} {e : α} (h : j ≠ k) : gx (xs.set k e) j = gx xs j := by
  simp [gx, List.getD, List.getElem?_set_ne (Ne.symm h)]
theorem gx_ext {α : Type} [Rep α] {xs ys : List α} (hl : xs.length = ys.length) (h : ∀ k, k < xs.length → gx xs k = gx ys k) : xs = ys := by
  apply List.ext_getElem hl
  intro i h1 h2
  have := h i h1
  rwa [gx_lt h1, gx_lt h2] at this

theorem to_list {α : Type} [Rep α] {f : Nat → List α → Option (Res (List α) Empty)} (a : List α) (z : α) (h : ∀ k s, k < a.length → s.length = a.length → f k s = some (.next (s.set k (gx a k)))) : lpO f a.length (List.replicate a.length z) = some a := by
  have := lpO_st (f := f) (N := a.length) (fun k => a.take k ++ List.replicate (a.length - k) z) (s0 := List.replicate a.length z) (by simp) fun k hk => by
    rw [h k _ hk (by simp; omega)]
    congr 2
    apply List.ext_getElem
    · simp; omega
    · intro i h1 h2
      rw [List.getElem_set]
      split
      · rename_i e; subst e
        rw [gx_lt hk, List.getElem_append_left (by simp; omega)]
        simp
      · rename_i hne
        rcases Nat.lt_or_ge i k with hi | hi
        · rw [List.getElem_append_left (by simp; omega), List.getElem_append_left (by simp; omega)]; simp
        · rw [List.getElem_append_right (by simp; omega), List.getElem_append_right (by simp; omega)]; simp
  simpa using this
theorem all_next {C : Type} {f : Nat → Unit → Option (Res Unit C)} {N : Nat} (h : ∀ k, k < N → f k () = some (.next ())) : forO f N 0 () = some (.inl ()) := forO_st (fun _ => ()) rfl h

theorem mark_list {α : Type} [Rep α] {f : Nat → List α × Int → Option (Res (List α × Int) Empty)} (a : List α) (j0 B M : Int) (R : α → Int → Int → Prop) (hB : 0 ≤ B) (hM : j0 + B * a.length ≤ M)
    (h : ∀ k s j, k < a.length → s.length = a.length → gx s k = gx a k → j0 ≤ j → j + B ≤ M → ∃ e j', f k (s, j) = some (.next (s.set k e, j')) ∧ j ≤ j' ∧ j' ≤ j + B ∧ R e j j') :
    ∃ (a' : List α) (js : Nat → Int), lpO f a.length (a, j0) = some (a', js a.length) ∧ a'.length = a.length ∧ js 0 = j0 ∧ j0 ≤ js a.length ∧ js a.length ≤ j0 + B * a.length ∧ ∀ k, k < a.length → R (gx a' k) (js k) (js (k + 1)) ∧ j0 ≤ js k := by
  have key : ∀ m k (s : List α) (j : Int), k + m = a.length → s.length = a.length → (∀ i, k ≤ i → i < a.length → gx s i = gx a i) → j0 ≤ j → j ≤ j0 + B * k →
      ∃ (a' : List α) (js : Nat → Int), forO f m k (s, j) = some (.inl (a', js a.length)) ∧ a'.length = a.length ∧ js k = j ∧ j ≤ js a.length ∧ js a.length ≤ j0 + B * a.length ∧ (∀ i, i < k → gx a' i = gx s i) ∧ ∀ i, k ≤ i → i < a.length → R (gx a' i) (js i) (js (i + 1)) ∧ j ≤ js i := by
    intro m
    induction m with
    | zero =>
      intro k s j hk hl _ h0 h1
      have e : k = a.length := by omega
      subst e
      exact ⟨s, fun _ => j, rfl, hl, rfl, Int.le_refl _, h1, fun _ _ => rfl, fun i h1 h2 => by omega⟩
    | succ m ih =>
      intro k s j hk hl hs h0 h1
      have hle : B * (k : Int) + B ≤ B * a.length := by
        have : (k : Int) + 1 ≤ a.length := by omega
        have := Int.mul_le_mul_of_nonneg_left this hB
        rw [Int.mul_add, Int.mul_one] at this
        exact this
      obtain ⟨e, j', hf, g1, g2, hR⟩ := h k s j (by omega) hl (hs k (Nat.le_refl _) (by omega)) h0 (by omega)
      obtain ⟨a', js, i1, i2, i3, i3', i4, i5, i6⟩ := ih (k + 1) (s.set k e) j' (by omega) (by simpa using hl) (fun i h1 h2 => by rw [gx_set_ne (by omega)]; exact hs i (by omega) h2) (by omega) (by
        have e1 : B * ((k + 1 : Nat) : Int) = B * k + B := by rw [Int.natCast_add, Int.mul_add]; simp
        rw [e1]; omega)
      refine ⟨a', fun i => if i = k then j else js i, ?_, i2, by simp, ?_, ?_, fun i hi => ?_, fun i h1 h2 => ?_⟩
      · rw [forO, hf]
        have hne : a.length ≠ k := by omega
        simp only [Option.bind_some, hne, if_false]
        exact i1
      · have hne : a.length ≠ k := by omega
        simp only [hne, if_false]
        omega
      · have hne : a.length ≠ k := by omega
        simp only [hne, if_false]
        exact i4
      · rw [i5 i (by omega), gx_set_ne (by omega)]
      · rcases Nat.eq_or_lt_of_le h1 with e1 | e1
        · subst e1
          have hne : k + 1 ≠ k := by omega
          simp only [if_true, hne, if_false]
          rw [i3, i5 k (by omega), gx_set (by omega)]
          exact ⟨hR, Int.le_refl _⟩
        · have n1 : i ≠ k := by omega
          have n2 : i + 1 ≠ k := by omega
          simp only [n1, n2, if_false]
          obtain ⟨q1, q2⟩ := i6 i (by omega) h2
          exact ⟨q1, by omega⟩
  obtain ⟨a', js, i1, i2, i3, i3', i4, _, i6⟩ := key a.length 0 a j0 (by omega) rfl (fun _ _ _ => rfl) (Int.le_refl _) (by simp)
  refine ⟨a', js, ?_, i2, i3, i3', i4, fun k hk => i6 k (Nat.zero_le _) hk⟩
  unfold lpO
  rw [i1]; rfl
theorem held_list {C : Type} {f : Nat → Int → Option (Res Int C)} {N : Nat} (js : Nat → Int) {j0 : Int} (h0 : js 0 = j0) (h : ∀ k, k < N → f k (js k) = some (.next (js (k + 1)))) : forO f N 0 j0 = some (.inl (js N)) := forO_st js h0.symm h
/-- Sizes: each round takes off what an element has, or ends. -/
theorem size_list {f : Nat → Int → Option (Res Int Int)} {N : Nat} (P : Nat → Prop) (l : Int) (h : ∀ k j, k < N → 0 ≤ j → j ≤ l → (f k j = some (.ret (-1))) ∨ ∃ j', f k j = some (.next j') ∧ 0 ≤ j' ∧ j' ≤ j ∧ P k) (hl : 0 ≤ l) :
    forO f N 0 l = some (.inr (-1)) ∨ ∃ j, forO f N 0 l = some (.inl j) ∧ 0 ≤ j ∧ j ≤ l ∧ ∀ k, k < N → P k := by
  have key : ∀ m k j, k + m = N → 0 ≤ j → j ≤ l → (∀ i, i < k → P i) → forO f m k j = some (.inr (-1)) ∨ ∃ j', forO f m k j = some (.inl j') ∧ 0 ≤ j' ∧ j' ≤ l ∧ ∀ i, i < N → P i := by
    intro m
    induction m with
    | zero => intro k j hk h0 h1 hP; exact .inr ⟨j, rfl, h0, h1, fun i hi => hP i (by omega)⟩
    | succ m ih =>
      intro k j hk h0 h1 hP
      rcases h k j (by omega) h0 h1 with hr | ⟨j', hr, g1, g2, g3⟩
      · left; rw [forO, hr]; rfl
      · rw [forO, hr]
        exact ih (k + 1) j' (by omega) g1 (by omega) (fun i hi => by
          rcases Nat.lt_or_ge i k with h | h
          · exact hP i h
          · have : i = k := by omega
            subst this; exact g3)
  exact key N 0 l (by omega) hl (Int.le_refl _) (fun i hi => by omega)
theorem all_of_gx {α : Type} [Rep α] {xs : List α} {P : α → Prop} (h : ∀ k, k < xs.length → P (gx xs k)) : ∀ x ∈ xs, P x := fun x hx => by
  obtain ⟨i, hi, rfl⟩ := List.getElem_of_mem hx
  have := h i hi
  rwa [gx_lt hi] at this

-- type GCell
instance : Sm GCell := ⟨fun _ => True⟩

-- type GBlock
instance : Sm GBlock := ⟨fun x => Sm.ok x.Cells⟩

def inR (x a b : Int) : Bool := decide (x ≥ a) && decide (x ≤ b)
theorem inR_iff {x a b : Int} : inR x a b = true ↔ a ≤ x ∧ x ≤ b := by simp [inR]
theorem inR_not {x a b : Int} : inR x a b = false ↔ ¬(a ≤ x ∧ x ≤ b) := by rw [← inR_iff]; simp

@[simp] theorem l01In_eq (x a b : Int) : spec_l01In x a b = some (inR x a b) := rfl

@[simp] theorem within_eq (x a b : Int) : impl_within x a b = some (inR x a b) := rfl

@[simp] theorem isColor_eq (a : Int) : impl_isColor a = some (inR a 0 5) := rfl

def CellOkM (c : GCell) : Bool := inR c.Split 0 2 && inR c.A 0 5 && inR c.B 0 5 && ((c.Split == 0) == (c.A == c.B))

@[simp] theorem spec_CellOk_eq (c : GCell) : spec_CellOk c = some (CellOkM c) := by
  unfold spec_CellOk CellOkM
  simp only [l01In_eq, Option.bind_some]
  cases inR c.Split 0 2 <;> cases inR c.A 0 5 <;> cases inR c.B 0 5 <;> simp

@[simp] theorem impl_CellOk_eq (c : GCell) : impl_CellOk c = some (CellOkM c) := by
  unfold impl_CellOk CellOkM
  simp only [within_eq, isColor_eq, Option.bind_some]
  cases inR c.Split 0 2 <;> cases inR c.A 0 5 <;> cases inR c.B 0 5 <;> simp

theorem cellOk_spec {c : GCell} (h : CellOkM c = true) : 0 ≤ c.Split ∧ c.Split ≤ 2 ∧ 0 ≤ c.A ∧ c.A ≤ 5 ∧ 0 ≤ c.B ∧ c.B ≤ 5 ∧ (c.Split = 0 ↔ c.A = c.B) := by
  simp only [CellOkM, Bool.and_eq_true, inR_iff, beq_iff_eq] at h
  obtain ⟨⟨⟨⟨h1, h2⟩, h3, h4⟩, h5, h6⟩, h7⟩ := h
  refine ⟨h1, h2, h3, h4, h5, h6, ?_⟩
  have e1 : (c.Split == 0) = decide (c.Split = 0) := by cases h : c.Split == 0 <;> simp_all
  have e2 : (c.A == c.B) = decide (c.A = c.B) := by cases h : c.A == c.B <;> simp_all
  rw [e1, e2] at h7
  constructor
  · intro h; simp [h] at h7; exact h7
  · intro h; simp [h] at h7; exact h7
theorem cellOk_of {c : GCell} (h1 : 0 ≤ c.Split) (h2 : c.Split ≤ 2) (h3 : 0 ≤ c.A) (h4 : c.A ≤ 5) (h5 : 0 ≤ c.B) (h6 : c.B ≤ 5) (h7 : c.Split = 0 ↔ c.A = c.B) : CellOkM c = true := by
  have e1 : inR c.Split 0 2 = true := inR_iff.2 ⟨h1, h2⟩
  have e2 : inR c.A 0 5 = true := inR_iff.2 ⟨h3, h4⟩
  have e3 : inR c.B 0 5 = true := inR_iff.2 ⟨h5, h6⟩
  unfold CellOkM
  rw [e1, e2, e3]
  by_cases h : c.Split = 0
  · have := h7.1 h; simp [h, this]
  · have : ¬ c.A = c.B := fun e => h (h7.2 e)
    have q1 : (c.Split == 0) = false := beq_eq_false_iff_ne.2 h
    have q2 : (c.A == c.B) = false := beq_eq_false_iff_ne.2 this
    rw [q1, q2]; rfl

def WholeCellM (a : Int) : GCell := bif inR a 0 5 then ⟨0, a, a⟩ else ⟨0, 0, 0⟩

@[simp] theorem spec_WholeCell_eq (a : Int) : spec_WholeCell a = some (WholeCellM a) := by
  unfold spec_WholeCell WholeCellM
  simp only [l01In_eq, Option.bind_some]
  cases inR a 0 5 <;> rfl

@[simp] theorem impl_WholeCell_eq (a : Int) : impl_WholeCell a = some (WholeCellM a) := by
  unfold impl_WholeCell WholeCellM
  simp only [isColor_eq, Option.bind_some]
  cases inR a 0 5 <;> rfl

def SplitCellM (s a b : Int) : GCell := bif a == b then WholeCellM a else bif CellOkM ⟨s, a, b⟩ then ⟨s, a, b⟩ else ⟨0, 0, 0⟩

@[simp] theorem spec_SplitCell_eq (s a b : Int) : spec_SplitCell s a b = some (SplitCellM s a b) := by
  unfold spec_SplitCell SplitCellM
  simp only [spec_WholeCell_eq, spec_CellOk_eq, Option.bind_some]
  cases a == b <;> cases CellOkM ⟨s, a, b⟩ <;> rfl

@[simp] theorem impl_SplitCell_eq (s a b : Int) : impl_SplitCell s a b = some (SplitCellM s a b) := by
  unfold impl_SplitCell SplitCellM
  simp only [impl_WholeCell_eq, impl_CellOk_eq, Option.bind_some]
  cases a == b <;> cases CellOkM ⟨s, a, b⟩ <;> rfl

def starM : GBlock := ⟨3, [⟨1, 0, 1⟩, ⟨0, 1, 1⟩, ⟨2, 1, 0⟩, ⟨0, 1, 1⟩, ⟨0, 1, 1⟩, ⟨0, 1, 1⟩, ⟨2, 0, 1⟩, ⟨0, 1, 1⟩, ⟨1, 1, 0⟩]⟩

@[simp] theorem spec_StarBlock_eq : spec_StarBlock = some starM := rfl

/-- Row by row. -/
def cellsM {α : Type} (h w : Nat) (F : Nat → Nat → α) : List α := (List.range h).flatMap fun y => (List.range w).map fun x => F y x
theorem cellsM_length {α : Type} (h w : Nat) (F : Nat → Nat → α) : (cellsM h w F).length = h * w := by
  induction h with
  | zero => simp [cellsM]
  | succ h ih =>
    unfold cellsM at ih ⊢
    rw [List.range_succ, List.flatMap_append, List.length_append, ih]
    simp [Nat.add_mul]
theorem cellsM_succ {α : Type} (h w : Nat) (F : Nat → Nat → α) : cellsM (h + 1) w F = cellsM h w F ++ (List.range w).map fun x => F h x := by
  simp [cellsM, List.range_succ]
theorem cellsM_gx {α : Type} [Rep α] {h w : Nat} {F : Nat → Nat → α} {y x : Nat} (hy : y < h) (hx : x < w) : gx (cellsM h w F) (y * w + x) = F y x := by
  induction h with
  | zero => omega
  | succ h ih =>
    rw [cellsM_succ]
    rcases Nat.lt_or_ge y h with hlt | hge
    · have hl : y * w + x < h * w := by
        have := Nat.mul_le_mul_right w (show y + 1 ≤ h from hlt)
        rw [Nat.add_mul] at this; omega
      have := ih hlt
      unfold gx List.getD at this ⊢
      rw [List.getElem?_append_left (by rw [cellsM_length]; exact hl)]
      exact this
    · have e : y = h := by omega
      subst e
      unfold gx List.getD
      rw [List.getElem?_append_right (by rw [cellsM_length]; omega), cellsM_length]
      simp [hx]
theorem cellsM_all {α : Type} {h w : Nat} {F : Nat → Nat → α} {P : α → Prop} (hF : ∀ y x, y < h → x < w → P (F y x)) : ∀ c ∈ cellsM h w F, P c := by
  intro c hc
  simp only [cellsM, List.mem_flatMap, List.mem_map, List.mem_range] at hc
  obtain ⟨y, hy, x, hx, rfl⟩ := hc
  exact hF y x hy hx
theorem loop2 {α : Type} {f1 : Nat → List α → Option (Res (List α) Empty)} {f2 : Nat → Nat → List α → Option (Res (List α) Empty)} {h w : Nat} (F : Nat → Nat → α) (h1 : ∀ k s, f1 k s = (lpO (f2 k) w s).bind fun e => some (.next e))
    (h2 : ∀ k1 k2 s, k1 < h → k2 < w → s.length < h * w → f2 k1 k2 s = some (.next (s ++ [F k1 k2]))) : lpO f1 h [] = some (cellsM h w F) := by
  refine (lpO_cat (xs := []) (fun y => (List.range w).map fun x => F y x) fun k s hk hs => ?_).trans (by simp [cellsM])
  have hl : s.length = k * w := by
    rw [hs, List.nil_append]; exact cellsM_length k w F
  rw [h1, lpO_app (xs := s) (fun x => F k x) fun k2 s2 hk2 hs2 => h2 k k2 s2 hk hk2 (by
    have := Nat.mul_le_mul_right w (show k + 1 ≤ h from hk)
    rw [Nat.add_mul] at this; omega)]
  rfl

theorem made_eq (n : Nat) (one : Int → Int → Option GCell) (F : Nat → Nat → GCell) (hn : n ≤ 1000) (h : ∀ y x : Nat, y < n → x < n → one (x : Int) (y : Int) = some (F y x)) : impl_made (n : Int) one = some ⟨n, cellsM n n F⟩ := by
  unfold impl_made
  have hN : ((n : Int)).toNat = n := by simp
  rw [hN, gd_pos (by omega), loop2 (f1 := impl_made_L1 n one) (f2 := impl_made_L2 one) (h := n) (w := n) F (fun k s => by simp only [impl_made_L1, hN]) (fun k1 k2 s h1 h2 h3 => by
    have : n * n ≤ 1000 * 1000 := Nat.mul_le_mul hn hn
    simp only [impl_made_L2, h k1 k2 h1 h2, Option.bind_some]
    rw [gd_pos (by omega)])]
  rfl

def BlockOkM (b : GBlock) : Bool := inR b.Size 1 4 && ((b.Cells.length : Int) == b.Size * b.Size) && b.Cells.all CellOkM
theorem size_cases {n : Int} (h : inR n 1 4 = true) : n = 1 ∨ n = 2 ∨ n = 3 ∨ n = 4 := by
  rw [inR_iff] at h; omega

@[simp] theorem spec_BlockOk_eq (b : GBlock) : spec_BlockOk b = some (BlockOkM b) := by
  unfold spec_BlockOk BlockOkM
  simp only [l01In_eq, Option.bind_some]
  cases h : inR b.Size 1 4
  · rfl
  · have hw : wr (b.Size * b.Size) = b.Size * b.Size := by rcases size_cases h with e | e | e | e <;> rw [e] <;> decide
    rw [hw]
    cases hl : ((b.Cells.length : Int) == b.Size * b.Size)
    · have : (((b.Cells.length : Nat) : Int) != b.Size * b.Size) = true := by simp [bne, hl]
      simp [this]
    · have hl' : (b.Cells.length : Int) = b.Size * b.Size := by simpa using hl
      have : (((b.Cells.length : Nat) : Int) != b.Size * b.Size) = false := by simp [bne, hl]
      simp only [this, Bool.not_true, cond_false, Option.bind_some]
      rw [gd_pos (by rcases size_cases h with e | e | e | e <;> rw [e] at hl' <;> omega), forO_all (f := spec_BlockOk_L1 b) (fun k => CellOkM (gx b.Cells k)) (fun k hk => by
        simp only [spec_BlockOk_L1, spec_CellOk_eq, Option.bind_some]; cases CellOkM (gx b.Cells k) <;> rfl), all_gx]
      cases b.Cells.all CellOkM <;> rfl

@[simp] theorem impl_BlockOk_eq (b : GBlock) : impl_BlockOk b = some (BlockOkM b) := by
  unfold impl_BlockOk BlockOkM
  simp only [within_eq, Option.bind_some]
  cases h : inR b.Size 1 4
  · rfl
  · have hw : wr (b.Size * b.Size) = b.Size * b.Size := by rcases size_cases h with e | e | e | e <;> rw [e] <;> decide
    rw [hw]
    cases hl : ((b.Cells.length : Int) == b.Size * b.Size)
    · have : (((b.Cells.length : Nat) : Int) != b.Size * b.Size) = true := by simp [bne, hl]
      simp [this]
    · have hl' : (b.Cells.length : Int) = b.Size * b.Size := by simpa using hl
      have : (((b.Cells.length : Nat) : Int) != b.Size * b.Size) = false := by simp [bne, hl]
      simp only [this, Bool.not_true, cond_false, Option.bind_some]
      rw [gd_pos (by rcases size_cases h with e | e | e | e <;> rw [e] at hl' <;> omega), forO_all (f := impl_BlockOk_L1 b) (fun k => CellOkM (gx b.Cells k)) (fun k hk => by
        simp only [impl_BlockOk_L1, impl_CellOk_eq, Option.bind_some]; cases CellOkM (gx b.Cells k) <;> rfl), all_gx]
      cases b.Cells.all CellOkM <;> rfl

/-- A valid block: its side as a number, and its cells. -/
theorem blockOk_spec {b : GBlock} (h : BlockOkM b = true) : ∃ n : Nat, b.Size = n ∧ 1 ≤ n ∧ n ≤ 4 ∧ b.Cells.length = n * n ∧ ∀ c ∈ b.Cells, CellOkM c = true := by
  simp only [BlockOkM, Bool.and_eq_true, beq_iff_eq, List.all_eq_true] at h
  obtain ⟨⟨h1, h2⟩, h3⟩ := h
  rcases size_cases h1 with e | e | e | e <;> rw [e] at h2
  · exact ⟨1, e, by omega, by omega, by omega, h3⟩
  · exact ⟨2, e, by omega, by omega, by omega, h3⟩
  · exact ⟨3, e, by omega, by omega, by omega, h3⟩
  · exact ⟨4, e, by omega, by omega, by omega, h3⟩
theorem blockOk_of {n : Nat} {cs : List GCell} (h1 : 1 ≤ n) (h2 : n ≤ 4) (hl : cs.length = n * n) (hc : ∀ c ∈ cs, CellOkM c = true) : BlockOkM ⟨n, cs⟩ = true := by
  simp only [BlockOkM, Bool.and_eq_true, beq_iff_eq, List.all_eq_true]
  exact ⟨⟨inR_iff.2 ⟨by omega, by omega⟩, by rw [hl]; simp⟩, hc⟩
theorem blockOk_sm {b : GBlock} (h : BlockOkM b = true) : Sm.ok b := by
  obtain ⟨n, _, h1, h2, hl, _⟩ := blockOk_spec h
  have : n * n ≤ 4 * 4 := Nat.mul_le_mul h2 h2
  exact ⟨by omega, fun _ _ => trivial⟩
theorem zero_sm : Sm.ok (⟨0, []⟩ : GBlock) := ⟨by simp, fun _ h => by simp at h⟩

def TurnCellM (c : GCell) : GCell := bif CellOkM c then (bif c.Split == 1 then ⟨2, c.B, c.A⟩ else bif c.Split == 2 then ⟨1, c.A, c.B⟩ else c) else ⟨0, 0, 0⟩
theorem turnCell_ok {c : GCell} (h : CellOkM c = true) : CellOkM (TurnCellM c) = true := by
  obtain ⟨h1, h2, h3, h4, h5, h6, h7⟩ := cellOk_spec h
  unfold TurnCellM
  rw [h]
  by_cases e1 : c.Split = 1
  · simp only [e1, beq_self_eq_true, cond_true]
    exact cellOk_of (show (0 : Int) ≤ 2 by decide) (show (2 : Int) ≤ 2 by decide) h5 h6 h3 h4 ⟨fun h => by simp at h, fun h => by have := h7.2 h.symm; omega⟩
  · by_cases e2 : c.Split = 2
    · have : (c.Split == 1) = false := by simp [e1]
      simp only [e2, cond_true, cond_false, beq_self_eq_true, show ((2 : Int) == 1) = false from rfl]
      exact cellOk_of (show (0 : Int) ≤ 1 by decide) (show (1 : Int) ≤ 2 by decide) h3 h4 h5 h6 ⟨fun h => by simp at h, fun h => by have := h7.2 h; omega⟩
    · rw [beq_eq_false_iff_ne.2 e1, beq_eq_false_iff_ne.2 e2]; exact h

@[simp] theorem spec_TurnCell_eq (c : GCell) : spec_TurnCell c = some (TurnCellM c) := by
  unfold spec_TurnCell TurnCellM
  simp only [spec_CellOk_eq, Option.bind_some]
  cases CellOkM c <;> cases c.Split == 1 <;> cases c.Split == 2 <;> rfl

@[simp] theorem impl_TurnCell_eq (c : GCell) : impl_TurnCell c = some (TurnCellM c) := by
  unfold impl_TurnCell TurnCellM
  simp only [impl_CellOk_eq, Option.bind_some]
  cases CellOkM c <;> cases c.Split == 1 <;> cases c.Split == 2 <;> rfl

def MirrorCellM (c : GCell) : GCell := bif CellOkM c then (bif c.Split == 0 then c else ⟨3 - c.Split, c.B, c.A⟩) else ⟨0, 0, 0⟩
theorem mirrorCell_ok {c : GCell} (h : CellOkM c = true) : CellOkM (MirrorCellM c) = true := by
  obtain ⟨h1, h2, h3, h4, h5, h6, h7⟩ := cellOk_spec h
  unfold MirrorCellM
  rw [h]
  by_cases e0 : c.Split = 0
  · simp [e0, h]
  · have : (c.Split == 0) = false := by simp [e0]
    simp only [this, cond_true, cond_false]
    exact cellOk_of (by simp only; omega) (by simp only; omega) h5 h6 h3 h4 ⟨fun h => by simp only at h; omega, fun h => absurd (h7.2 h.symm) e0⟩

@[simp] theorem spec_MirrorCell_eq (c : GCell) : spec_MirrorCell c = some (MirrorCellM c) := by
  unfold spec_MirrorCell MirrorCellM
  simp only [spec_CellOk_eq, Option.bind_some]
  cases h : CellOkM c
  · rfl
  · obtain ⟨h1, h2, _⟩ := cellOk_spec h
    rw [wr_of (by omega) (by omega)]
    cases c.Split == 0 <;> rfl

@[simp] theorem impl_MirrorCell_eq (c : GCell) : impl_MirrorCell c = some (MirrorCellM c) := by
  unfold impl_MirrorCell MirrorCellM
  simp only [impl_CellOk_eq, Option.bind_some]
  cases h : CellOkM c
  · rfl
  · obtain ⟨h1, h2, _⟩ := cellOk_spec h
    rw [wr_of (by omega) (by omega)]
    cases c.Split == 0 <;> rfl

def CellAtM (b : GBlock) (x y : Int) : GCell := bif BlockOkM b && inR x 0 (b.Size - 1) && inR y 0 (b.Size - 1) then gx b.Cells (y * b.Size + x).toNat else ⟨0, 0, 0⟩
theorem idx_lt {n y x : Nat} (hy : y < n) (hx : x < n) : y * n + x < n * n := by
  have := Nat.mul_le_mul_right n (show y + 1 ≤ n from hy)
  rw [Nat.add_mul] at this; omega
theorem idx_lt2 {h w y x : Nat} (hy : y < h) (hx : x < w) : y * w + x < h * w := by
  have := Nat.mul_le_mul_right w (show y + 1 ≤ h from hy)
  rw [Nat.add_mul] at this; omega
theorem cellAtM_nat {b : GBlock} {n x y : Nat} (h : BlockOkM b = true) (hn : b.Size = n) (hx : x < n) (hy : y < n) : CellAtM b x y = gx b.Cells (y * n + x) := by
  have e1 : inR (x : Int) 0 (b.Size - 1) = true := inR_iff.2 ⟨by omega, by omega⟩
  have e2 : inR (y : Int) 0 (b.Size - 1) = true := inR_iff.2 ⟨by omega, by omega⟩
  have e3 : ((y : Int) * b.Size + x).toNat = y * n + x := by
    rw [hn]
    have : ((y : Int) * (n : Int) + (x : Int)) = ((y * n + x : Nat) : Int) := by simp
    rw [this, Int.toNat_natCast]
  simp [CellAtM, h, e1, e2, e3]

theorem impl_isPlace_eq (b : GBlock) (x y : Int) : impl_Block_isPlace b x y = some (BlockOkM b && inR x 0 (b.Size - 1) && inR y 0 (b.Size - 1)) := by
  unfold impl_Block_isPlace
  simp only [impl_BlockOk_eq, within_eq, Option.bind_some]
  cases h : BlockOkM b
  · rfl
  · obtain ⟨n, hn, h1, h2, _⟩ := blockOk_spec h
    rw [wr_of (by omega) (by omega)]
    cases inR x 0 (b.Size - 1) <;> cases inR y 0 (b.Size - 1) <;> rfl

@[simp] theorem impl_CellAt_eq (b : GBlock) (x y : Int) : impl_CellAt b x y = some (CellAtM b x y) := by
  unfold impl_CellAt CellAtM
  simp only [impl_isPlace_eq, Option.bind_some]
  cases h : (BlockOkM b && inR x 0 (b.Size - 1) && inR y 0 (b.Size - 1))
  · rfl
  · simp only [Bool.and_eq_true, inR_iff] at h
    obtain ⟨⟨h0, hx⟩, hy⟩ := h
    obtain ⟨n, hn, h1, h2, hl, _⟩ := blockOk_spec h0
    rw [hn] at hx hy ⊢
    obtain ⟨x', rfl⟩ := Int.eq_ofNat_of_zero_le hx.1
    obtain ⟨y', rfl⟩ := Int.eq_ofNat_of_zero_le hy.1
    have hlt : y' * n + x' < n * n := idx_lt (by omega) (by omega)
    have hnn : n * n ≤ 4 * 4 := Nat.mul_le_mul h2 h2
    have hy' : y' * n ≤ n * n := by omega
    have e : wr (wr ((y' : Int) * (n : Int)) + (x' : Int)) = ((y' * n + x' : Nat) : Int) := by
      have : (y' : Int) * (n : Int) = ((y' * n : Nat) : Int) := by simp
      rw [this, wr_of (n := ((y' * n : Nat) : Int)) (by omega) (by omega), wr_of (by omega) (by omega)]; simp
    have e' : ((y' : Int) * (n : Int) + (x' : Int)) = ((y' * n + x' : Nat) : Int) := by simp
    rw [e, e', gd_pos ⟨by omega, by omega⟩]
    rfl

def TurnBlockM (b : GBlock) : GBlock := bif BlockOkM b then ⟨b.Size, cellsM b.Size.toNat b.Size.toNat fun y x => TurnCellM (gx b.Cells ((b.Size.toNat - 1 - x) * b.Size.toNat + y))⟩ else ⟨0, []⟩
theorem turnBlock_ok {b : GBlock} (h : BlockOkM b = true) : BlockOkM (TurnBlockM b) = true := by
  obtain ⟨n, hn, h1, h2, hl, hc⟩ := blockOk_spec h
  unfold TurnBlockM
  rw [h, hn]
  simp only [cond_true, Int.toNat_natCast]
  exact blockOk_of h1 h2 (cellsM_length _ _ _) (cellsM_all fun y x hy hx => turnCell_ok (hc _ (gx_mem (by rw [hl]; exact idx_lt (by omega) hy))))
theorem turnBlock_size (b : GBlock) (h : BlockOkM b = true) : (TurnBlockM b).Size = b.Size := by simp [TurnBlockM, h]
theorem idx_turn {n y x : Nat} (h1 : 1 ≤ n) (h2 : n ≤ 4) (hy : y < n) (hx : x < n) : wr ((wr ((wr ((wr ((n : Int) - 1)) - (x : Int))) * (n : Int))) + (y : Int)) = (((n - 1 - x) * n + y : Nat) : Int) := by
  have hn : n = 1 ∨ n = 2 ∨ n = 3 ∨ n = 4 := by omega
  rcases hn with rfl | rfl | rfl | rfl <;> simp (disch := omega) only [wr_of] <;> omega
theorem idx_mirror {n y x : Nat} (h1 : 1 ≤ n) (h2 : n ≤ 4) (hy : y < n) (hx : x < n) : wr ((wr ((wr ((wr ((y : Int) * (n : Int))) + (n : Int))) - 1)) - (x : Int)) = ((y * n + (n - 1 - x) : Nat) : Int) := by
  have hn : n = 1 ∨ n = 2 ∨ n = 3 ∨ n = 4 := by omega
  rcases hn with rfl | rfl | rfl | rfl <;> simp (disch := omega) only [wr_of] <;> omega

@[simp] theorem spec_TurnBlock_eq (b : GBlock) : spec_TurnBlock b = some (TurnBlockM b) := by
  unfold spec_TurnBlock TurnBlockM
  simp only [spec_BlockOk_eq, Option.bind_some]
  cases h : BlockOkM b
  · rfl
  · obtain ⟨n, hn, h1, h2, hl, hc⟩ := blockOk_spec h
    have hN : b.Size.toNat = n := by rw [hn]; simp
    have hnn : n * n ≤ 4 * 4 := Nat.mul_le_mul h2 h2
    simp only [hN, Bool.not_true, cond_false, cond_true]
    rw [gd_pos (by omega), loop2 (f1 := spec_TurnBlock_L1 b) (f2 := spec_TurnBlock_L2 b) (h := n) (w := n) (fun y x => TurnCellM (gx b.Cells ((n - 1 - x) * n + y))) (fun k s => by simp only [spec_TurnBlock_L1, hN]) (fun y x s hy hx hs => by
      have hlt : (n - 1 - x) * n + y < n * n := idx_lt (by omega) hy
      simp only [spec_TurnBlock_L2, hn, idx_turn h1 h2 hy hx, Int.toNat_natCast, spec_TurnCell_eq, Option.bind_some]
      rw [gd_pos ⟨by omega, by omega⟩, gd_pos (by omega)])]
    rfl

@[simp] theorem impl_TurnBlock_eq (b : GBlock) : impl_TurnBlock b = some (TurnBlockM b) := by
  unfold impl_TurnBlock TurnBlockM
  simp only [impl_BlockOk_eq, Option.bind_some]
  cases h : BlockOkM b
  · rfl
  · obtain ⟨n, hn, h1, h2, hl, hc⟩ := blockOk_spec h
    simp only [Bool.not_true, cond_false, cond_true, hn, Int.toNat_natCast]
    rw [made_eq n _ (fun y x => TurnCellM (gx b.Cells ((n - 1 - x) * n + y))) (by omega) (fun y x hy hx => by
      have e : wr (wr ((n : Int) - 1) - (x : Int)) = ((n - 1 - x : Nat) : Int) := by simp (disch := omega) only [wr_of]; omega
      simp only [impl_TurnBlock_c1, hn, e, impl_CellAt_eq, impl_TurnCell_eq, Option.bind_some]
      rw [cellAtM_nat h hn hy (by omega)])]
    rfl

def MirrorBlockM (b : GBlock) : GBlock := bif BlockOkM b then ⟨b.Size, cellsM b.Size.toNat b.Size.toNat fun y x => MirrorCellM (gx b.Cells (y * b.Size.toNat + (b.Size.toNat - 1 - x)))⟩ else ⟨0, []⟩
theorem mirrorBlock_ok {b : GBlock} (h : BlockOkM b = true) : BlockOkM (MirrorBlockM b) = true := by
  obtain ⟨n, hn, h1, h2, hl, hc⟩ := blockOk_spec h
  unfold MirrorBlockM
  rw [h, hn]
  simp only [cond_true, Int.toNat_natCast]
  exact blockOk_of h1 h2 (cellsM_length _ _ _) (cellsM_all fun y x hy hx => mirrorCell_ok (hc _ (gx_mem (by rw [hl]; exact idx_lt hy (by omega)))))
theorem mirrorBlock_size (b : GBlock) (h : BlockOkM b = true) : (MirrorBlockM b).Size = b.Size := by simp [MirrorBlockM, h]

@[simp] theorem spec_MirrorBlock_eq (b : GBlock) : spec_MirrorBlock b = some (MirrorBlockM b) := by
  unfold spec_MirrorBlock MirrorBlockM
  simp only [spec_BlockOk_eq, Option.bind_some]
  cases h : BlockOkM b
  · rfl
  · obtain ⟨n, hn, h1, h2, hl, hc⟩ := blockOk_spec h
    have hN : b.Size.toNat = n := by rw [hn]; simp
    have hnn : n * n ≤ 4 * 4 := Nat.mul_le_mul h2 h2
    simp only [hN, Bool.not_true, cond_false, cond_true]
    rw [gd_pos (by omega), loop2 (f1 := spec_MirrorBlock_L1 b) (f2 := spec_MirrorBlock_L2 b) (h := n) (w := n) (fun y x => MirrorCellM (gx b.Cells (y * n + (n - 1 - x)))) (fun k s => by simp only [spec_MirrorBlock_L1, hN]) (fun y x s hy hx hs => by
      have hlt : y * n + (n - 1 - x) < n * n := idx_lt hy (by omega)
      simp only [spec_MirrorBlock_L2, hn, idx_mirror h1 h2 hy hx, Int.toNat_natCast, spec_MirrorCell_eq, Option.bind_some]
      rw [gd_pos ⟨by omega, by omega⟩, gd_pos (by omega)])]
    rfl

@[simp] theorem impl_MirrorBlock_eq (b : GBlock) : impl_MirrorBlock b = some (MirrorBlockM b) := by
  unfold impl_MirrorBlock MirrorBlockM
  simp only [impl_BlockOk_eq, Option.bind_some]
  cases h : BlockOkM b
  · rfl
  · obtain ⟨n, hn, h1, h2, hl, hc⟩ := blockOk_spec h
    simp only [Bool.not_true, cond_false, cond_true, hn, Int.toNat_natCast]
    rw [made_eq n _ (fun y x => MirrorCellM (gx b.Cells (y * n + (n - 1 - x)))) (by omega) (fun y x hy hx => by
      have e : wr (wr ((n : Int) - 1) - (x : Int)) = ((n - 1 - x : Nat) : Int) := by simp (disch := omega) only [wr_of]; omega
      simp only [impl_MirrorBlock_c1, hn, e, impl_CellAt_eq, impl_MirrorCell_eq, Option.bind_some]
      rw [cellAtM_nat h hn (by omega) hy])]
    rfl

def turnsM : Nat → GBlock → GBlock
  | 0, b => b
  | k + 1, b => TurnBlockM (turnsM k b)
def SeenM (b : GBlock) (k : Int) : GBlock := bif BlockOkM b && inR k 0 7 then turnsM (k.tmod 4).toNat (bif decide (k ≥ 4) then MirrorBlockM b else b) else ⟨0, []⟩
theorem turns_ok {b : GBlock} (h : BlockOkM b = true) : ∀ k, BlockOkM (turnsM k b) = true ∧ (turnsM k b).Size = b.Size
  | 0 => ⟨h, rfl⟩
  | k + 1 => by
    obtain ⟨h1, h2⟩ := turns_ok h k
    exact ⟨turnBlock_ok h1, by rw [turnsM, turnBlock_size _ h1, h2]⟩
theorem seen_ok {b : GBlock} {k : Int} (h : BlockOkM b = true) (hk : inR k 0 7 = true) : BlockOkM (SeenM b k) = true ∧ (SeenM b k).Size = b.Size := by
  unfold SeenM
  rw [h, hk]
  cases hd : decide (k ≥ 4)
  · exact turns_ok h _
  · obtain ⟨h1, h2⟩ := turns_ok (mirrorBlock_ok h) (k.tmod 4).toNat
    exact ⟨h1, by rw [← mirrorBlock_size b h]; exact h2⟩
theorem tmod4 {k : Int} (hk : inR k 0 7 = true) : (k.tmod 4).toNat ≤ 3 := by
  rw [inR_iff] at hk
  have : k.tmod 4 = k % 4 := by rw [Int.tmod_eq_emod_of_nonneg hk.1]
  omega

@[simp] theorem spec_SeenFrom_eq (b : GBlock) (k : Int) : spec_SeenFrom b k = some (SeenM b k) := by
  unfold spec_SeenFrom SeenM
  simp only [spec_BlockOk_eq, l01In_eq, Option.bind_some]
  cases h : BlockOkM b
  · rfl
  · cases hk : inR k 0 7
    · rfl
    · have hs := (blockOk_sm h).1
      have ht := tmod4 hk
      have hc : spec_l03Copy b = some b := by
        unfold spec_l03Copy
        rw [gd_pos (by simp; omega)]; simp
      simp only [hc, spec_MirrorBlock_eq, Option.bind_some, Bool.not_true, cond_false]
      have key : ∀ b0 : GBlock, lpO spec_SeenFrom_L1 (k.tmod 4).toNat (b0.Size, b0.Cells) = some ((turnsM (k.tmod 4).toNat b0).Size, (turnsM (k.tmod 4).toNat b0).Cells) := fun b0 =>
        lpO_st (fun j => ((turnsM j b0).Size, (turnsM j b0).Cells)) rfl fun j _ => by
          simp only [spec_SeenFrom_L1, spec_TurnBlock_eq, Option.bind_some]; rfl
      cases decide (k ≥ 4) <;> simp only [cond_true, cond_false, Option.bind_some] <;> rw [gd_pos (by omega), key] <;> rfl

@[simp] theorem impl_SeenFrom_eq (b : GBlock) (k : Int) : impl_SeenFrom b k = some (SeenM b k) := by
  unfold impl_SeenFrom SeenM
  simp only [impl_BlockOk_eq, within_eq, Option.bind_some]
  cases h : BlockOkM b
  · rfl
  · cases hk : inR k 0 7
    · rfl
    · have hs := (blockOk_sm h).1
      have ht := tmod4 hk
      have hc : impl_Block_copied b = some b := by
        unfold impl_Block_copied
        rw [gd_pos (by simp; omega)]; simp
      simp only [hc, impl_MirrorBlock_eq, Option.bind_some, Bool.not_true, cond_false]
      have key : ∀ b0 : GBlock, lpO impl_SeenFrom_L1 (k.tmod 4).toNat (b0.Size, b0.Cells) = some ((turnsM (k.tmod 4).toNat b0).Size, (turnsM (k.tmod 4).toNat b0).Cells) := fun b0 =>
        lpO_st (fun j => ((turnsM j b0).Size, (turnsM j b0).Cells)) rfl fun j _ => by
          simp only [impl_SeenFrom_L1, impl_TurnBlock_eq, Option.bind_some]; rfl
      cases decide (k ≥ 4) <;> simp only [cond_true, cond_false, Option.bind_some] <;> rw [gd_pos (by omega), key] <;> rfl

theorem gx_map {α β : Type} [Rep α] [Rep β] (F : α → β) {xs : List α} {k : Nat} (h : k < xs.length) : gx (xs.map F) k = F (gx xs k) := by
  rw [gx_lt (by simpa using h), gx_lt h]; simp

/-- A sum. -/
def isum : List Int → Int
  | [] => 0
  | x :: r => x + isum r
theorem isum_append : ∀ xs ys : List Int, isum (xs ++ ys) = isum xs + isum ys
  | [], ys => by simp [isum]
  | x :: r, ys => by simp [isum, isum_append r ys]; omega
theorem isum_bound {B : Int} : ∀ {xs : List Int}, (∀ x ∈ xs, 0 ≤ x ∧ x ≤ B) → 0 ≤ isum xs ∧ isum xs ≤ B * xs.length
  | [], _ => by simp [isum]
  | x :: r, h => by
    obtain ⟨h1, h2⟩ := isum_bound (xs := r) fun y hy => h y (by simp [hy])
    obtain ⟨h3, h4⟩ := h x (by simp)
    have e : B * ((x :: r).length : Int) = B * r.length + B := by
      rw [List.length_cons, Int.natCast_add, Int.mul_add]; simp
    rw [e]
    simp only [isum]; omega
theorem lpO_sum {f : Nat → Int → Option (Res Int Empty)} {N : Nat} (g : Nat → Int) {s0 B : Int} (h : ∀ k s, k < N → 0 ≤ s → s + B ≤ 4611686018427387904 → f k s = some (.next (s + g k))) (hg : ∀ k, k < N → 0 ≤ g k ∧ g k ≤ B) (hB : 0 ≤ B) (h0 : 0 ≤ s0) (hN : s0 + B * N ≤ 4611686018427387904) : lpO f N s0 = some (s0 + isum ((List.range N).map g)) :=
  lpO_st (fun k => s0 + isum ((List.range k).map g)) (by simp [isum]) fun k hk => by
    have hb := isum_bound (B := B) (xs := (List.range k).map g) fun x hx => by
      simp only [List.mem_map, List.mem_range] at hx
      obtain ⟨i, hi, rfl⟩ := hx
      exact hg i (by omega)
    have hmul : B * ((k + 1 : Nat) : Int) ≤ B * N := Int.mul_le_mul_of_nonneg_left (by omega) hB
    have hm1 : B * ((k + 1 : Nat) : Int) = B * k + B := by rw [Int.natCast_add, Int.mul_add]; simp
    simp only [List.length_map, List.length_range] at hb
    have e : isum ((List.range (k + 1)).map g) = isum ((List.range k).map g) + g k := by
      rw [List.range_succ, List.map_append, isum_append]; simp [isum]
    rw [h k _ hk (by omega) (by omega), e, Int.add_assoc]

def triM (c : GCell) : Int := bif c.Split != 0 then 2 else 0
def CountTriM (b : GBlock) : Int := bif BlockOkM b then isum (b.Cells.map triM) else -1

def arM (a : Int) (c : GCell) : Int := (bif c.A == a then 2 else 0) + (bif c.B == a then 2 else 0)
theorem ar_bound (a : Int) (c : GCell) : 0 ≤ arM a c ∧ arM a c ≤ 4 := by unfold arM; cases c.A == a <;> cases c.B == a <;> simp
def AreaM (b : GBlock) (a : Int) : Int := bif BlockOkM b then isum (b.Cells.map (arM a)) else 0

theorem impl_CellArea_eq {c : GCell} (h : CellOkM c = true) (a : Int) : impl_CellArea c a = some (arM a c) := by
  unfold impl_CellArea arM
  simp only [impl_CellOk_eq, Option.bind_some, h]
  cases c.A == a <;> cases c.B == a <;> rfl

@[simp] theorem impl_AreaOf_eq (b : GBlock) (a : Int) : impl_AreaOf b a = some (AreaM b a) := by
  unfold impl_AreaOf AreaM
  simp only [impl_BlockOk_eq, Option.bind_some]
  cases h : BlockOkM b
  · rfl
  · obtain ⟨n, hn, h1, h2, hl, hc⟩ := blockOk_spec h
    have hnn : n * n ≤ 4 * 4 := Nat.mul_le_mul h2 h2
    simp only [Bool.not_true, cond_false, cond_true]
    rw [gd_pos (by omega), lpO_sum (f := impl_AreaOf_L1 b a) (fun k => arM a (gx b.Cells k)) (B := 4) (fun k s hk g0 g1 => by
      have := ar_bound a (gx b.Cells k)
      simp only [impl_AreaOf_L1, impl_CellArea_eq (hc _ (gx_mem hk)), Option.bind_some]
      rw [wr_of (by omega) (by omega)]) (fun k _ => ar_bound _ _) (by omega) (by omega) (by omega), map_gx]
    simp

/-- What counts the cells alone is the same from all sides. -/
theorem turn_sum (f : GCell → Int) (hf : ∀ c, CellOkM c = true → f (TurnCellM c) = f c) {b : GBlock} (h : BlockOkM b = true) : isum ((TurnBlockM b).Cells.map f) = isum (b.Cells.map f) := by
  obtain ⟨n, hn, h1, h2, hl, hc⟩ := blockOk_spec h
  unfold TurnBlockM
  rw [h, hn]
  simp only [cond_true, Int.toNat_natCast]
  have e : ∀ m, b.Cells.length = m → isum (b.Cells.map f) = isum ((List.range m).map fun i => f (gx b.Cells i)) := by rintro m rfl; rw [map_gx]
  rw [e _ hl]
  have hfi : ∀ i, i < n * n → f (TurnCellM (gx b.Cells i)) = f (gx b.Cells i) := fun i hi => hf _ (hc _ (gx_mem (by omega)))
  have hn' : n = 1 ∨ n = 2 ∨ n = 3 ∨ n = 4 := by omega
  rcases hn' with rfl | rfl | rfl | rfl <;> simp (disch := omega) [cellsM, List.range, List.range.loop, isum, hfi] <;> omega
theorem mirror_sum (f : GCell → Int) (hf : ∀ c, CellOkM c = true → f (MirrorCellM c) = f c) {b : GBlock} (h : BlockOkM b = true) : isum ((MirrorBlockM b).Cells.map f) = isum (b.Cells.map f) := by
  obtain ⟨n, hn, h1, h2, hl, hc⟩ := blockOk_spec h
  unfold MirrorBlockM
  rw [h, hn]
  simp only [cond_true, Int.toNat_natCast]
  have e : ∀ m, b.Cells.length = m → isum (b.Cells.map f) = isum ((List.range m).map fun i => f (gx b.Cells i)) := by rintro m rfl; rw [map_gx]
  rw [e _ hl]
  have hfi : ∀ i, i < n * n → f (MirrorCellM (gx b.Cells i)) = f (gx b.Cells i) := fun i hi => hf _ (hc _ (gx_mem (by omega)))
  have hn' : n = 1 ∨ n = 2 ∨ n = 3 ∨ n = 4 := by omega
  rcases hn' with rfl | rfl | rfl | rfl <;> simp (disch := omega) [cellsM, List.range, List.range.loop, isum, hfi] <;> omega
theorem seen_sum (f : GCell → Int) (ht : ∀ c, CellOkM c = true → f (TurnCellM c) = f c) (hm : ∀ c, CellOkM c = true → f (MirrorCellM c) = f c) {b : GBlock} {k : Int} (h : BlockOkM b = true) (hk : inR k 0 7 = true) : isum ((SeenM b k).Cells.map f) = isum (b.Cells.map f) := by
  have turns : ∀ (b0 : GBlock), BlockOkM b0 = true → ∀ j, isum ((turnsM j b0).Cells.map f) = isum (b0.Cells.map f) := fun b0 h0 j => by
    induction j with
    | zero => rfl
    | succ j ih => rw [turnsM, turn_sum f ht (turns_ok h0 j).1, ih]
  unfold SeenM
  rw [h, hk]
  cases decide (k ≥ 4)
  · exact turns b h _
  · exact (turns _ (mirrorBlock_ok h) _).trans (mirror_sum f hm h)

theorem tri_turn {c : GCell} (h : CellOkM c = true) : triM (TurnCellM c) = triM c := by
  unfold TurnCellM triM
  rw [h]
  by_cases e1 : c.Split = 1
  · simp [e1]
  · by_cases e2 : c.Split = 2
    · simp [e2]
    · rw [beq_eq_false_iff_ne.2 e1, beq_eq_false_iff_ne.2 e2]; rfl
theorem tri_mirror {c : GCell} (h : CellOkM c = true) : triM (MirrorCellM c) = triM c := by
  obtain ⟨h1, h2, _⟩ := cellOk_spec h
  unfold MirrorCellM triM
  rw [h]
  by_cases e0 : c.Split = 0
  · simp [e0]
  · have : (3 - c.Split != 0) = true := by simp; omega
    have e : (c.Split != 0) = true := by simp [e0]
    rw [beq_eq_false_iff_ne.2 e0, e]
    simp only [cond_true, cond_false, this]
theorem ar_turn (a : Int) {c : GCell} (h : CellOkM c = true) : arM a (TurnCellM c) = arM a c := by
  unfold TurnCellM arM
  rw [h]
  by_cases e1 : c.Split = 1
  · simp only [e1, cond_true, beq_self_eq_true]; omega
  · by_cases e2 : c.Split = 2
    · simp [e2]
    · rw [beq_eq_false_iff_ne.2 e1, beq_eq_false_iff_ne.2 e2]; rfl
theorem ar_mirror (a : Int) {c : GCell} (h : CellOkM c = true) : arM a (MirrorCellM c) = arM a c := by
  unfold MirrorCellM arM
  rw [h]
  by_cases e0 : c.Split = 0
  · simp [e0]
  · have : (c.Split == 0) = false := by simp [e0]
    simp only [this, cond_true, cond_false]; omega
theorem area_seen {b : GBlock} {k : Int} (a : Int) (h : BlockOkM b = true) (hk : inR k 0 7 = true) : AreaM (SeenM b k) a = AreaM b a := by
  unfold AreaM
  rw [h, (seen_ok h hk).1]
  exact seen_sum _ (fun c hc => ar_turn a hc) (fun c hc => ar_mirror a hc) h hk
theorem countTri_seen {b : GBlock} {k : Int} (h : BlockOkM b = true) (hk : inR k 0 7 = true) : CountTriM (SeenM b k) = CountTriM b := by
  unfold CountTriM
  rw [h, (seen_ok h hk).1]
  exact seen_sum _ (fun c hc => tri_turn hc) (fun c hc => tri_mirror hc) h hk

def sumN (m : Nat) (F : Nat → Int) : Int := isum ((List.range m).map F)
theorem sumN_zero (F : Nat → Int) : sumN 0 F = 0 := rfl
theorem sumN_succ (m : Nat) (F : Nat → Int) : sumN (m + 1) F = sumN m F + F m := by
  unfold sumN
  rw [List.range_succ, List.map_append, isum_append]; simp [isum]
theorem sumN_add (m : Nat) (F G : Nat → Int) : sumN m (fun i => F i + G i) = sumN m F + sumN m G := by
  induction m with
  | zero => rfl
  | succ m ih => rw [sumN_succ, sumN_succ, sumN_succ, ih]; omega
theorem sumN_congr {m : Nat} {F G : Nat → Int} (h : ∀ i, i < m → F i = G i) : sumN m F = sumN m G := by
  unfold sumN
  congr 1
  exact List.map_congr_left fun i hi => h i (by simpa using hi)
theorem sumN_nil (m : Nat) : sumN m (fun _ => 0) = 0 := by
  induction m with
  | zero => rfl
  | succ m ih => rw [sumN_succ, ih]; rfl
theorem sumN_one {m b : Nat} (g : Nat → Int) (hb : b < m) : sumN m (fun i => (bif b == i then 1 else 0) * g i) = g b := by
  induction m with
  | zero => omega
  | succ m ih =>
    rw [sumN_succ]
    rcases Nat.lt_or_ge b m with h | h
    · rw [ih h]
      have : (b == m) = false := by simp; omega
      simp [this]
    · have e : b = m := by omega
      subst e
      have : sumN b (fun i => (bif b == i then 1 else 0) * g i) = 0 := by
        rw [sumN_congr (G := fun _ => 0), sumN_nil]
        intro i hi
        have : (b == i) = false := by simp; omega
        simp [this]
      rw [this]; simp
theorem sumN_bound {m : Nat} {F : Nat → Int} {B : Int} (h : ∀ i, i < m → 0 ≤ F i ∧ F i ≤ B) : 0 ≤ sumN m F ∧ sumN m F ≤ B * m := by
  have := isum_bound (B := B) (xs := (List.range m).map F) fun x hx => by
    simp only [List.mem_map, List.mem_range] at hx
    obtain ⟨i, hi, rfl⟩ := hx
    exact h i hi
  simpa [sumN] using this
theorem sumN_gx {α : Type} [Rep α] (f : α → Int) (xs : List α) : sumN xs.length (fun k => f (gx xs k)) = isum (xs.map f) := by
  unfold sumN; rw [map_gx]

theorem gx_range {α : Type} [Rep α] (F : Nat → α) {m i : Nat} (h : i < m) : gx ((List.range m).map F) i = F i := by
  rw [gx_lt (by simpa using h)]; simp

def digM (a : Int) : UInt8 := UInt8.ofNat (48 + a.toNat)
theorem digM_inj {a b : Int} (h1 : 0 ≤ a) (h2 : a ≤ 5) (h3 : 0 ≤ b) (h4 : b ≤ 5) (h : digM a = digM b) : a = b := by
  have ha : a = 0 ∨ a = 1 ∨ a = 2 ∨ a = 3 ∨ a = 4 ∨ a = 5 := by omega
  have hb : b = 0 ∨ b = 1 ∨ b = 2 ∨ b = 3 ∨ b = 4 ∨ b = 5 := by omega
  rcases ha with rfl | rfl | rfl | rfl | rfl | rfl <;> rcases hb with rfl | rfl | rfl | rfl | rfl | rfl <;> first | rfl | exact absurd h (by decide)
def cellTextM (c : GCell) : List UInt8 := bif c.Split == 1 then [digM c.A, 47, digM c.B] else bif c.Split == 2 then [digM c.A, 92, digM c.B] else [digM c.A]
theorem cellText_inj {c d : GCell} {r q : List UInt8} (hc : CellOkM c = true) (hd : CellOkM d = true) (h : (cellTextM c ++ [59]) ++ r = (cellTextM d ++ [59]) ++ q) : c = d ∧ r = q := by
  obtain ⟨c1, c2, c3, c4, c5, c6, c7⟩ := cellOk_spec hc
  obtain ⟨d1, d2, d3, d4, d5, d6, d7⟩ := cellOk_spec hd
  obtain ⟨cs, ca, cb⟩ := c
  obtain ⟨ds, da, db⟩ := d
  simp only at c1 c2 c3 c4 c5 c6 c7 d1 d2 d3 d4 d5 d6 d7
  have hcs : cs = 0 ∨ cs = 1 ∨ cs = 2 := by omega
  have hds : ds = 0 ∨ ds = 1 ∨ ds = 2 := by omega
  rcases hcs with rfl | rfl | rfl <;> rcases hds with rfl | rfl | rfl <;> simp [cellTextM] at h
  · obtain ⟨e1, e2⟩ := h
    have := digM_inj c3 c4 d3 d4 e1
    have h1 := c7.1 rfl
    have h2 := d7.1 rfl
    subst this; subst h1; subst h2
    exact ⟨rfl, e2⟩
  · obtain ⟨e1, e2, e3⟩ := h
    have := digM_inj c3 c4 d3 d4 e1
    have h2 := digM_inj c5 c6 d5 d6 e2
    subst this; subst h2
    exact ⟨rfl, e3⟩
  · obtain ⟨e1, e2, e3⟩ := h
    have := digM_inj c3 c4 d3 d4 e1
    have h2 := digM_inj c5 c6 d5 d6 e2
    subst this; subst h2
    exact ⟨rfl, e3⟩
def cellsTextM (l : List GCell) : List UInt8 := l.flatMap fun c => cellTextM c ++ [59]
theorem cellsText_inj : ∀ {l m : List GCell}, (∀ c ∈ l, CellOkM c = true) → (∀ c ∈ m, CellOkM c = true) → cellsTextM l = cellsTextM m → l = m
  | [], [], _, _, _ => rfl
  | [], d :: m, _, _, h => by simp [cellsTextM] at h
  | c :: l, [], _, _, h => by simp [cellsTextM] at h
  | c :: l, d :: m, hl, hm, h => by
    have h' : (cellTextM c ++ [59]) ++ cellsTextM l = (cellTextM d ++ [59]) ++ cellsTextM m := by simpa [cellsTextM] using h
    obtain ⟨e1, e2⟩ := cellText_inj (hl c (by simp)) (hm d (by simp)) h'
    rw [e1, cellsText_inj (fun x hx => hl x (by simp [hx])) (fun x hx => hm x (by simp [hx])) e2]
def textM (b : GBlock) : Str := ⟨bif BlockOkM b then cellsTextM b.Cells else []⟩
theorem text_inj {b d : GBlock} (hb : BlockOkM b = true) (hd : BlockOkM d = true) (h : textM b = textM d) : b = d := by
  obtain ⟨n, hn, h1, h2, hl, hc⟩ := blockOk_spec hb
  obtain ⟨m, hm, g1, g2, gl, gc⟩ := blockOk_spec hd
  have e : cellsTextM b.Cells = cellsTextM d.Cells := by
    have := congrArg Str.b h
    simpa [textM, hb, hd] using this
  have e2 := cellsText_inj hc gc e
  have e3 : n * n = m * m := by rw [← hl, ← gl, e2]
  have e4 : n = m := by
    have hn' : n = 1 ∨ n = 2 ∨ n = 3 ∨ n = 4 := by omega
    have hm' : m = 1 ∨ m = 2 ∨ m = 3 ∨ m = 4 := by omega
    rcases hn' with rfl | rfl | rfl | rfl <;> rcases hm' with rfl | rfl | rfl | rfl <;> simp_all
  obtain ⟨bs, bc⟩ := b
  obtain ⟨ds, dc⟩ := d
  simp only at hn hm e2
  rw [hn, hm, e4, e2]
theorem cellText_len (c : GCell) : (cellTextM c).length ≤ 3 := by
  unfold cellTextM
  cases c.Split == 1 <;> cases c.Split == 2 <;> simp
theorem cellsText_len (l : List GCell) : (cellsTextM l).length ≤ 4 * l.length := by
  induction l with
  | nil => simp [cellsTextM]
  | cons c l ih =>
    have := cellText_len c
    simp only [cellsTextM, List.flatMap_cons, List.length_append, List.length_cons, List.length_nil] at ih ⊢
    omega
theorem text_len {b : GBlock} : (textM b).b.length ≤ 64 := by
  unfold textM
  cases h : BlockOkM b
  · simp
  · obtain ⟨n, hn, h1, h2, hl, hc⟩ := blockOk_spec h
    have := cellsText_len b.Cells
    have hnn : n * n ≤ 4 * 4 := Nat.mul_le_mul h2 h2
    simp only [cond_true]
    omega
theorem textM_eq {b d : GBlock} (hb : BlockOkM b = true) (hd : BlockOkM d = true) : (textM b = textM d) ↔ b = d := ⟨text_inj hb hd, fun h => by rw [h]⟩

def sameCellM (c d : GCell) : Bool := c.Split == d.Split && c.A == d.A && c.B == d.B
theorem sameCell_iff {c d : GCell} : sameCellM c d = true ↔ c = d := by
  obtain ⟨a, b, e⟩ := c
  obtain ⟨a', b', e'⟩ := d
  simp [sameCellM, and_assoc]
theorem beqs3 (a b c d e f : Int) : beqs [a, b, c] [d, e, f] = (a == d && b == e && c == f) := by simp [beqs, Bool.and_assoc]
def SameBlockM (b d : GBlock) : Bool := b.Size == d.Size && b.Cells.length == d.Cells.length && (List.range b.Cells.length).all fun k => sameCellM (gx b.Cells k) (gx d.Cells k)
theorem sameBlock_iff {b d : GBlock} : SameBlockM b d = true ↔ b = d := by
  constructor
  · intro h
    simp only [SameBlockM, Bool.and_eq_true, beq_iff_eq, List.all_eq_true, List.mem_range, sameCell_iff] at h
    obtain ⟨⟨h1, h2⟩, h3⟩ := h
    have := gx_ext h2 h3
    obtain ⟨s, c⟩ := b
    obtain ⟨s', c'⟩ := d
    simp_all
  · rintro rfl
    simp [SameBlockM, sameCell_iff]
theorem sameBlock_refl (b : GBlock) : SameBlockM b b = true := sameBlock_iff.2 rfl
theorem nat_beq_int (a b : Nat) : ((a : Int) == (b : Int)) = (a == b) := by
  rw [Bool.eq_iff_iff, beq_iff_eq, beq_iff_eq]; omega

theorem impl_SameBlock_eq {b d : GBlock} (hb : b.Cells.length ≤ 1048576) : impl_SameBlock b d = some (SameBlockM b d) := by
  unfold impl_SameBlock SameBlockM
  simp only [bne, nat_beq_int]
  cases h1 : b.Size == d.Size
  · simp
  cases h2 : b.Cells.length == d.Cells.length
  · simp
  have h2' : b.Cells.length = d.Cells.length := by simpa using h2
  simp only [Bool.not_true, Bool.or_self, cond_false, Bool.and_self, Bool.true_and]
  rw [gd_pos (by omega), forO_all (f := impl_SameBlock_L1 b d) (c := false) (fun k => sameCellM (gx b.Cells k) (gx d.Cells k)) (fun k hk => by
    simp only [impl_SameBlock_L1, beqs3]
    rw [gd_pos (by omega)]
    unfold sameCellM
    cases ((gx b.Cells k).Split == (gx d.Cells k).Split && (gx b.Cells k).A == (gx d.Cells k).A && (gx b.Cells k).B == (gx d.Cells k).B) <;> rfl)]
  cases (List.range b.Cells.length).all fun k => sameCellM (gx b.Cells k) (gx d.Cells k) <;> rfl

theorem spec_SameBlock_eq {b d : GBlock} (hb : b.Cells.length ≤ 1048576) : spec_SameBlock b d = some (SameBlockM b d) := by
  unfold spec_SameBlock SameBlockM
  simp only [bne, nat_beq_int]
  cases h1 : b.Size == d.Size
  · simp
  cases h2 : b.Cells.length == d.Cells.length
  · simp
  have h2' : b.Cells.length = d.Cells.length := by simpa using h2
  simp only [Bool.not_true, Bool.or_self, cond_false, Bool.and_self, Bool.true_and]
  rw [gd_pos (by omega), forO_all (f := spec_SameBlock_L1 b d) (c := false) (fun k => sameCellM (gx b.Cells k) (gx d.Cells k)) (fun k hk => by
    simp only [spec_SameBlock_L1, beqs3]
    rw [gd_pos (by omega)]
    unfold sameCellM
    cases ((gx b.Cells k).Split == (gx d.Cells k).Split && (gx b.Cells k).A == (gx d.Cells k).A && (gx b.Cells k).B == (gx d.Cells k).B) <;> rfl)]
  cases (List.range b.Cells.length).all fun k => sameCellM (gx b.Cells k) (gx d.Cells k) <;> rfl

theorem spec_FormatInt_small {a : Int} (h0 : 0 ≤ a) (h1 : a ≤ 5) : spec_FormatInt a = some ⟨[digM a]⟩ := by
  have ha : a = 0 ∨ a = 1 ∨ a = 2 ∨ a = 3 ∨ a = 4 ∨ a = 5 := by omega
  have key : ∀ (s s' s'' : Int × Str), spec_FormatInt_L1 s = some (.next s') → spec_FormatInt_L1 s' = some (.brk s'') → wlO spec_FormatInt_L1 18446744073709551616 s = some s'' := fun s s' s'' h1 h2 => by
    have : ∀ n, wlO spec_FormatInt_L1 (n + 2) s = some s'' := fun n => by
      unfold wlO
      rw [whO, h1]
      simp only [Option.bind_some]
      rw [whO, h2]
      rfl
    exact this 18446744073709551614
  rcases ha with rfl | rfl | rfl | rfl | rfl | rfl
  · rfl
  · unfold spec_FormatInt
    rw [key (1, ⟨[]⟩) (0, ⟨[49]⟩) (0, ⟨[49]⟩) rfl rfl]; rfl
  · unfold spec_FormatInt
    rw [key (2, ⟨[]⟩) (0, ⟨[50]⟩) (0, ⟨[50]⟩) rfl rfl]; rfl
  · unfold spec_FormatInt
    rw [key (3, ⟨[]⟩) (0, ⟨[51]⟩) (0, ⟨[51]⟩) rfl rfl]; rfl
  · unfold spec_FormatInt
    rw [key (4, ⟨[]⟩) (0, ⟨[52]⟩) (0, ⟨[52]⟩) rfl rfl]; rfl
  · unfold spec_FormatInt
    rw [key (5, ⟨[]⟩) (0, ⟨[53]⟩) (0, ⟨[53]⟩) rfl rfl]; rfl

theorem spec_CellText_eq {c : GCell} (h : CellOkM c = true) : spec_CellText c = some ⟨cellTextM c⟩ := by
  obtain ⟨h1, h2, h3, h4, h5, h6, h7⟩ := cellOk_spec h
  unfold spec_CellText cellTextM
  simp only [spec_CellOk_eq, h, spec_FormatInt_small h3 h4, spec_FormatInt_small h5 h6, Option.bind_some, Bool.not_true, cond_false]
  cases c.Split == 1
  · cases c.Split == 2
    · rfl
    · simp only [cond_true, cond_false]
      rw [gd_pos (by simp), gd_pos (by simp [sadd])]; rfl
  · simp only [cond_true]
    rw [gd_pos (by simp), gd_pos (by simp [sadd])]; rfl

theorem spec_TextOf_eq {b : GBlock} (h : BlockOkM b = true) : spec_TextOf b = some (textM b) := by
  obtain ⟨n, hn, h1, h2, hl, hc⟩ := blockOk_spec h
  have hnn : n * n ≤ 4 * 4 := Nat.mul_le_mul h2 h2
  unfold spec_TextOf
  rw [gd_pos (by omega), lpO_st (f := spec_TextOf_L1 b) (s0 := (⟨[]⟩ : Str)) (fun k => (⟨cellsTextM (b.Cells.take k)⟩ : Str)) rfl (fun k hk => by
    have hx := hc _ (gx_mem hk)
    have hlen := cellsText_len (b.Cells.take k)
    have hlen2 : (b.Cells.take k).length ≤ 16 := by simp; omega
    have hlen3 := cellText_len (gx b.Cells k)
    simp only [spec_TextOf_L1, spec_BlockOk_eq, h, cond_true, Option.bind_some, spec_CellText_eq hx]
    rw [gd_pos (by omega), gd_pos (by simp only [sadd, List.length_append, List.length_cons, List.length_nil]; omega)]
    rw [List.take_succ_eq_append_getElem hk, ← gx_lt hk]
    simp [sadd, cellsTextM])]
  simp [textM, h]

theorem text_seq {b d : GBlock} (hb : BlockOkM b = true) (hd : BlockOkM d = true) : seq (textM b) (textM d) = SameBlockM b d := by
  rw [Bool.eq_iff_iff, sameBlock_iff]
  unfold seq
  rw [beq_iff_eq]
  constructor
  · intro h
    exact text_inj hb hd (by
      revert h
      cases textM b; cases textM d
      intro h
      simp only at h
      rw [h])
  · intro h; rw [h]

theorem tdiv_nat (a b : Nat) : ((a : Int)).tdiv (b : Int) = ((a / b : Nat) : Int) := rfl
theorem tmod_nat (a b : Nat) : ((a : Int)).tmod (b : Int) = ((a % b : Nat) : Int) := rfl
def tgtM (w h dx dy i : Nat) : Nat := (i / w + dy) % h * w + (i % w + dx) % w
def sameAtM (l : List GBlock) (w h dx dy : Nat) : Bool := (List.range (h * w)).all fun i => SameBlockM (gx l i) (gx l (tgtM w h dx dy i))
theorem all_grid {h w : Nat} (P : Nat → Nat → Bool) (hw : 0 < w) : ((List.range (h * w)).all fun i => P (i / w) (i % w)) = (List.range h).all fun y => (List.range w).all fun x => P y x := by
  rw [Bool.eq_iff_iff]
  simp only [List.all_eq_true, List.mem_range]
  constructor
  · intro H y hy x hx
    have := H (y * w + x) (idx_lt2 hy hx)
    rwa [show (y * w + x) / w = y by rw [Nat.mul_comm, Nat.mul_add_div hw, Nat.div_eq_of_lt hx]; rfl, show (y * w + x) % w = x by rw [Nat.mul_comm, Nat.mul_add_mod, Nat.mod_eq_of_lt hx]] at this
  · intro H i hi
    exact H _ ((Nat.div_lt_iff_lt_mul hw).2 hi) _ (Nat.mod_lt _ hw)
theorem sameAt_grid {l : List GBlock} {w h dx dy : Nat} (hw : 0 < w) : sameAtM l w h dx dy = (List.range h).all fun y => (List.range w).all fun x => SameBlockM (gx l (y * w + x)) (gx l ((y + dy) % h * w + (x + dx) % w)) := by
  rw [← all_grid (fun y x => SameBlockM (gx l (y * w + x)) (gx l ((y + dy) % h * w + (x + dx) % w))) hw]
  unfold sameAtM tgtM
  congr 1
  funext i
  congr 2
  rw [Nat.mul_comm]
  exact (Nat.div_add_mod i w).symm
theorem tgt_lt {w h dx dy i : Nat} (hw : 0 < w) (hh : 0 < h) : tgtM w h dx dy i < h * w := idx_lt2 (Nat.mod_lt _ hh) (Nat.mod_lt _ hw)

def addU (acc : List Int) (a : Int) : List Int := bif acc.contains a then acc else acc ++ [a]
theorem addU_nodup {acc : List Int} (h : acc.Nodup) (a : Int) : (addU acc a).Nodup := by
  unfold addU
  cases hc : acc.contains a
  · have hn : ¬ a ∈ acc := by
      intro hm
      have := List.contains_iff_mem.2 hm
      rw [hc] at this; cases this
    simp only [cond_false]
    rw [List.nodup_append]
    refine ⟨h, by simp, ?_⟩
    intro x hx y hy e
    simp only [List.mem_singleton] at hy
    subst hy; subst e
    exact hn hx
  · exact h
theorem addU_mem {acc : List Int} {a x : Int} : x ∈ addU acc a ↔ x ∈ acc ∨ x = a := by
  unfold addU
  cases hc : acc.contains a
  · simp
  · have hm : a ∈ acc := List.contains_iff_mem.1 hc
    simp only [cond_true]
    constructor
    · exact Or.inl
    · rintro (h | rfl)
      · exact h
      · exact hm
theorem fold_addU : ∀ (l acc : List Int), acc.Nodup → (l.foldl addU acc).Nodup ∧ ∀ x, x ∈ l.foldl addU acc ↔ x ∈ acc ∨ x ∈ l
  | [], acc, h => ⟨h, fun x => by simp⟩
  | a :: l, acc, h => by
    obtain ⟨h1, h2⟩ := fold_addU l (addU acc a) (addU_nodup h a)
    refine ⟨h1, fun x => ?_⟩
    rw [List.foldl_cons, h2, addU_mem]
    simp [or_assoc]
def useSeq (b : GBlock) : List Int := b.Cells.flatMap fun c => [c.A, c.B]
def six : List Int := [0, 1, 2, 3, 4, 5]
theorem mem_six {x : Int} : x ∈ six ↔ 0 ≤ x ∧ x ≤ 5 := by
  simp only [six, List.mem_cons, List.not_mem_nil, or_false]; omega
def ord6 (b : GBlock) : List Int := (useSeq b ++ six).foldl addU []
theorem mem_useSeq {b : GBlock} {x : Int} : x ∈ useSeq b ↔ ∃ c ∈ b.Cells, x = c.A ∨ x = c.B := by simp [useSeq]
theorem ord6_ok {b : GBlock} (h : BlockOkM b = true) : (ord6 b).Nodup ∧ (∀ x, x ∈ ord6 b ↔ 0 ≤ x ∧ x ≤ 5) ∧ (ord6 b).length = 6 := by
  obtain ⟨n, hn, h1, h2, hl, hc⟩ := blockOk_spec h
  obtain ⟨g1, g2⟩ := fold_addU (useSeq b ++ six) [] (by simp)
  have g3 : ∀ x, x ∈ ord6 b ↔ 0 ≤ x ∧ x ≤ 5 := fun x => by
    unfold ord6
    rw [g2]
    simp only [List.not_mem_nil, false_or, List.mem_append, mem_six]
    constructor
    · rintro (h | h)
      · obtain ⟨c, hm, h⟩ := mem_useSeq.1 h
        obtain ⟨c1, c2, c3, c4, c5, c6, _⟩ := cellOk_spec (hc c hm)
        rcases h with rfl | rfl <;> omega
      · exact h
    · exact Or.inr
  refine ⟨g1, g3, ?_⟩
  have p : (ord6 b).Perm six := (List.perm_ext_iff_of_nodup (show (ord6 b).Nodup from g1) (by decide)).2 fun x => by rw [g3, mem_six]
  exact p.length_eq

/-- The first index of a number, -1 if there is none. -/
def idxM (l : List Int) (n : Int) : Int := match (List.range l.length).find? (fun k => gx l k == n) with | some k => (k : Int) | none => -1
theorem idxM_cases (l : List Int) (n : Int) : (¬ n ∈ l ∧ idxM l n = -1) ∨ ∃ k : Nat, k < l.length ∧ idxM l n = k ∧ gx l k = n := by
  unfold idxM
  cases h : (List.range l.length).find? (fun k => gx l k == n) with
  | none =>
    left
    refine ⟨fun hm => ?_, rfl⟩
    obtain ⟨i, hi, rfl⟩ := List.getElem_of_mem hm
    rw [List.find?_eq_none] at h
    exact h i (by simpa using hi) (by simp [gx_lt hi])
  | some k =>
    right
    refine ⟨k, by simpa using List.mem_of_find?_eq_some h, rfl, by simpa using List.find?_some h⟩
theorem idxM_neg {l : List Int} {n : Int} : idxM l n < 0 ↔ ¬ n ∈ l := by
  rcases idxM_cases l n with ⟨h1, h2⟩ | ⟨k, h1, h2, h3⟩
  · simp [h1, h2]
  · constructor
    · intro h; omega
    · intro h; exact absurd (h3 ▸ gx_mem h1) h
theorem idxM_of {l : List Int} (hn : l.Nodup) {k : Nat} (hk : k < l.length) : idxM l (gx l k) = k := by
  rcases idxM_cases l (gx l k) with ⟨h1, h2⟩ | ⟨j, h1, h2, h3⟩
  · exact absurd (gx_mem hk) h1
  · rw [h2]
    rw [gx_lt h1, gx_lt hk] at h3
    have := (List.getElem_inj hn).1 h3
    rw [this]
theorem idxM_contains (l : List Int) (n : Int) : decide (idxM l n < 0) = !(l.contains n) := by
  rw [Bool.eq_iff_iff]
  simp [idxM_neg]
theorem gx_append_left {α : Type} [Rep α] {l m : List α} {k : Nat} (h : k < l.length) : gx (l ++ m) k = gx l k := by
  unfold gx List.getD
  rw [List.getElem?_append_left h]
theorem idxM_append {l : List Int} (m : List Int) {n : Int} (hn : (l ++ m).Nodup) (h : n ∈ l) : idxM (l ++ m) n = idxM l n := by
  rcases idxM_cases l n with ⟨h1, h2⟩ | ⟨k, h1, h2, h3⟩
  · exact absurd h h1
  · rw [h2, ← h3, ← gx_append_left (m := m) h1, idxM_of hn (by simp; omega)]
theorem idxM_last {l : List Int} {n : Int} (hn : (l ++ [n]).Nodup) : idxM (l ++ [n]) n = l.length := by
  have := idxM_of hn (k := l.length) (by simp)
  have e : gx (l ++ [n]) l.length = n := by simp [gx, List.getD]
  rwa [e] at this
def FirstUseM (b : GBlock) : List Int := bif BlockOkM b then (List.range 6).map fun a : Nat => idxM (ord6 b) (a : Int) else []
theorem firstUse_len {b : GBlock} (h : BlockOkM b = true) : (FirstUseM b).length = 6 := by simp [FirstUseM, h]
theorem firstUse_in {b : GBlock} (h : BlockOkM b = true) : ∀ x ∈ FirstUseM b, 0 ≤ x ∧ x ≤ 5 := by
  obtain ⟨g1, g2, g3⟩ := ord6_ok h
  intro x hx
  simp only [FirstUseM, h, cond_true, List.mem_map, List.mem_range] at hx
  obtain ⟨a, ha, rfl⟩ := hx
  rcases idxM_cases (ord6 b) (a : Int) with ⟨h1, h2⟩ | ⟨k, h1, h2, h3⟩
  · exact absurd ((g2 _).2 ⟨by omega, by omega⟩) h1
  · omega

def ListOkM (l : List Int) : Bool := l.length == 6 && l.all fun a => inR a 0 5
theorem listOk_spec {l : List Int} (h : ListOkM l = true) : l.length = 6 ∧ ∀ a ∈ l, 0 ≤ a ∧ a ≤ 5 := by
  simp only [ListOkM, Bool.and_eq_true, beq_iff_eq, List.all_eq_true, inR_iff] at h
  exact h
theorem listOk_of {l : List Int} (h : l.length = 6) (h2 : ∀ a ∈ l, 0 ≤ a ∧ a ≤ 5) : ListOkM l = true := by
  simp only [ListOkM, Bool.and_eq_true, beq_iff_eq, List.all_eq_true, inR_iff]
  exact ⟨h, h2⟩
theorem firstUse_ok {b : GBlock} (h : BlockOkM b = true) : ListOkM (FirstUseM b) = true := listOk_of (firstUse_len h) (firstUse_in h)
theorem splitCell_ok (s a b : Int) : CellOkM (SplitCellM s a b) = true := by
  unfold SplitCellM WholeCellM
  cases h : a == b
  · cases h2 : CellOkM ⟨s, a, b⟩
    · rfl
    · exact h2
  · cases h2 : inR a 0 5
    · rfl
    · have := inR_iff.1 h2
      exact cellOk_of (by simp) (by simp) this.1 this.2 this.1 this.2 (by simp)
def ExchangeCellM (c : GCell) (l : List Int) : GCell := bif CellOkM c && ListOkM l then SplitCellM c.Split (gx l c.A.toNat) (gx l c.B.toNat) else ⟨0, 0, 0⟩
theorem exchangeCell_ok (c : GCell) (l : List Int) : CellOkM (ExchangeCellM c l) = true := by
  unfold ExchangeCellM
  cases CellOkM c && ListOkM l
  · rfl
  · exact splitCell_ok _ _ _
def ExchangeM (b : GBlock) (l : List Int) : GBlock × Bool := bif BlockOkM b && ListOkM l then (⟨b.Size, b.Cells.map fun c => ExchangeCellM c l⟩, true) else (b, false)
theorem exchange_ok {b : GBlock} (h : BlockOkM b = true) (l : List Int) : BlockOkM (ExchangeM b l).1 = true ∧ (ExchangeM b l).1.Size = b.Size := by
  unfold ExchangeM
  cases hc : BlockOkM b && ListOkM l
  · exact ⟨h, rfl⟩
  · obtain ⟨n, hn, h1, h2, hl, hcs⟩ := blockOk_spec h
    refine ⟨?_, rfl⟩
    rw [hn]
    exact blockOk_of h1 h2 (by simpa using hl) (fun c hm => by
      simp only [List.mem_map] at hm
      obtain ⟨d, _, rfl⟩ := hm
      exact exchangeCell_ok d l)
def PlainM (b : GBlock) : GBlock := (ExchangeM b (FirstUseM b)).1
theorem plain_ok {b : GBlock} (h : BlockOkM b = true) : BlockOkM (PlainM b) = true ∧ (PlainM b).Size = b.Size := exchange_ok h _
theorem cells_grid {α β : Type} [Rep α] (F : α → β) {n : Nat} {l : List α} (hl : l.length = n * n) : (cellsM n n fun y x => F (gx l (y * n + x))) = l.map F := by
  apply List.ext_getElem
  · rw [cellsM_length]; simp [hl]
  · intro i h1 h2
    have hi : i < n * n := by rw [cellsM_length] at h1; exact h1
    have hn : 0 < n := by
      rcases Nat.eq_zero_or_pos n with h | h
      · subst h; simp at hi
      · exact h
    have hd : i / n * n + i % n = i := by rw [Nat.mul_comm]; exact Nat.div_add_mod i n
    have key : ∀ (h w : Nat) (G : Nat → Nat → β) (y x : Nat), y < h → x < w → (cellsM h w G)[y * w + x]? = some (G y x) := by
      intro h w G y x hy hx
      induction h with
      | zero => omega
      | succ h ih =>
        rw [cellsM_succ]
        rcases Nat.lt_or_ge y h with hlt | hge
        · rw [List.getElem?_append_left (by rw [cellsM_length]; exact idx_lt2 hlt hx)]
          exact ih hlt
        · have e : y = h := by omega
          subst e
          rw [List.getElem?_append_right (by rw [cellsM_length]; omega), cellsM_length]
          simp [hx]
    have k1 := key n n (fun y x => F (gx l (y * n + x))) (i / n) (i % n) ((Nat.div_lt_iff_lt_mul hn).2 hi) (Nat.mod_lt _ hn)
    simp only [hd] at k1
    rw [List.getElem?_eq_getElem h1] at k1
    have := Option.some.inj k1
    rw [this, gx_lt (by omega)]
    simp

theorem impl_allWithin_eq' {l : List Int} (hl : l.length ≤ 1048576) (a b : Int) : impl_allWithin l a b = some (l.all fun x => inR x a b) := by
  unfold impl_allWithin
  rw [gd_pos (by omega), forO_all (f := impl_allWithin_L1 l a b) (fun k => inR (gx l k) a b) (fun k hk => by
    simp only [impl_allWithin_L1, within_eq, Option.bind_some]; cases inR (gx l k) a b <;> rfl), all_gx (fun x => inR x a b)]
  cases l.all fun x => inR x a b <;> rfl

theorem impl_ListOk_eq {l : List Int} (hl : l.length ≤ 1048576) : impl_ListOk l = some (ListOkM l) := by
  unfold impl_ListOk ListOkM
  rw [impl_allWithin_eq' hl]
  have : ((l.length : Int) == 6) = (l.length == 6) := by
    rw [Bool.eq_iff_iff]; simp; omega
  rw [this]
  cases l.length == 6 <;> rfl

theorem spec_ListOk_eq {l : List Int} (hl : l.length ≤ 1048576) : spec_ListOk l = some (ListOkM l) := by
  unfold spec_ListOk ListOkM
  have : ((l.length : Int) == 6) = (l.length == 6) := by
    rw [Bool.eq_iff_iff]; simp; omega
  rw [gd_pos (by omega), forO_all (f := spec_ListOk_L1 l) (c := false) (fun k => inR (gx l k) 0 5) (fun k hk => by
    simp only [spec_ListOk_L1, l01In_eq, Option.bind_some]; cases inR (gx l k) 0 5 <;> rfl), all_gx (fun x => inR x 0 5), this]
  cases l.all fun x => inR x 0 5 <;> cases l.length == 6 <;> rfl

theorem impl_ExchangeCell_eq (c : GCell) {l : List Int} (hl : l.length ≤ 1048576) : impl_ExchangeCell c l = some (ExchangeCellM c l) := by
  unfold impl_ExchangeCell ExchangeCellM
  simp only [impl_CellOk_eq, impl_ListOk_eq hl, impl_SplitCell_eq, Option.bind_some]
  cases h : CellOkM c
  · rfl
  cases hL : ListOkM l
  · rfl
  obtain ⟨h1, h2, h3, h4, h5, h6, h7⟩ := cellOk_spec h
  obtain ⟨g1, g2⟩ := listOk_spec hL
  simp only [Bool.not_true, cond_false]
  rw [gd_pos ⟨by omega, by omega⟩, gd_pos ⟨by omega, by omega⟩]
  rfl

theorem spec_ExchangeCell_eq (c : GCell) {l : List Int} (hl : l.length ≤ 1048576) : spec_ExchangeCell c l = some (ExchangeCellM c l) := by
  unfold spec_ExchangeCell ExchangeCellM
  simp only [spec_CellOk_eq, spec_ListOk_eq hl, spec_SplitCell_eq, Option.bind_some]
  cases h : CellOkM c
  · rfl
  cases hL : ListOkM l
  · rfl
  obtain ⟨h1, h2, h3, h4, h5, h6, h7⟩ := cellOk_spec h
  obtain ⟨g1, g2⟩ := listOk_spec hL
  simp only [Bool.not_true, cond_false]
  rw [gd_pos ⟨by omega, by omega⟩, gd_pos ⟨by omega, by omega⟩]
  rfl

theorem impl_ExchangeBlock_eq {b : GBlock} {l : List Int} (hb : b.Cells.length ≤ 1048576) (hl : l.length ≤ 1048576) : impl_ExchangeBlock b l = some (ExchangeM b l) := by
  unfold impl_ExchangeBlock ExchangeM
  simp only [impl_BlockOk_eq, impl_ListOk_eq hl, Option.bind_some]
  have hc : impl_Block_copied b = some b := by
    unfold impl_Block_copied
    rw [gd_pos (by simp; omega)]; simp
  cases h : BlockOkM b
  · simp [hc]
  cases h2 : ListOkM l
  · simp [hc]
  obtain ⟨n, hn, h1, h2, hl2, hcs⟩ := blockOk_spec h
  simp only [Bool.not_true, cond_false, cond_true, Bool.and_self, hn]
  rw [made_eq n _ (fun y x => ExchangeCellM (gx b.Cells (y * n + x)) l) (by omega) (fun y x hy hx => by
    simp only [impl_ExchangeBlock_c1, impl_CellAt_eq, impl_ExchangeCell_eq _ hl, Option.bind_some]
    rw [cellAtM_nat h hn hx hy]), cells_grid (fun c => ExchangeCellM c l) hl2]
  rfl

theorem spec_ExchangeBlock_eq {b : GBlock} {l : List Int} (hb : b.Cells.length ≤ 1048576) (hl : l.length ≤ 1048576) : spec_ExchangeBlock b l = some (ExchangeM b l) := by
  unfold spec_ExchangeBlock ExchangeM
  simp only [spec_BlockOk_eq, spec_ListOk_eq hl, Option.bind_some]
  have hc : spec_l03Copy b = some b := by
    unfold spec_l03Copy
    rw [gd_pos (by simp; omega)]; simp
  cases h : BlockOkM b
  · simp [hc]
  cases h2 : ListOkM l
  · simp [hc]
  simp only [Bool.not_true, cond_false, cond_true, Bool.and_self]
  rw [gd_pos (by omega), lpO_app (f := spec_ExchangeBlock_L1 b l) (xs := []) (fun k => ExchangeCellM (gx b.Cells k) l) (fun k s hk hs => by
    simp only [spec_ExchangeBlock_L1, spec_ExchangeCell_eq _ hl, Option.bind_some]
    rw [gd_pos (by simp at hs; omega)]), map_gx (fun c => ExchangeCellM c l)]
  rfl

theorem impl_indexOf_eq {l : List Int} (hl : l.length ≤ 1048576) (n : Int) : impl_indexOf l n = some (idxM l n) := by
  unfold impl_indexOf idxM
  rw [gd_pos (by omega), forO_find (f := impl_indexOf_L1 l n) (fun k => gx l k == n) (fun k => (k : Int)) (fun k hk => by
    unfold impl_indexOf_L1
    cases gx l k == n <;> rfl)]
  cases (List.range l.length).find? fun k => gx l k == n <;> rfl

def putM : List Int → Int → List Int
  | [], n => [n]
  | x :: r, n => bif decide (n ≤ x) then n :: x :: r else x :: putM r n
theorem putM_perm : ∀ (l : List Int) (n : Int), (putM l n).Perm (n :: l)
  | [], n => .refl _
  | x :: r, n => by
    unfold putM
    cases decide (n ≤ x)
    · exact ((putM_perm r n).cons x).trans (.swap _ _ _)
    · exact .refl _
theorem putM_sorted : ∀ {l : List Int}, l.Pairwise (· ≤ ·) → ∀ n, (putM l n).Pairwise (· ≤ ·)
  | [], _, n => by simp [putM]
  | x :: r, h, n => by
    unfold putM
    rw [List.pairwise_cons] at h
    cases hd : decide (n ≤ x)
    · simp only [cond_false, List.pairwise_cons]
      refine ⟨fun y hy => ?_, putM_sorted h.2 n⟩
      have := (putM_perm r n).mem_iff.1 hy
      simp only [List.mem_cons] at this
      have hd' : ¬ n ≤ x := by simpa using hd
      rcases this with rfl | hm
      · omega
      · exact h.1 _ hm
    · have hd' : n ≤ x := by simpa using hd
      simp only [cond_true, List.pairwise_cons]
      refine ⟨fun y hy => ?_, h.1, h.2⟩
      simp only [List.mem_cons] at hy
      rcases hy with rfl | hm
      · exact hd'
      · have := h.1 _ hm; omega
theorem putM_len (l : List Int) (n : Int) : (putM l n).length = l.length + 1 := by
  have := (putM_perm l n).length_eq
  simpa using this
/-- The state behind some elements: what lies before the new number's place, or all with it. -/
theorem putM_append : ∀ (l : List Int) (x n : Int), putM (l ++ [x]) n = bif l.any (fun y => decide (n ≤ y)) then putM l n ++ [x] else (bif decide (n ≤ x) then l ++ [n, x] else l ++ [x, n])
  | [], x, n => by unfold putM; simp only [List.nil_append]; cases h : decide (n ≤ x) <;> simp [putM, h]
  | y :: l, x, n => by
    simp only [List.cons_append, putM, List.any_cons]
    cases h : decide (n ≤ y)
    · simp only [cond_false, Bool.false_or, putM_append l x n]
      cases l.any fun y => decide (n ≤ y)
      · cases decide (n ≤ x) <;> rfl
      · rfl
    · rfl
theorem putM_none : ∀ (l : List Int) (n : Int), l.any (fun y => decide (n ≤ y)) = false → putM l n = l ++ [n]
  | [], _, _ => rfl
  | x :: l, n, h => by
    simp only [List.any_cons, Bool.or_eq_false_iff] at h
    simp only [putM, h.1, cond_false, List.cons_append, putM_none l n h.2]

theorem impl_put_eq {l : List Int} (hl : l.length ≤ 1048576) (n : Int) : impl_put l n = some (putM l n) := by
  unfold impl_put
  rw [gd_pos (by omega), lpO_st (f := impl_put_L1 l n) (s0 := (([] : List Int), false)) (fun k => bif (l.take k).any (fun y => decide (n ≤ y)) then (putM (l.take k) n, true) else (l.take k, false)) rfl (fun k hk => by
    have ht : l.take (k + 1) = l.take k ++ [gx l k] := by rw [List.take_succ_eq_append_getElem hk, ← gx_lt hk]
    have hlen : (l.take k).length ≤ 1048576 := by simp; omega
    have hlen2 := putM_len (l.take k) n
    rw [ht, List.any_append, putM_append]
    simp only [impl_put_L1, List.any_cons, List.any_nil, Bool.or_false]
    cases h : (l.take k).any fun y => decide (n ≤ y)
    · simp only [cond_false, Bool.not_false, Bool.true_and, Bool.false_or]
      cases decide (n ≤ gx l k)
      · simp only [cond_false, Option.bind_some]
        rw [gd_pos (by omega)]
      · simp only [cond_true]
        rw [gd_pos (by omega)]
        simp only [Option.bind_some]
        rw [gd_pos (by simp; omega)]
        simp
    · simp only [cond_true, Bool.not_true, Bool.false_and, cond_false, Bool.true_or, Option.bind_some]
      rw [gd_pos (by omega)])]
  simp only [Option.bind_some, List.take_length]
  cases h : l.any fun y => decide (n ≤ y)
  · simp only [cond_false, Bool.not_false, cond_true]
    rw [gd_pos (by omega), putM_none l n h]
    rfl
  · rfl

theorem impl_sorted_eq {l : List Int} (hl : l.length ≤ 1000) : ∃ s, impl_sorted l = some s ∧ s.Perm l ∧ s.Pairwise (· ≤ ·) := by
  have key : ∀ k, k ≤ l.length → ((l.take k).foldl putM []).Perm (l.take k) ∧ ((l.take k).foldl putM []).Pairwise (· ≤ ·) := by
    intro k
    induction k with
    | zero => intro _; exact ⟨by simp, by simp⟩
    | succ k ih =>
      intro hk
      obtain ⟨i1, i2⟩ := ih (by omega)
      rw [List.take_succ_eq_append_getElem (by omega), List.foldl_append]
      simp only [List.foldl_cons, List.foldl_nil]
      refine ⟨(putM_perm _ _).trans ?_, putM_sorted i2 _⟩
      exact (i1.cons _).trans (List.perm_append_singleton _ _).symm
  refine ⟨l.foldl putM [], ?_, by simpa using (key l.length (by omega)).1, by simpa using (key l.length (by omega)).2⟩
  unfold impl_sorted
  rw [gd_pos (by omega), lpO_st (f := impl_sorted_L1 l) (s0 := []) (fun k => (l.take k).foldl putM []) rfl (fun k hk => by
    have hp := (key k (by omega)).1.length_eq
    have hle : ((l.take k).foldl putM []).length ≤ 1048576 := by rw [hp]; simp; omega
    simp only [impl_sorted_L1, impl_put_eq hle, Option.bind_some]
    rw [List.take_succ_eq_append_getElem hk, List.foldl_append, ← gx_lt hk]
    rfl)]
  simp

theorem impl_isStrict_true {l : List Int} (hl : l.length ≤ 1000) {a b : Int} (h : l.Pairwise (· < ·)) (hr : ∀ x ∈ l, a ≤ x ∧ x ≤ b) : impl_isStrict l a b = some true := by
  unfold impl_isStrict
  rw [impl_allWithin_eq' (by omega), gd_pos (by omega), all_next (f := impl_isStrict_L1 l) (fun k hk => by
    unfold impl_isStrict_L1
    rcases Nat.eq_zero_or_pos k with h0 | h0
    · subst h0; rfl
    · have e : wr ((k : Int) - 1) = ((k - 1 : Nat) : Int) := by rw [wr_of (by omega) (by omega)]; omega
      have hd : decide ((k : Int) > 0) = true := by simp; omega
      rw [List.pairwise_iff_getElem] at h
      have hlt := h (k - 1) k (by omega) hk (by omega)
      rw [← gx_lt, ← gx_lt] at hlt
      simp only [hd, cond_true, e, Int.toNat_natCast]
      rw [gd_pos ⟨by omega, by omega⟩]
      have : decide (gx l k ≤ gx l (k - 1)) = false := by simp; omega
      simp only [this, Option.bind_some, cond_false])]
  have : (l.all fun x => inR x a b) = true := by
    rw [List.all_eq_true]
    exact fun x hx => inR_iff.2 (hr x hx)
  simp only [sq_inl, this, Option.bind_some]

theorem impl_IsExchange_true {l : List Int} (hl : l.length = 6) (hn : l.Nodup) (hr : ∀ x ∈ l, 0 ≤ x ∧ x ≤ 5) : impl_IsExchange l = some true := by
  obtain ⟨s, h1, h2, h3⟩ := impl_sorted_eq (l := l) (by omega)
  have hs : s.Pairwise (· < ·) := by
    have hnd : s.Nodup := (h2.nodup_iff).2 hn
    unfold List.Nodup at hnd
    exact (h3.and hnd).imp fun ⟨a, b⟩ => by omega
  unfold impl_IsExchange
  rw [h1, show ((l.length : Int) == 6) = true by rw [hl]; rfl]
  simp only [cond_true, Option.bind_some, impl_isStrict_true (l := s) (by rw [h2.length_eq]; omega) hs (fun x hx => hr x (h2.mem_iff.1 hx))]

theorem undo_ok {l : List Int} (hl : l.length = 6) (hn : l.Nodup) (hr : ∀ x, x ∈ l ↔ 0 ≤ x ∧ x ≤ 5) : impl_UndoList l = some ((List.range 6).map fun a : Nat => idxM l (a : Int)) := by
  unfold impl_UndoList
  rw [impl_IsExchange_true hl hn (fun x hx => (hr x).1 hx)]
  simp only [Option.bind_some, Bool.not_true, cond_false]
  have h0 : List.replicate 6 (0 : Int) = (List.range 6).map fun a : Nat => bif decide (idxM l (a : Int) < ((0 : Nat) : Int)) then idxM l (a : Int) else 0 := by
    have : ∀ a : Nat, a < 6 → (bif decide (idxM l (a : Int) < ((0 : Nat) : Int)) then idxM l (a : Int) else 0) = 0 := fun a ha => by
      have : ¬ idxM l (a : Int) < 0 := by rw [idxM_neg]; exact fun h => h ((hr _).2 ⟨by omega, by omega⟩)
      simp [this]
    have e : ((List.range 6).map fun a : Nat => bif decide (idxM l (a : Int) < ((0 : Nat) : Int)) then idxM l (a : Int) else 0) = (List.range 6).map fun _ => (0 : Int) := List.map_congr_left fun a ha => this a (by simpa using ha)
    rw [e]; rfl
  rw [gd_pos (by omega), lpO_st (f := impl_UndoList_L1 l) (fun k => (List.range 6).map fun a : Nat => bif decide (idxM l (a : Int) < (k : Int)) then idxM l (a : Int) else 0) h0 (fun k hk => by
    obtain ⟨b1, b2⟩ := (hr _).1 (gx_mem hk)
    unfold impl_UndoList_L1
    rw [gd_pos ⟨b1, by simp; omega⟩]
    congr 2
    apply gx_ext
    · simp
    · intro j hj
      have hj' : j < 6 := by simpa using hj
      rw [gx_range _ hj']
      by_cases e : j = (gx l k).toNat
      · have ej : (j : Int) = gx l k := by omega
        subst e
        rw [gx_set (by simp; omega), ej, idxM_of hn hk]
        have : decide ((k : Int) < ((k + 1 : Nat) : Int)) = true := by simp; omega
        simp only [this, cond_true]
      · rw [gx_set_ne e, gx_range _ hj']
        rcases idxM_cases l (j : Int) with ⟨g1, _⟩ | ⟨i, g1, g2, g3⟩
        · exact absurd ((hr _).2 ⟨by omega, by omega⟩) g1
        · have hne : i ≠ k := fun h => e (by rw [← h, g3]; simp)
          have : decide (idxM l (j : Int) < (k : Int)) = decide (idxM l (j : Int) < ((k + 1 : Nat) : Int)) := by
            rw [g2, Bool.eq_iff_iff]; simp; omega
          rw [this])]
  simp only [Option.bind_some, hl]
  congr 1
  apply List.map_congr_left
  intro a ha
  rcases idxM_cases l (a : Int) with ⟨g1, _⟩ | ⟨i, g1, g2, g3⟩
  · exact absurd ((hr _).2 ⟨by omega, by simp at ha; omega⟩) g1
  · have : decide (idxM l (a : Int) < ((6 : Nat) : Int)) = true := by rw [g2]; simp; omega
    rw [this, cond_true]

theorem addU_len (acc : List Int) (a : Int) : (addU acc a).length ≤ acc.length + 1 := by
  unfold addU
  cases acc.contains a <;> simp
theorem fold_addU_len : ∀ (l acc : List Int), (l.foldl addU acc).length ≤ acc.length + l.length
  | [], acc => by simp
  | a :: l, acc => by
    have := fold_addU_len l (addU acc a)
    have := addU_len acc a
    simp only [List.foldl_cons, List.length_cons]; omega
def useL (l : List GCell) : List Int := l.flatMap fun c => [c.A, c.B]
theorem useL_len : ∀ l : List GCell, (useL l).length = 2 * l.length
  | [] => rfl
  | c :: l => by
    have := useL_len l
    simp only [useL, List.flatMap_cons, List.length_append, List.length_cons, List.length_nil] at this ⊢; omega
theorem useL_take {l : List GCell} {k : Nat} (hk : k < l.length) : useL (l.take (k + 1)) = useL (l.take k) ++ [(gx l k).A, (gx l k).B] := by
  rw [List.take_succ_eq_append_getElem hk, ← gx_lt hk]
  simp [useL]
theorem gx_cons_succ {α : Type} [Rep α] (a : α) (l : List α) (k : Nat) : gx (a :: l) (k + 1) = gx l k := by simp [gx, List.getD]
theorem gx_cons_zero {α : Type} [Rep α] (a : α) (l : List α) : gx (a :: l) 0 = a := by simp [gx, List.getD]
theorem useL_gx : ∀ (l : List GCell) (k : Nat), k < 2 * l.length → gx (useL l) k = bif k % 2 == 1 then (gx l (k / 2)).B else (gx l (k / 2)).A
  | [], k, h => by simp at h
  | c :: l, 0, h => by simp [useL, gx_cons_zero]
  | c :: l, 1, h => by simp [useL, gx_cons_zero, gx_cons_succ]
  | c :: l, k + 2, h => by
    have := useL_gx l k (by simp at h; omega)
    have e : useL (c :: l) = c.A :: c.B :: useL l := rfl
    rw [e, gx_cons_succ, gx_cons_succ, this, show (k + 2) / 2 = k / 2 + 1 by omega, show (k + 2) % 2 = k % 2 by omega, gx_cons_succ]
theorem tdiv2 (k : Nat) : ((k : Int)).tdiv 2 = ((k / 2 : Nat) : Int) := rfl
theorem tmod2 (k : Nat) : (((k : Int)).tmod 2 == 1) = (k % 2 == 1) := by
  have : ((k : Int)).tmod 2 = ((k % 2 : Nat) : Int) := rfl
  rw [this, Bool.eq_iff_iff]; simp; omega
theorem range_six : (List.range 6).map (fun i : Nat => (i : Int)) = six := rfl

theorem impl_FirstUse_eq (b : GBlock) : impl_FirstUse b = some (FirstUseM b) := by
  unfold impl_FirstUse FirstUseM
  simp only [impl_BlockOk_eq, Option.bind_some]
  cases h : BlockOkM b
  · rfl
  obtain ⟨n, hn, h1, h2, hl, hc⟩ := blockOk_spec h
  have hnn : n * n ≤ 4 * 4 := Nat.mul_le_mul h2 h2
  obtain ⟨g1, g2, g3⟩ := ord6_ok h
  have step : ∀ (s : List Int) (x : Int), s.length ≤ 1000 → ((impl_indexOf s x).bind fun v => (bif decide (v < 0) then gd (s.length + 1 ≤ 1099511627776) (some (s ++ [x])) else some s).bind fun j => some (Res.next (R := Empty) j)) = some (Res.next (addU s x)) := fun s x hs => by
    rw [impl_indexOf_eq (by omega)]
    simp only [Option.bind_some, idxM_contains, addU]
    cases s.contains x
    · simp only [Bool.not_false, cond_true, cond_false]
      rw [gd_pos (by omega)]; rfl
    · rfl
  simp only [Bool.not_true, cond_false, cond_true]
  rw [gd_pos (by omega), lpO_st (f := impl_FirstUse_L1 b) (s0 := []) (fun k => (useL (b.Cells.take k)).foldl addU []) rfl (fun k hk => by
    have hlen := fold_addU_len (useL (b.Cells.take k)) []
    have hul := useL_len (b.Cells.take k)
    have hle : ((useL (b.Cells.take k)).foldl addU []).length ≤ 32 := by simp at hlen hul; omega
    unfold impl_FirstUse_L1
    rw [gd_pos (by simp), lpO_st (f := impl_FirstUse_L2 b k) (s0 := (useL (b.Cells.take k)).foldl addU []) (fun i => ([(gx b.Cells k).A, (gx b.Cells k).B].take i).foldl addU ((useL (b.Cells.take k)).foldl addU [])) rfl (fun i hi => by
      have hi2 : i < 2 := by simpa using hi
      have hlen2 := fold_addU_len ([(gx b.Cells k).A, (gx b.Cells k).B].take i) ((useL (b.Cells.take k)).foldl addU [])
      unfold impl_FirstUse_L2
      rw [step _ _ (by simp at hlen2; omega), List.take_succ_eq_append_getElem hi, List.foldl_append, ← gx_lt hi]
      rfl)]
    rw [useL_take hk, List.foldl_append]
    rfl)]
  simp only [Option.bind_some, List.take_length]
  have hlen := fold_addU_len (useL b.Cells) []
  have hul := useL_len b.Cells
  have hle : ((useL b.Cells).foldl addU []).length ≤ 32 := by simp at hlen; omega
  rw [lpO_st (f := impl_FirstUse_L3) (s0 := (useL b.Cells).foldl addU []) (fun k => ((List.range k).map fun i : Nat => (i : Int)).foldl addU ((useL b.Cells).foldl addU [])) rfl (fun k hk => by
    have hlen2 := fold_addU_len ((List.range k).map fun i : Nat => (i : Int)) ((useL b.Cells).foldl addU [])
    unfold impl_FirstUse_L3
    rw [step _ _ (by simp at hlen2; omega), List.range_succ, List.map_append, List.foldl_append]
    rfl)]
  have e : ((List.range 6).map fun i : Nat => (i : Int)).foldl addU ((useL b.Cells).foldl addU []) = ord6 b := by
    rw [range_six, ← List.foldl_append]; rfl
  simp only [Option.bind_some, e, undo_ok g3 g1 g2]

def tabU (acc : List Int) : List Int := (List.range 6).map fun a : Nat => idxM acc (a : Int)
theorem tabU_add {acc : List Int} (hn : acc.Nodup) {a : Int} (h0 : 0 ≤ a) (h1 : a ≤ 5) : (bif decide (gx (tabU acc) a.toNat < 0) then (tabU acc).set a.toNat (acc.length : Int) else tabU acc) = tabU (addU acc a) ∧ (bif decide (gx (tabU acc) a.toNat < 0) then ((acc.length : Int) + 1) else (acc.length : Int)) = ((addU acc a).length : Int) := by
  have ea : ((a.toNat : Nat) : Int) = a := by omega
  have hg : gx (tabU acc) a.toNat = idxM acc a := by
    unfold tabU
    rw [gx_range _ (by omega), ea]
  have hnd := addU_nodup hn a
  rw [hg, idxM_contains]
  unfold addU at hnd ⊢
  cases hc : acc.contains a
  · rw [hc] at hnd
    simp only [cond_false] at hnd
    simp only [Bool.not_false, cond_true, cond_false]
    refine ⟨?_, by simp⟩
    apply gx_ext
    · simp [tabU]
    · intro j hj
      have hj' : j < 6 := by simpa [tabU] using hj
      have e2 : gx (tabU (acc ++ [a])) j = idxM (acc ++ [a]) (j : Int) := gx_range _ hj'
      rw [e2]
      by_cases e : j = a.toNat
      · subst e
        rw [gx_set (by simp [tabU]; omega), ea, idxM_last hnd]
      · rw [gx_set_ne e]
        have e3 : gx (tabU acc) j = idxM acc (j : Int) := gx_range _ hj'
        rw [e3]
        by_cases hm : (j : Int) ∈ acc
        · rw [idxM_append _ hnd hm]
        · have hm2 : ¬ (j : Int) ∈ acc ++ [a] := by
            simp only [List.mem_append, List.mem_singleton, not_or]
            exact ⟨hm, by omega⟩
          rcases idxM_cases acc (j : Int) with ⟨_, q⟩ | ⟨k, q1, _, q3⟩
          · rcases idxM_cases (acc ++ [a]) (j : Int) with ⟨_, q'⟩ | ⟨k, q1, _, q3⟩
            · rw [q, q']
            · exact absurd (q3 ▸ gx_mem q1) hm2
          · exact absurd (q3 ▸ gx_mem q1) hm
  · simp

theorem spec_FirstUse_eq (b : GBlock) : spec_FirstUse b = some (FirstUseM b) := by
  unfold spec_FirstUse FirstUseM
  simp only [spec_BlockOk_eq, Option.bind_some]
  cases h : BlockOkM b
  · rfl
  obtain ⟨n, hn, h1, h2, hl, hc⟩ := blockOk_spec h
  have hnn : n * n ≤ 4 * 4 := Nat.mul_le_mul h2 h2
  have hul := useL_len b.Cells
  have hN : (wr (2 * (b.Cells.length : Int))).toNat = (useL b.Cells).length := by
    rw [wr_of (by omega) (by omega)]; omega
  have h0 : lpO spec_FirstUse_L1 6 [] = some (tabU []) := by rfl
  have hin : ∀ x ∈ useL b.Cells, 0 ≤ x ∧ x ≤ 5 := fun x hx => by
    obtain ⟨c, hm, h⟩ := mem_useSeq.1 (show x ∈ useSeq b from hx)
    obtain ⟨c1, c2, c3, c4, c5, c6, _⟩ := cellOk_spec (hc c hm)
    rcases h with rfl | rfl <;> omega
  have hs : ((tabU [], 0) : List Int × Int) = (tabU ((useL b.Cells).take 0 |>.foldl addU []), ((((useL b.Cells).take 0).foldl addU []).length : Int)) := rfl
  simp only [Bool.not_true, cond_false, cond_true, h0, Option.bind_some, hN]
  rw [gd_pos (by omega), lpO_st (f := spec_FirstUse_L2 b) (fun k => (tabU (((useL b.Cells).take k).foldl addU []), ((((useL b.Cells).take k).foldl addU []).length : Int))) hs (fun k hk => by
    have hnd := (fold_addU ((useL b.Cells).take k) [] (by simp)).1
    have hlen := fold_addU_len ((useL b.Cells).take k) []
    have hx := useL_gx b.Cells k (by omega)
    obtain ⟨x0, x1⟩ := hin _ (gx_mem hk)
    obtain ⟨t1, t2⟩ := tabU_add hnd x0 x1
    have e2 : wr (((k / 2 : Nat) : Int)) = ((k / 2 : Nat) : Int) := wr_of (by omega) (by omega)
    have e3 : wr (((((useL b.Cells).take k).foldl addU []).length : Int) + 1) = ((((useL b.Cells).take k).foldl addU []).length : Int) + 1 := wr_of (by omega) (by simp at hlen; omega)
    simp only [spec_FirstUse_L2, tdiv2, tmod2, e2, e3, Int.toNat_natCast, ← hx]
    rw [gd_pos ⟨by omega, by omega⟩, gd_pos ⟨x0, by simp [tabU]; omega⟩, t1, t2, List.take_succ_eq_append_getElem hk, List.foldl_append, ← gx_lt hk]
    rfl)]
  simp only [Option.bind_some, List.take_length]
  have hnd0 := (fold_addU (useL b.Cells) [] (by simp)).1
  have hlen0 := fold_addU_len (useL b.Cells) []
  rw [lpO_st (f := spec_FirstUse_L3) (s0 := (tabU ((useL b.Cells).foldl addU []), ((((useL b.Cells).foldl addU []).length : Nat) : Int))) (fun k => (tabU (((List.range k).map fun i : Nat => (i : Int)).foldl addU ((useL b.Cells).foldl addU [])), ((((List.range k).map fun i : Nat => (i : Int)).foldl addU ((useL b.Cells).foldl addU [])).length : Int))) rfl (fun k hk => by
    have hnd := (fold_addU ((List.range k).map fun i : Nat => (i : Int)) _ hnd0).1
    have hlen := fold_addU_len ((List.range k).map fun i : Nat => (i : Int)) ((useL b.Cells).foldl addU [])
    obtain ⟨t1, t2⟩ := tabU_add hnd (a := (k : Int)) (by omega) (by omega)
    simp only [Int.toNat_natCast] at t1 t2
    have e3 : wr (((((List.range k).map fun i : Nat => (i : Int)).foldl addU ((useL b.Cells).foldl addU [])).length : Int) + 1) = ((((List.range k).map fun i : Nat => (i : Int)).foldl addU ((useL b.Cells).foldl addU [])).length : Int) + 1 := wr_of (by omega) (by simp at hlen hlen0; omega)
    simp only [spec_FirstUse_L3, e3]
    rw [gd_pos (by simp [tabU]; omega), t1, t2, List.range_succ, List.map_append, List.foldl_append]
    rfl)]
  have e : ((List.range 6).map fun i : Nat => (i : Int)).foldl addU ((useL b.Cells).foldl addU []) = ord6 b := by
    rw [range_six, ← List.foldl_append]; rfl
  simp only [Option.bind_some, e]
  rfl

theorem impl_plain_eq {b : GBlock} (h : BlockOkM b = true) : impl_plain b = some (PlainM b) := by
  unfold impl_plain PlainM
  have hs := (blockOk_sm h).1
  have hf := firstUse_len h
  simp only [impl_FirstUse_eq, Option.bind_some, impl_ExchangeBlock_eq hs (l := FirstUseM b) (by omega)]

theorem spec_l07Plain_eq {b : GBlock} (h : BlockOkM b = true) : spec_l07Plain b = some (PlainM b) := by
  unfold spec_l07Plain PlainM
  have hs := (blockOk_sm h).1
  have hf := firstUse_len h
  simp only [spec_FirstUse_eq, Option.bind_some, spec_ExchangeBlock_eq hs (l := FirstUseM b) (by omega)]

def viewsM (b : GBlock) : List GBlock := (List.range 8).map fun k : Nat => SeenM b (k : Int)
theorem views_len (b : GBlock) : (viewsM b).length = 8 := by simp [viewsM]
theorem views_gx (b : GBlock) {k : Nat} (hk : k < 8) : gx (viewsM b) k = SeenM b (k : Int) := gx_range _ hk
theorem view_ok {b : GBlock} (h : BlockOkM b = true) {k : Nat} (hk : k < 8) : BlockOkM (SeenM b (k : Int)) = true ∧ (SeenM b (k : Int)).Size = b.Size := seen_ok h (inR_iff.2 ⟨by omega, by omega⟩)

theorem impl_views_eq (b : GBlock) : impl_views b = some (viewsM b) := by
  unfold impl_views
  rw [lpO_app (f := impl_views_L1 b) (xs := []) (fun k : Nat => SeenM b (k : Int)) (fun k s hk hs => by
    simp only [impl_views_L1, impl_SeenFrom_eq, Option.bind_some]
    rw [gd_pos (by simp at hs; omega)])]
  rfl

def ColorSymM (b : GBlock) : List Int := bif BlockOkM b then ((List.range 8).filter fun k : Nat => SameBlockM (PlainM (SeenM b (k : Int))) (PlainM b)).map fun k : Nat => (k : Int) else []

theorem spec_ColorSymmetries_eq (b : GBlock) : spec_ColorSymmetries b = some (ColorSymM b) := by
  unfold spec_ColorSymmetries ColorSymM
  cases h : BlockOkM b
  · have : lpO (spec_ColorSymmetries_L1 b) 8 [] = some [] := by
      unfold lpO
      rw [forO_brkAt (f := spec_ColorSymmetries_L1 b) (fun _ => []) rfl 0 (by omega) (fun k hk => by omega) (s' := []) (by simp [spec_ColorSymmetries_L1, h])]
      rfl
    rw [this]; rfl
  · rw [lpO_filter (f := spec_ColorSymmetries_L1 b) (xs := []) (fun k : Nat => SameBlockM (PlainM (SeenM b (k : Int))) (PlainM b)) (fun k : Nat => (k : Int)) (fun k s hk hs => by
      have hv := (view_ok h hk).1
      have hp := (plain_ok hv).1
      simp only [spec_ColorSymmetries_L1, spec_BlockOk_eq, h, cond_true, spec_SeenFrom_eq, spec_l07Plain_eq hv, spec_l07Plain_eq h, spec_SameBlock_eq (blockOk_sm hp).1, Option.bind_some]
      rw [gd_pos (by simp at hs; omega)]
      cases SameBlockM (PlainM (SeenM b (k : Int))) (PlainM b) <;> rfl)]
    rfl

def usedM (b : GBlock) (a : Int) : Bool := b.Cells.any fun c => c.A == a || c.B == a
theorem isum_nonneg {α : Type} {f : α → Int} : ∀ {xs : List α}, (∀ x ∈ xs, 0 ≤ f x) → 0 ≤ isum (xs.map f)
  | [], _ => by simp [isum]
  | x :: r, h => by
    have := isum_nonneg (xs := r) fun y hy => h y (by simp [hy])
    have := h x (by simp)
    simp only [List.map_cons, isum]; omega
theorem isum_pos_iff {α : Type} {f : α → Int} : ∀ {xs : List α}, (∀ x ∈ xs, 0 ≤ f x) → (0 < isum (xs.map f) ↔ ∃ x, x ∈ xs ∧ 0 < f x)
  | [], _ => by simp [isum]
  | x :: r, h => by
    have ih := isum_pos_iff (xs := r) fun y hy => h y (by simp [hy])
    have h0 := h x (by simp)
    have hr := isum_nonneg (xs := r) (f := f) fun y hy => h y (by simp [hy])
    simp only [List.map_cons, isum]
    constructor
    · intro hp
      by_cases hx : 0 < f x
      · exact ⟨x, by simp, hx⟩
      · obtain ⟨y, hy, hp⟩ := ih.1 (by omega)
        exact ⟨y, by simp [hy], hp⟩
    · rintro ⟨y, hy, hp⟩
      simp only [List.mem_cons] at hy
      rcases hy with rfl | hy
      · omega
      · have := ih.2 ⟨y, hy, hp⟩; omega
theorem area_pos {b : GBlock} (h : BlockOkM b = true) (a : Int) : decide (AreaM b a > 0) = usedM b a := by
  rw [Bool.eq_iff_iff, decide_eq_true_iff]
  unfold AreaM usedM
  rw [h, cond_true, List.any_eq_true]
  refine (isum_pos_iff fun c _ => (ar_bound a c).1).trans ?_
  constructor
  · rintro ⟨c, hc, hp⟩
    refine ⟨c, hc, ?_⟩
    unfold arM at hp
    cases h1 : c.A == a
    · cases h2 : c.B == a
      · rw [h1, h2] at hp; simp at hp
      · rfl
    · rfl
  · rintro ⟨c, hc, hp⟩
    refine ⟨c, hc, ?_⟩
    unfold arM
    cases h1 : c.A == a
    · cases h2 : c.B == a
      · rw [h1, h2] at hp; simp at hp
      · simp
    · cases h2 : c.B == a <;> simp
def colsM (b : GBlock) : List Int := ((List.range 6).filter fun a : Nat => usedM b (a : Int)).map fun a : Nat => (a : Int)
def ColorsM (b : GBlock) : List Int := bif BlockOkM b then colsM b else []
theorem mem_cols {b : GBlock} {x : Int} : x ∈ colsM b ↔ (0 ≤ x ∧ x ≤ 5) ∧ usedM b x = true := by
  simp only [colsM, List.mem_map, List.mem_filter, List.mem_range]
  constructor
  · rintro ⟨a, ⟨h1, h2⟩, rfl⟩
    exact ⟨⟨by omega, by omega⟩, h2⟩
  · rintro ⟨⟨h1, h2⟩, h3⟩
    obtain ⟨a, rfl⟩ := Int.eq_ofNat_of_zero_le h1
    exact ⟨a, ⟨by omega, h3⟩, rfl⟩
theorem cols_nodup (b : GBlock) : (colsM b).Nodup := by
  have h : ((List.range 6).filter fun a : Nat => usedM b (a : Int)).Nodup := List.Pairwise.filter _ List.nodup_range
  exact List.Pairwise.map _ (fun a b hab e => hab (by omega)) h
theorem cols_len (b : GBlock) : (colsM b).length ≤ 6 := by
  have := List.length_filter_le (fun a : Nat => usedM b (a : Int)) (List.range 6)
  simpa [colsM] using this
theorem cols_pos {b : GBlock} (h : BlockOkM b = true) : 0 < (colsM b).length := by
  obtain ⟨n, hn, h1, h2, hl, hc⟩ := blockOk_spec h
  have hnn : 1 * 1 ≤ n * n := Nat.mul_le_mul h1 h1
  have hm : gx b.Cells 0 ∈ b.Cells := gx_mem (by omega)
  obtain ⟨_, _, a1, a2, _⟩ := cellOk_spec (hc _ hm)
  apply List.length_pos_of_mem (a := (gx b.Cells 0).A)
  refine mem_cols.2 ⟨⟨a1, a2⟩, ?_⟩
  unfold usedM
  rw [List.any_eq_true]
  exact ⟨_, hm, by simp⟩

theorem impl_ColorsOf_eq (b : GBlock) : impl_ColorsOf b = some (ColorsM b) := by
  unfold impl_ColorsOf ColorsM
  simp only [impl_BlockOk_eq, Option.bind_some]
  cases h : BlockOkM b
  · rfl
  simp only [Bool.not_true, cond_false, cond_true]
  rw [lpO_filter (f := impl_ColorsOf_L1 b) (xs := []) (fun a : Nat => usedM b (a : Int)) (fun a : Nat => (a : Int)) (fun k s hk hs => by
    simp only [impl_ColorsOf_L1, impl_AreaOf_eq, Option.bind_some, area_pos h]
    rw [gd_pos (by simp at hs; omega)]
    cases usedM b (k : Int) <;> rfl)]
  rfl

theorem spec_ColorsOf_eq (b : GBlock) : spec_ColorsOf b = some (ColorsM b) := by
  unfold spec_ColorsOf ColorsM
  simp only [spec_BlockOk_eq, Option.bind_some]
  cases h : BlockOkM b
  · rfl
  obtain ⟨n, hn, h1, h2, hl, hc⟩ := blockOk_spec h
  have hnn : n * n ≤ 4 * 4 := Nat.mul_le_mul h2 h2
  simp only [Bool.not_true, cond_false, cond_true]
  rw [lpO_filter (f := spec_ColorsOf_L1 b) (xs := []) (fun a : Nat => usedM b (a : Int)) (fun a : Nat => (a : Int)) (fun k s hk hs => by
    unfold spec_ColorsOf_L1
    rw [gd_pos (by omega), lpO_st (f := spec_ColorsOf_L2 b k) (s0 := false) (fun j => (b.Cells.take j).any fun c => c.A == (k : Int) || c.B == (k : Int)) rfl (fun j hj => by
      unfold spec_ColorsOf_L2
      rw [List.take_succ_eq_append_getElem hj, List.any_append, ← gx_lt hj]
      simp)]
    simp only [Option.bind_some, List.take_length]
    rw [gd_pos (by simp at hs; omega)]
    unfold usedM
    cases b.Cells.any fun c => c.A == (k : Int) || c.B == (k : Int) <;> rfl)]
  rfl

def ColorAtM (c : GCell) (s : Nat) : Int := bif s == 0 || (c.Split == 1 && s == 1) || (c.Split == 2 && s == 3) then c.A else c.B
theorem colorAt_mem (c : GCell) (s : Nat) : ColorAtM c s = c.A ∨ ColorAtM c s = c.B := by
  unfold ColorAtM
  cases (s == 0 || (c.Split == 1 && s == 1) || (c.Split == 2 && s == 3)) <;> simp
theorem colorAt_in {c : GCell} (h : CellOkM c = true) (s : Nat) : 0 ≤ ColorAtM c s ∧ ColorAtM c s ≤ 5 := by
  obtain ⟨_, _, h1, h2, h3, h4, _⟩ := cellOk_spec h
  rcases colorAt_mem c s with e | e <;> rw [e] <;> omega

def cellLikeM (c d : GCell) : Int := sumN 4 fun s => bif ColorAtM c s == ColorAtM d s then 1 else 0
theorem cellLike_bound (c d : GCell) : 0 ≤ cellLikeM c d ∧ cellLikeM c d ≤ 4 := by
  have := sumN_bound (m := 4) (F := fun s => bif ColorAtM c s == ColorAtM d s then 1 else 0) (B := 1) fun s _ => by cases ColorAtM c s == ColorAtM d s <;> simp
  unfold cellLikeM; omega
def LikeM (b d : GBlock) : Int := sumN b.Cells.length fun i => cellLikeM (gx b.Cells i) (gx d.Cells i)
def pairM (b d : GBlock) : Bool := BlockOkM b && BlockOkM d && (b.Size == d.Size)
theorem pair_len {b d : GBlock} (h : pairM b d = true) : BlockOkM b = true ∧ BlockOkM d = true ∧ b.Cells.length = d.Cells.length ∧ b.Cells.length ≤ 16 := by
  simp only [pairM, Bool.and_eq_true, beq_iff_eq] at h
  obtain ⟨⟨h1, h2⟩, h3⟩ := h
  obtain ⟨n, hn, n1, n2, nl, _⟩ := blockOk_spec h1
  obtain ⟨m, hm, m1, m2, ml, _⟩ := blockOk_spec h2
  have e : n = m := by omega
  have hnn : n * n ≤ 4 * 4 := Nat.mul_le_mul n2 n2
  exact ⟨h1, h2, by rw [nl, ml, e], by omega⟩

def mx : Nat → (Nat → Int) → Int
  | 0, _ => 0
  | n + 1, g => if g n > mx n g then g n else mx n g
theorem mx_nonneg : ∀ n g, 0 ≤ mx n g
  | 0, _ => Int.le_refl _
  | n + 1, g => by
    have := mx_nonneg n g
    unfold mx
    split <;> omega
theorem mx_le {g : Nat → Int} : ∀ {n k : Nat}, k < n → g k ≤ mx n g
  | n + 1, k, h => by
    unfold mx
    rcases Nat.lt_or_ge k n with hlt | hge
    · have := mx_le (g := g) hlt
      split <;> omega
    · have e : k = n := by omega
      subst e
      split <;> omega
theorem mx_le_of {g : Nat → Int} {v : Int} (h0 : 0 ≤ v) : ∀ {n : Nat}, (∀ k, k < n → g k ≤ v) → mx n g ≤ v
  | 0, _ => h0
  | n + 1, h => by
    have := mx_le_of h0 (n := n) fun k hk => h k (by omega)
    have := h n (by omega)
    unfold mx
    split <;> omega
theorem mx_congr {g h : Nat → Int} : ∀ {n : Nat}, (∀ k, k < n → g k = h k) → mx n g = mx n h
  | 0, _ => rfl
  | n + 1, H => by
    unfold mx
    rw [mx_congr (n := n) fun k hk => H k (by omega), H n (by omega)]
theorem lpO_mx {f : Nat → Int → Option (Res Int Empty)} {N : Nat} (g : Nat → Int) (h : ∀ k s, k < N → f k s = some (.next (if g k > s then g k else s))) : lpO f N 0 = some (mx N g) :=
  lpO_st (fun k => mx k g) rfl fun k hk => by rw [h k _ hk]; rfl
def BestLikeM (b d : GBlock) : Int := mx 8 fun k => LikeM b (SeenM d (k : Int))
theorem pair_seen {b d : GBlock} (h : pairM b d = true) {k : Nat} (hk : k < 8) : pairM b (SeenM d (k : Int)) = true := by
  simp only [pairM, Bool.and_eq_true, beq_iff_eq] at h ⊢
  obtain ⟨⟨h1, h2⟩, h3⟩ := h
  obtain ⟨v1, v2⟩ := view_ok h2 hk
  exact ⟨⟨h1, v1⟩, by rw [v2, h3]⟩

/-- Exchanged colors, side by side. -/
theorem colorAt_exchange {c : GCell} {l : List Int} (hc : CellOkM c = true) (hl : ListOkM l = true) (s : Nat) : ColorAtM (ExchangeCellM c l) s = gx l (ColorAtM c s).toNat := by
  obtain ⟨h1, h2, h3, h4, h5, h6, h7⟩ := cellOk_spec hc
  obtain ⟨g1, g2⟩ := listOk_spec hl
  obtain ⟨a0, a1⟩ := g2 _ (gx_mem (show c.A.toNat < l.length by omega))
  obtain ⟨b0, b1⟩ := g2 _ (gx_mem (show c.B.toNat < l.length by omega))
  unfold ExchangeCellM SplitCellM
  rw [hc, hl]
  simp only [Bool.and_self, cond_true]
  cases he : gx l c.A.toNat == gx l c.B.toNat
  · have hne : gx l c.A.toNat ≠ gx l c.B.toNat := by simpa using he
    have hab : c.A ≠ c.B := fun e => hne (by rw [e])
    have hok : CellOkM ⟨c.Split, gx l c.A.toNat, gx l c.B.toNat⟩ = true := cellOk_of h1 h2 a0 a1 b0 b1 ⟨fun e => absurd (h7.1 e) hab, fun e => absurd e hne⟩
    rw [hok]
    simp only [cond_false, cond_true]
    unfold ColorAtM
    simp only
    cases (s == 0 || (c.Split == 1 && s == 1) || (c.Split == 2 && s == 3)) <;> rfl
  · have e : gx l c.A.toNat = gx l c.B.toNat := by simpa using he
    have hi : inR (gx l c.A.toNat) 0 5 = true := inR_iff.2 ⟨a0, a1⟩
    unfold WholeCellM
    rw [hi]
    simp only [cond_true]
    rcases colorAt_mem c s with q | q <;> rw [q]
    · rcases colorAt_mem ⟨0, gx l c.A.toNat, gx l c.A.toNat⟩ s with r | r <;> exact r
    · rw [← e]
      rcases colorAt_mem ⟨0, gx l c.A.toNat, gx l c.A.toNat⟩ s with r | r <;> exact r
theorem turn_exchange {c : GCell} {l : List Int} (hc : CellOkM c = true) (hl : ListOkM l = true) : TurnCellM (ExchangeCellM c l) = ExchangeCellM (TurnCellM c) l := by
  obtain ⟨h1, h2, h3, h4, h5, h6, h7⟩ := cellOk_spec hc
  obtain ⟨g1, g2⟩ := listOk_spec hl
  obtain ⟨a0, a1⟩ := g2 _ (gx_mem (show c.A.toNat < l.length by omega))
  obtain ⟨b0, b1⟩ := g2 _ (gx_mem (show c.B.toNat < l.length by omega))
  have ht := turnCell_ok hc
  have hs : c.Split = 0 ∨ c.Split = 1 ∨ c.Split = 2 := by omega
  have hia : inR (gx l c.A.toNat) 0 5 = true := inR_iff.2 ⟨a0, a1⟩
  have hib : inR (gx l c.B.toNat) 0 5 = true := inR_iff.2 ⟨b0, b1⟩
  obtain ⟨cs, ca, cb⟩ := c
  simp only at h1 h2 h3 h4 h5 h6 h7 hs hia hib a0 a1 b0 b1
  rcases hs with rfl | rfl | rfl
  · have e := h7.1 rfl
    subst e
    have ew : CellOkM ⟨0, gx l ca.toNat, gx l ca.toNat⟩ = true := cellOk_of (by simp) (by simp) a0 a1 a0 a1 (by simp)
    have e1 : ExchangeCellM ⟨0, ca, ca⟩ l = ⟨0, gx l ca.toNat, gx l ca.toNat⟩ := by simp [ExchangeCellM, hc, hl, SplitCellM, WholeCellM, hia]
    have e2 : TurnCellM ⟨0, ca, ca⟩ = ⟨0, ca, ca⟩ := by simp [TurnCellM, hc]
    rw [e1, e2, e1]
    simp [TurnCellM, ew]
  · have e2 : TurnCellM ⟨1, ca, cb⟩ = ⟨2, cb, ca⟩ := by simp [TurnCellM, hc]
    rw [e2] at ht ⊢
    unfold ExchangeCellM SplitCellM
    rw [hc, ht, hl]
    simp only [Bool.and_self, cond_true]
    cases he : gx l ca.toNat == gx l cb.toNat
    · have hne : gx l ca.toNat ≠ gx l cb.toNat := by simpa using he
      have he' : (gx l cb.toNat == gx l ca.toNat) = false := by simpa using fun e => hne e.symm
      have o1 : CellOkM ⟨1, gx l ca.toNat, gx l cb.toNat⟩ = true := cellOk_of (by simp) (by simp) a0 a1 b0 b1 ⟨fun e => by simp at e, fun e => absurd e hne⟩
      have o2 : CellOkM ⟨2, gx l cb.toNat, gx l ca.toNat⟩ = true := cellOk_of (by simp) (by simp) b0 b1 a0 a1 ⟨fun e => by simp at e, fun e => absurd e.symm hne⟩
      rw [he', o1, o2]
      simp [TurnCellM, o1]
    · have e : gx l ca.toNat = gx l cb.toNat := by simpa using he
      have he' : (gx l cb.toNat == gx l ca.toNat) = true := by simp [e]
      rw [he']
      have ew : CellOkM ⟨0, gx l cb.toNat, gx l cb.toNat⟩ = true := cellOk_of (by simp) (by simp) b0 b1 b0 b1 (by simp)
      simp [WholeCellM, e, hib, TurnCellM, ew]
  · have e2 : TurnCellM ⟨2, ca, cb⟩ = ⟨1, ca, cb⟩ := by simp [TurnCellM, hc]
    rw [e2] at ht ⊢
    unfold ExchangeCellM SplitCellM
    rw [hc, ht, hl]
    simp only [Bool.and_self, cond_true]
    cases he : gx l ca.toNat == gx l cb.toNat
    · have hne : gx l ca.toNat ≠ gx l cb.toNat := by simpa using he
      have o1 : CellOkM ⟨2, gx l ca.toNat, gx l cb.toNat⟩ = true := cellOk_of (by simp) (by simp) a0 a1 b0 b1 ⟨fun e => by simp at e, fun e => absurd e hne⟩
      have o2 : CellOkM ⟨1, gx l ca.toNat, gx l cb.toNat⟩ = true := cellOk_of (by simp) (by simp) a0 a1 b0 b1 ⟨fun e => by simp at e, fun e => absurd e hne⟩
      rw [o1, o2]
      simp [TurnCellM, o1]
    · have e : gx l ca.toNat = gx l cb.toNat := by simpa using he
      have ew : CellOkM ⟨0, gx l cb.toNat, gx l cb.toNat⟩ = true := cellOk_of (by simp) (by simp) b0 b1 b0 b1 (by simp)
      simp [WholeCellM, e, hib, TurnCellM, ew]
theorem mirror_exchange {c : GCell} {l : List Int} (hc : CellOkM c = true) (hl : ListOkM l = true) : MirrorCellM (ExchangeCellM c l) = ExchangeCellM (MirrorCellM c) l := by
  obtain ⟨h1, h2, h3, h4, h5, h6, h7⟩ := cellOk_spec hc
  obtain ⟨g1, g2⟩ := listOk_spec hl
  obtain ⟨a0, a1⟩ := g2 _ (gx_mem (show c.A.toNat < l.length by omega))
  obtain ⟨b0, b1⟩ := g2 _ (gx_mem (show c.B.toNat < l.length by omega))
  have ht := mirrorCell_ok hc
  have hs : c.Split = 0 ∨ c.Split = 1 ∨ c.Split = 2 := by omega
  have hia : inR (gx l c.A.toNat) 0 5 = true := inR_iff.2 ⟨a0, a1⟩
  have hib : inR (gx l c.B.toNat) 0 5 = true := inR_iff.2 ⟨b0, b1⟩
  obtain ⟨cs, ca, cb⟩ := c
  simp only at h1 h2 h3 h4 h5 h6 h7 hs hia hib a0 a1 b0 b1
  rcases hs with rfl | rfl | rfl
  · have e := h7.1 rfl
    subst e
    have ew : CellOkM ⟨0, gx l ca.toNat, gx l ca.toNat⟩ = true := cellOk_of (by simp) (by simp) a0 a1 a0 a1 (by simp)
    have e1 : ExchangeCellM ⟨0, ca, ca⟩ l = ⟨0, gx l ca.toNat, gx l ca.toNat⟩ := by simp [ExchangeCellM, hc, hl, SplitCellM, WholeCellM, hia]
    have e2 : MirrorCellM ⟨0, ca, ca⟩ = ⟨0, ca, ca⟩ := by simp [MirrorCellM, hc]
    rw [e1, e2, e1]
    simp [MirrorCellM, ew]
  · have e2 : MirrorCellM ⟨1, ca, cb⟩ = ⟨2, cb, ca⟩ := by simp [MirrorCellM, hc]
    rw [e2] at ht ⊢
    unfold ExchangeCellM SplitCellM
    rw [hc, ht, hl]
    simp only [Bool.and_self, cond_true]
    cases he : gx l ca.toNat == gx l cb.toNat
    · have hne : gx l ca.toNat ≠ gx l cb.toNat := by simpa using he
      have he' : (gx l cb.toNat == gx l ca.toNat) = false := by simpa using fun e => hne e.symm
      have o1 : CellOkM ⟨1, gx l ca.toNat, gx l cb.toNat⟩ = true := cellOk_of (by simp) (by simp) a0 a1 b0 b1 ⟨fun e => by simp at e, fun e => absurd e hne⟩
      have o2 : CellOkM ⟨2, gx l cb.toNat, gx l ca.toNat⟩ = true := cellOk_of (by simp) (by simp) b0 b1 a0 a1 ⟨fun e => by simp at e, fun e => absurd e.symm hne⟩
      rw [he', o1, o2]
      simp [MirrorCellM, o1]
    · have e : gx l ca.toNat = gx l cb.toNat := by simpa using he
      have he' : (gx l cb.toNat == gx l ca.toNat) = true := by simp [e]
      rw [he']
      have ew : CellOkM ⟨0, gx l cb.toNat, gx l cb.toNat⟩ = true := cellOk_of (by simp) (by simp) b0 b1 b0 b1 (by simp)
      simp [WholeCellM, e, hib, MirrorCellM, ew]
  · have e2 : MirrorCellM ⟨2, ca, cb⟩ = ⟨1, cb, ca⟩ := by simp [MirrorCellM, hc]
    rw [e2] at ht ⊢
    unfold ExchangeCellM SplitCellM
    rw [hc, ht, hl]
    simp only [Bool.and_self, cond_true]
    cases he : gx l ca.toNat == gx l cb.toNat
    · have hne : gx l ca.toNat ≠ gx l cb.toNat := by simpa using he
      have he' : (gx l cb.toNat == gx l ca.toNat) = false := by simpa using fun e => hne e.symm
      have o1 : CellOkM ⟨2, gx l ca.toNat, gx l cb.toNat⟩ = true := cellOk_of (by simp) (by simp) a0 a1 b0 b1 ⟨fun e => by simp at e, fun e => absurd e hne⟩
      have o2 : CellOkM ⟨1, gx l cb.toNat, gx l ca.toNat⟩ = true := cellOk_of (by simp) (by simp) b0 b1 a0 a1 ⟨fun e => by simp at e, fun e => absurd e.symm hne⟩
      rw [he', o1, o2]
      simp [MirrorCellM, o1]
    · have e : gx l ca.toNat = gx l cb.toNat := by simpa using he
      have he' : (gx l cb.toNat == gx l ca.toNat) = true := by simp [e]
      rw [he']
      have ew : CellOkM ⟨0, gx l cb.toNat, gx l cb.toNat⟩ = true := cellOk_of (by simp) (by simp) b0 b1 b0 b1 (by simp)
      simp [WholeCellM, e, hib, MirrorCellM, ew]
theorem cellsM_map {α β : Type} (g : α → β) (h w : Nat) (F : Nat → Nat → α) : (cellsM h w F).map g = cellsM h w fun y x => g (F y x) := by
  simp [cellsM, List.map_flatMap]
  rfl
theorem cellsM_congr {α : Type} {h w : Nat} {F G : Nat → Nat → α} (H : ∀ y x, y < h → x < w → F y x = G y x) : cellsM h w F = cellsM h w G := by
  induction h with
  | zero => rfl
  | succ h ih =>
    rw [cellsM_succ, cellsM_succ, ih fun y x hy hx => H y x (by omega) hx]
    congr 1
    exact List.map_congr_left fun x hx => H h x (by omega) (by simpa using hx)
def exB (l : List Int) (b : GBlock) : GBlock := ⟨b.Size, b.Cells.map fun c => ExchangeCellM c l⟩
theorem exB_ok {b : GBlock} (h : BlockOkM b = true) (l : List Int) : BlockOkM (exB l b) = true := by
  obtain ⟨n, hn, h1, h2, hl, hcs⟩ := blockOk_spec h
  unfold exB
  rw [hn]
  exact blockOk_of h1 h2 (by simpa using hl) (fun c hm => by
    simp only [List.mem_map] at hm
    obtain ⟨d, _, rfl⟩ := hm
    exact exchangeCell_ok d l)
theorem exB_eq {b : GBlock} (h : BlockOkM b = true) {l : List Int} (hl : ListOkM l = true) : ExchangeM b l = (exB l b, true) := by simp [ExchangeM, h, hl, exB]
theorem turnB_exchange {b : GBlock} (h : BlockOkM b = true) {l : List Int} (hl : ListOkM l = true) : TurnBlockM (exB l b) = exB l (TurnBlockM b) := by
  obtain ⟨n, hn, h1, h2, hlen, hcs⟩ := blockOk_spec h
  have ho := exB_ok h l
  unfold TurnBlockM
  rw [ho, h]
  unfold exB
  simp only [cond_true, hn, Int.toNat_natCast]
  rw [cellsM_map]
  congr 1
  refine cellsM_congr fun y x hy hx => ?_
  have hi : (n - 1 - x) * n + y < b.Cells.length := by rw [hlen]; exact idx_lt (by omega) hy
  rw [gx_map _ hi, turn_exchange (hcs _ (gx_mem hi)) hl]
theorem mirrorB_exchange {b : GBlock} (h : BlockOkM b = true) {l : List Int} (hl : ListOkM l = true) : MirrorBlockM (exB l b) = exB l (MirrorBlockM b) := by
  obtain ⟨n, hn, h1, h2, hlen, hcs⟩ := blockOk_spec h
  have ho := exB_ok h l
  unfold MirrorBlockM
  rw [ho, h]
  unfold exB
  simp only [cond_true, hn, Int.toNat_natCast]
  rw [cellsM_map]
  congr 1
  refine cellsM_congr fun y x hy hx => ?_
  have hi : y * n + (n - 1 - x) < b.Cells.length := by rw [hlen]; exact idx_lt hy (by omega)
  rw [gx_map _ hi, mirror_exchange (hcs _ (gx_mem hi)) hl]
theorem seen_exchange {b : GBlock} (h : BlockOkM b = true) {l : List Int} (hl : ListOkM l = true) {k : Nat} (hk : k < 8) : SeenM (exB l b) (k : Int) = exB l (SeenM b (k : Int)) := by
  have turns : ∀ (b0 : GBlock), BlockOkM b0 = true → ∀ j, turnsM j (exB l b0) = exB l (turnsM j b0) := fun b0 h0 j => by
    induction j with
    | zero => rfl
    | succ j ih => rw [turnsM, ih, turnB_exchange (turns_ok h0 j).1 hl]; rfl
  have hi : inR (k : Int) 0 7 = true := inR_iff.2 ⟨by omega, by omega⟩
  unfold SeenM
  rw [h, exB_ok h l, hi]
  cases decide ((k : Int) ≥ 4)
  · exact turns b h _
  · simp only [Bool.and_self, cond_true]
    rw [mirrorB_exchange h hl, turns _ (mirrorBlock_ok h)]
/-- The colors of a view are the block's. -/
theorem seen_colors {b : GBlock} (h : BlockOkM b = true) {k : Nat} (hk : k < 8) {i : Nat} (hi : i < (SeenM b (k : Int)).Cells.length) (s : Nat) : ColorAtM (gx (SeenM b (k : Int)).Cells i) s ∈ colsM b := by
  have hi7 : inR (k : Int) 0 7 = true := inR_iff.2 ⟨by omega, by omega⟩
  have hv := (seen_ok h hi7).1
  obtain ⟨_, _, _, _, _, hcs⟩ := blockOk_spec hv
  have hm := gx_mem hi
  refine mem_cols.2 ⟨colorAt_in (hcs _ hm) s, ?_⟩
  rw [← area_pos h, ← area_seen _ h hi7, area_pos hv]
  unfold usedM
  rw [List.any_eq_true]
  refine ⟨_, hm, ?_⟩
  rcases colorAt_mem (gx (SeenM b (k : Int)).Cells i) s with e | e <;> rw [e] <;> simp

def cnt1 (u v c d : Int) : Int := bif c == u && d == v then 1 else 0
def sumP (ps : List (Int × Int)) (f : Int → Int → Int) : Int := isum (ps.map fun p => f p.1 p.2)
theorem sumP_cons (p : Int × Int) (ps : List (Int × Int)) (f : Int → Int → Int) : sumP (p :: ps) f = f p.1 p.2 + sumP ps f := rfl
theorem pick_none (c d : Int) : ∀ {ps : List (Int × Int)}, (∀ p ∈ ps, p.1 ≠ c) → sumP ps (fun u v => cnt1 u v c d) = 0
  | [], _ => rfl
  | p :: ps, h => by
    have hp := h p (by simp)
    have hb : (c == p.1) = false := by simpa using fun e : c = p.1 => hp e.symm
    rw [sumP_cons, pick_none c d fun q hq => h q (by simp [hq])]
    simp [cnt1, hb]
theorem pick_one {g : Int → Int} {c d : Int} : ∀ {ps : List (Int × Int)}, (ps.map Prod.fst).Nodup → c ∈ ps.map Prod.fst → (∀ p ∈ ps, g p.1 = p.2) → sumP ps (fun u v => cnt1 u v c d) = bif d == g c then 1 else 0
  | [], _, hm, _ => by simp at hm
  | p :: ps, hn, hm, hg => by
    rw [List.map_cons, List.nodup_cons] at hn
    rw [sumP_cons]
    have hgp := hg p (by simp)
    by_cases e : c = p.1
    · have hz : ∀ q ∈ ps, q.1 ≠ c := fun q hq h => hn.1 (by rw [← e, ← h]; exact List.mem_map_of_mem hq)
      rw [pick_none c d hz, e, hgp]
      simp [cnt1]
    · have hm' : c ∈ ps.map Prod.fst := by
        rw [List.map_cons, List.mem_cons] at hm
        rcases hm with h | h
        · exact absurd h e
        · exact h
      have hb : (c == p.1) = false := by simpa using e
      rw [pick_one hn.2 hm' fun q hq => hg q (by simp [hq])]
      simp [cnt1, hb]
theorem sumP_swap (m : Nat) (f : Nat → Int → Int → Int) : ∀ ps : List (Int × Int), sumP ps (fun u v => sumN m fun i => f i u v) = sumN m fun i => sumP ps (f i)
  | [] => by
    have : sumN m (fun i => sumP [] (f i)) = sumN m fun _ => 0 := sumN_congr fun _ _ => rfl
    rw [this, sumN_nil]; rfl
  | p :: ps => by
    rw [sumP_cons, sumP_swap m f ps, ← sumN_add]
    rfl
/-- At how many sides the one block has the color v and the other one u. -/
def TM (b d : GBlock) (u v : Int) : Int := sumN b.Cells.length fun i => sumN 4 fun s => cnt1 u v (ColorAtM (gx d.Cells i) s) (ColorAtM (gx b.Cells i) s)
theorem like_exchange {b d : GBlock} (h : pairM b d = true) {l : List Int} (hl : ListOkM l = true) {ps : List (Int × Int)} (hn : (ps.map Prod.fst).Nodup) (hc : ∀ i, i < d.Cells.length → ∀ s, ColorAtM (gx d.Cells i) s ∈ ps.map Prod.fst) (hg : ∀ p ∈ ps, gx l p.1.toNat = p.2) : LikeM b (exB l d) = sumP ps (TM b d) := by
  obtain ⟨h1, h2, h3, h4⟩ := pair_len h
  obtain ⟨_, _, _, _, _, c2⟩ := blockOk_spec h2
  have e : sumP ps (TM b d) = sumN b.Cells.length fun i => sumN 4 fun s => sumP ps fun u v => cnt1 u v (ColorAtM (gx d.Cells i) s) (ColorAtM (gx b.Cells i) s) := by
    unfold TM
    rw [sumP_swap]
    refine sumN_congr fun i _ => ?_
    rw [sumP_swap]
  rw [e]
  unfold LikeM
  refine sumN_congr fun i hi => ?_
  unfold cellLikeM
  refine sumN_congr fun s hs => ?_
  have hx : gx (exB l d).Cells i = ExchangeCellM (gx d.Cells i) l := gx_map _ (by omega)
  rw [hx, colorAt_exchange (c2 _ (gx_mem (by omega))) hl, pick_one (g := fun x => gx l x.toNat) hn (hc i (by omega) s) hg]

def maskM : List Nat → Int
  | [] => 0
  | a :: r => orI (maskM r) (shlI 1 (a : Int))
theorem mask0 : ∀ k : Nat, k < 6 → (andI (shrI 0 (k : Int)) 1 == 0) = true := by decide +kernel
theorem mask1 : ∀ a : Nat, a < 6 → ∀ k : Nat, k < 6 → (andI (shrI (orI 0 (shlI 1 (a : Int))) (k : Int)) 1 == 0) = !(k == a) := by decide +kernel
theorem mask2 : ∀ a : Nat, a < 6 → ∀ b : Nat, b < 6 → ∀ k : Nat, k < 6 → (andI (shrI (orI (orI 0 (shlI 1 (b : Int))) (shlI 1 (a : Int))) (k : Int)) 1 == 0) = !(k == a || k == b) := by decide +kernel
theorem mask_free {used : List Nat} (hl : used.length ≤ 2) (hu : ∀ a ∈ used, a < 6) {k : Nat} (hk : k < 6) : (andI (shrI (maskM used) (k : Int)) 1 == 0) = !(used.contains k) := by
  match used, hl, hu with
  | [], _, _ => exact mask0 k hk
  | [a], _, hu => rw [show maskM [a] = orI 0 (shlI 1 (a : Int)) from rfl, mask1 a (hu a (by simp)) k hk, Bool.eq_iff_iff]; simp
  | [a, b], _, hu => rw [show maskM [a, b] = orI (orI 0 (shlI 1 (b : Int))) (shlI 1 (a : Int)) from rfl, mask2 a (hu a (by simp)) b (hu b (by simp)) k hk, Bool.eq_iff_iff]; simp
  | a :: b :: c :: r, hl, _ => simp at hl
/-- The greatest of what p allows. -/
def mxc : Nat → (Nat → Bool) → (Nat → Int) → Int
  | 0, _, _ => 0
  | n + 1, p, g => bif p n then (if g n > mxc n p g then g n else mxc n p g) else mxc n p g
theorem mxc_nonneg : ∀ n p g, 0 ≤ mxc n p g
  | 0, _, _ => Int.le_refl _
  | n + 1, p, g => by
    have := mxc_nonneg n p g
    unfold mxc
    cases p n
    · exact this
    · simp only [cond_true]; split <;> omega
theorem mxc_le {p : Nat → Bool} {g : Nat → Int} : ∀ {n k : Nat}, k < n → p k = true → g k ≤ mxc n p g
  | n + 1, k, h, hp => by
    unfold mxc
    rcases Nat.lt_or_ge k n with hlt | hge
    · have := mxc_le (g := g) hlt hp
      cases p n
      · exact this
      · simp only [cond_true]; split <;> omega
    · have e : k = n := by omega
      subst e
      rw [hp]
      simp only [cond_true]; split <;> omega
theorem mxc_att {p : Nat → Bool} {g : Nat → Int} : ∀ n, mxc n p g = 0 ∨ ∃ k, k < n ∧ p k = true ∧ mxc n p g = g k
  | 0 => .inl rfl
  | n + 1 => by
    have ih := mxc_att (p := p) (g := g) n
    unfold mxc
    cases hp : p n
    · simp only [cond_false]
      rcases ih with h | ⟨k, h1, h2, h3⟩
      · exact .inl h
      · exact .inr ⟨k, by omega, h2, h3⟩
    · simp only [cond_true]
      split
      · exact .inr ⟨n, by omega, hp, rfl⟩
      · rcases ih with h | ⟨k, h1, h2, h3⟩
        · exact .inl h
        · exact .inr ⟨k, by omega, h2, h3⟩
theorem mxc_congr {p q : Nat → Bool} {g h : Nat → Int} : ∀ {n : Nat}, (∀ k, k < n → p k = q k) → (∀ k, k < n → g k = h k) → mxc n p g = mxc n q h
  | 0, _, _ => rfl
  | n + 1, H, K => by
    unfold mxc
    rw [mxc_congr (n := n) (fun k hk => H k (by omega)) (fun k hk => K k (by omega)), H n (by omega), K n (by omega)]
def bestM (T : Int → Int → Int) : List Int → List Nat → Int
  | [], _ => 0
  | u :: r, used => mxc 6 (fun a => !used.contains a) fun a => T u (a : Int) + bestM T r (a :: used)
theorem best_bound {T : Int → Int → Int} (hT : ∀ u v, 0 ≤ T u v ∧ T u v ≤ 64) : ∀ (L : List Int) (used : List Nat), 0 ≤ bestM T L used ∧ bestM T L used ≤ 64 * L.length
  | [], _ => by simp [bestM]
  | u :: r, used => by
    unfold bestM
    refine ⟨mxc_nonneg _ _ _, ?_⟩
    rcases mxc_att (p := fun a => !used.contains a) (g := fun a => T u (a : Int) + bestM T r (a :: used)) 6 with h | ⟨k, h1, h2, h3⟩
    · rw [h]; omega
    · rw [h3]
      have := best_bound hT r (k :: used)
      have := hT u (k : Int)
      simp only [List.length_cons]; omega
theorem best_ge {T : Int → Int → Int} : ∀ (L : List Int) (used : List Nat) (p : List Int), p.length = L.length → (∀ x ∈ p, 0 ≤ x ∧ x ≤ 5) → p.Nodup → (∀ x ∈ p, ¬ x.toNat ∈ used) → sumP (L.zip p) T ≤ bestM T L used
  | [], used, p, _, _, _, _ => by simp [sumP, isum, bestM]
  | u :: r, used, [], hl, _, _, _ => by simp at hl
  | u :: r, used, v :: p, hl, hr, hn, hu => by
    rw [List.nodup_cons] at hn
    obtain ⟨v0, v1⟩ := hr v (by simp)
    have ih := best_ge (T := T) r (v.toNat :: used) p (by simpa using hl) (fun x hx => hr x (by simp [hx])) hn.2 (fun x hx => by
      have := hr x (by simp [hx])
      simp only [List.mem_cons, not_or]
      refine ⟨fun e => hn.1 ?_, hu x (by simp [hx])⟩
      have : x = v := by omega
      rw [← this]; exact hx)
    have hm := mxc_le (p := fun a => !used.contains a) (g := fun a => T u (a : Int) + bestM T r (a :: used)) (n := 6) (k := v.toNat) (by omega) (by
      have := hu v (by simp)
      simpa using this)
    have ev : ((v.toNat : Nat) : Int) = v := by omega
    simp only [ev] at hm
    rw [List.zip_cons_cons, sumP_cons]
    unfold bestM
    simp only
    omega
theorem free_color {used : List Nat} (hl : used.length ≤ 2) : ∃ a, a < 6 ∧ ¬ a ∈ used := by
  match used, hl with
  | [], _ => exact ⟨0, by omega, by simp⟩
  | [x], _ =>
    by_cases h : x = 0
    · exact ⟨1, by omega, by simp; omega⟩
    · exact ⟨0, by omega, by simp; omega⟩
  | [x, y], _ =>
    by_cases h0 : x = 0 ∨ y = 0
    · by_cases h1 : x = 1 ∨ y = 1
      · exact ⟨2, by omega, by simp; omega⟩
      · exact ⟨1, by omega, by simp; omega⟩
    · exact ⟨0, by omega, by simp; omega⟩
  | a :: b :: c :: r, hl => simp at hl
theorem best_att {T : Int → Int → Int} (hT : ∀ u v, 0 ≤ T u v) : ∀ (L : List Int) (used : List Nat), used.length + L.length ≤ 3 → ∃ p : List Int, p.length = L.length ∧ (∀ x ∈ p, 0 ≤ x ∧ x ≤ 5) ∧ p.Nodup ∧ (∀ x ∈ p, ¬ x.toNat ∈ used) ∧ bestM T L used ≤ sumP (L.zip p) T
  | [], used, _ => ⟨[], rfl, by simp, by simp, by simp, by simp [sumP, isum, bestM]⟩
  | u :: r, used, hl => by
    have step : ∀ a, a < 6 → ¬ a ∈ used → ∃ p : List Int, p.length = (u :: r).length ∧ (∀ x ∈ p, 0 ≤ x ∧ x ≤ 5) ∧ p.Nodup ∧ (∀ x ∈ p, ¬ x.toNat ∈ used) ∧ T u (a : Int) + bestM T r (a :: used) ≤ sumP ((u :: r).zip p) T := fun a ha hna => by
      obtain ⟨p, p1, p2, p3, p4, p5⟩ := best_att hT r (a :: used) (by simp at hl ⊢; omega)
      refine ⟨(a : Int) :: p, by simp [p1], ?_, ?_, ?_, ?_⟩
      · intro x hx
        simp only [List.mem_cons] at hx
        rcases hx with rfl | hx
        · omega
        · exact p2 x hx
      · rw [List.nodup_cons]
        exact ⟨fun hm => p4 _ hm (by simp), p3⟩
      · intro x hx
        simp only [List.mem_cons] at hx
        rcases hx with rfl | hx
        · simpa using hna
        · exact fun h => p4 x hx (by simp [h])
      · rw [List.zip_cons_cons, sumP_cons]
        simp only; omega
    unfold bestM
    rcases mxc_att (p := fun a => !used.contains a) (g := fun a => T u (a : Int) + bestM T r (a :: used)) 6 with h | ⟨k, h1, h2, h3⟩
    · obtain ⟨a, ha, hna⟩ := free_color (used := used) (by simp at hl; omega)
      obtain ⟨p, p1, p2, p3, p4, p5⟩ := step a ha hna
      refine ⟨p, p1, p2, p3, p4, ?_⟩
      rw [h]
      have hs : 0 ≤ sumP ((u :: r).zip p) T := isum_nonneg fun q _ => hT q.1 q.2
      exact hs
    · obtain ⟨p, p1, p2, p3, p4, p5⟩ := step k h1 (by simpa using h2)
      exact ⟨p, p1, p2, p3, p4, by rw [h3]; exact p5⟩

/-- The colors that an index picks. -/
def pkM : List Nat → Nat → List Int → List Int
  | [], _, _ => []
  | r :: rs, i, left => gx left (i / r) :: pkM rs (i % r) (left.take (i / r) ++ left.drop (i / r + 1))
theorem pk1_ok : ∀ i, i < 6 → (pkM [1] i six).Nodup ∧ ∀ x ∈ pkM [1] i six, 0 ≤ x ∧ x ≤ 5 := by decide +kernel
theorem pk2_ok : ∀ i, i < 30 → (pkM [5, 1] i six).Nodup ∧ ∀ x ∈ pkM [5, 1] i six, 0 ≤ x ∧ x ≤ 5 := by decide +kernel
theorem pk3_ok : ∀ i, i < 120 → (pkM [20, 4, 1] i six).Nodup ∧ ∀ x ∈ pkM [20, 4, 1] i six, 0 ≤ x ∧ x ≤ 5 := by decide +kernel
def inv2 (a b : Nat) : Nat := 5 * a + (b - bif decide (a < b) then 1 else 0)
def inv3 (a b c : Nat) : Nat := 20 * a + 4 * (b - bif decide (a < b) then 1 else 0) + (c - (bif decide (a < c) then 1 else 0) - (bif decide (b < c) then 1 else 0))
theorem pk1_inv : ∀ a, a < 6 → pkM [1] a six = [(a : Int)] := by decide +kernel
theorem pk2_inv : ∀ a, a < 6 → ∀ b, b < 6 → a ≠ b → inv2 a b < 30 ∧ pkM [5, 1] (inv2 a b) six = [(a : Int), (b : Int)] := by decide +kernel
def chk3 : Bool := (List.range 6).all fun a => (List.range 6).all fun b => (List.range 6).all fun c => (a == b || a == c || b == c) || (decide (inv3 a b c < 120) && (pkM [20, 4, 1] (inv3 a b c) six == [(a : Int), (b : Int), (c : Int)]))
theorem chk3_ok : chk3 = true := by decide +kernel
theorem pk3_inv (a : Nat) (ha : a < 6) (b : Nat) (hb : b < 6) (c : Nat) (hc : c < 6) (hab : a ≠ b) (hac : a ≠ c) (hbc : b ≠ c) : inv3 a b c < 120 ∧ pkM [20, 4, 1] (inv3 a b c) six = [(a : Int), (b : Int), (c : Int)] := by
  have h := chk3_ok
  unfold chk3 at h
  rw [List.all_eq_true] at h
  have h := h a (by simpa using ha)
  rw [List.all_eq_true] at h
  have h := h b (by simpa using hb)
  rw [List.all_eq_true] at h
  have h := h c (by simpa using hc)
  have e1 : (a == b) = false := by simpa using hab
  have e2 : (a == c) = false := by simpa using hac
  have e3 : (b == c) = false := by simpa using hbc
  rw [e1, e2, e3] at h
  simp only [Bool.or_self, Bool.false_or, Bool.and_eq_true, decide_eq_true_iff, beq_iff_eq] at h
  exact h
def asgM : List Int → List Int → List Int → List Int
  | u :: L, v :: p, acc => asgM L p (acc.set u.toNat v)
  | _, _, acc => acc
theorem asg_len : ∀ (L p acc : List Int), (asgM L p acc).length = acc.length
  | [], _, _ => by simp [asgM]
  | _ :: _, [], _ => by simp [asgM]
  | u :: L, v :: p, acc => by rw [asgM, asg_len L p]; simp
theorem asg_other : ∀ (L p acc : List Int) {x : Nat}, (∀ u ∈ L, u.toNat ≠ x) → gx (asgM L p acc) x = gx acc x
  | [], _, _, _, _ => by simp [asgM]
  | _ :: _, [], _, _, _ => by simp [asgM]
  | u :: L, v :: p, acc, x, h => by
    rw [asgM, asg_other L p _ fun w hw => h w (by simp [hw]), gx_set_ne (Ne.symm (h u (by simp)))]
theorem asg_gx : ∀ (L p acc : List Int), acc.length = 6 → L.Nodup → (∀ u ∈ L, 0 ≤ u ∧ u ≤ 5) → ∀ q ∈ L.zip p, gx (asgM L p acc) q.1.toNat = q.2
  | [], _, _, _, _, _, q, hq => by simp at hq
  | _ :: _, [], _, _, _, _, q, hq => by simp at hq
  | u :: L, v :: p, acc, hl, hn, hr, q, hq => by
    rw [List.nodup_cons] at hn
    rw [List.zip_cons_cons, List.mem_cons] at hq
    have hu := hr u (by simp)
    rw [asgM]
    rcases hq with rfl | hq
    · rw [asg_other L p _ fun w hw e => hn.1 (by
        have := hr w (by simp [hw])
        have : w = u := by simp only at e; omega
        rw [← this]; exact hw), gx_set (by rw [hl]; omega)]
    · exact asg_gx L p _ (by simpa using hl) hn.2 (fun w hw => hr w (by simp [hw])) q hq
theorem asg_in : ∀ (L p acc : List Int), (∀ x ∈ acc, 0 ≤ x ∧ x ≤ 5) → (∀ x ∈ p, 0 ≤ x ∧ x ≤ 5) → ∀ x ∈ asgM L p acc, 0 ≤ x ∧ x ≤ 5
  | [], _, _, h, _, x, hx => h x (by simpa [asgM] using hx)
  | _ :: _, [], _, h, _, x, hx => h x (by simpa [asgM] using hx)
  | u :: L, v :: p, acc, h, hp, x, hx => by
    rw [asgM] at hx
    refine asg_in L p _ (fun y hy => ?_) (fun y hy => hp y (by simp [hy])) x hx
    rcases List.mem_or_eq_of_mem_set hy with hm | rfl
    · exact h y hm
    · exact hp _ (by simp)
def zeros6 : List Int := List.replicate 6 0
def wayM (L p : List Int) : List Int := asgM L p zeros6
theorem way_ok {L p : List Int} (hp : ∀ x ∈ p, 0 ≤ x ∧ x ≤ 5) : ListOkM (wayM L p) = true :=
  listOk_of (by unfold wayM; rw [asg_len]; rfl) (asg_in L p _ (by intro x hx; simp [zeros6] at hx; omega) hp)
def ratesM : Nat → List Nat
  | 1 => [1]
  | 2 => [5, 1]
  | 3 => [20, 4, 1]
  | _ => []
def chsM : Nat → Nat
  | 1 => 6
  | 2 => 30
  | 3 => 120
  | _ => 1
theorem pk_ok {n i : Nat} (h1 : 1 ≤ n) (h3 : n ≤ 3) (hi : i < chsM n) : (pkM (ratesM n) i six).length = n ∧ (pkM (ratesM n) i six).Nodup ∧ ∀ x ∈ pkM (ratesM n) i six, 0 ≤ x ∧ x ≤ 5 := by
  have hn : n = 1 ∨ n = 2 ∨ n = 3 := by omega
  rcases hn with rfl | rfl | rfl
  · exact ⟨rfl, pk1_ok i hi⟩
  · exact ⟨rfl, pk2_ok i hi⟩
  · exact ⟨rfl, pk3_ok i hi⟩
theorem pk_surj {p : List Int} (h1 : 1 ≤ p.length) (h3 : p.length ≤ 3) (hr : ∀ x ∈ p, 0 ≤ x ∧ x ≤ 5) (hn : p.Nodup) : ∃ i, i < chsM p.length ∧ pkM (ratesM p.length) i six = p := by
  match p, h1, h3, hr, hn with
  | [x], _, _, hr, _ =>
    obtain ⟨a, rfl⟩ := Int.eq_ofNat_of_zero_le (hr x (by simp)).1
    have := (hr _ (List.mem_singleton.2 rfl)).2
    exact ⟨a, by simp only [chsM, List.length_cons, List.length_nil]; omega, pk1_inv a (by omega)⟩
  | [x, y], _, _, hr, hn =>
    have hx := hr x (by simp)
    have hy := hr y (by simp)
    obtain ⟨a, rfl⟩ := Int.eq_ofNat_of_zero_le hx.1
    obtain ⟨b, rfl⟩ := Int.eq_ofNat_of_zero_le hy.1
    have hab : a ≠ b := fun e => by subst e; simp at hn
    obtain ⟨g1, g2⟩ := pk2_inv a (by omega) b (by omega) hab
    exact ⟨inv2 a b, g1, g2⟩
  | [x, y, z], _, _, hr, hn =>
    have hx := hr x (by simp)
    have hy := hr y (by simp)
    have hz := hr z (by simp)
    obtain ⟨a, rfl⟩ := Int.eq_ofNat_of_zero_le hx.1
    obtain ⟨b, rfl⟩ := Int.eq_ofNat_of_zero_le hy.1
    obtain ⟨c, rfl⟩ := Int.eq_ofNat_of_zero_le hz.1
    have hab : a ≠ b := fun e => by subst e; simp at hn
    have hac : a ≠ c := fun e => by subst e; simp at hn
    have hbc : b ≠ c := fun e => by subst e; simp at hn
    obtain ⟨g1, g2⟩ := pk3_inv a (by omega) b (by omega) c (by omega) hab hac hbc
    exact ⟨inv3 a b c, g1, g2⟩
  | _ :: _ :: _ :: _ :: _, _, h3, _, _ => simp at h3

theorem impl_choices_small {n : Nat} (h : n ≤ 3) : impl_choices (n : Int) = some ((bif n == 0 then 1 else chsM n : Nat) : Int) := by
  have hn : n = 0 ∨ n = 1 ∨ n = 2 ∨ n = 3 := by omega
  rcases hn with rfl | rfl | rfl | rfl <;> rfl

theorem impl_upTo_six : impl_upTo 6 = some six := rfl

theorem way_step {L : List Int} {k idx r c1 c2 : Nat} {left list : List Int} (e1 : impl_choices ((L.length : Nat) : Int) = some (c1 : Int)) (e2 : impl_choices ((k + 1 : Nat) : Int) = some (c2 : Int)) (h2 : 0 < c2) (hr : c1 / c2 = r) (hr0 : 0 < r) (hr1 : c1 ≤ 1000) (hidx : idx < r * left.length) (hleft : left.length ≤ 6) (hlist : list.length = 6) (hu : 0 ≤ gx L k ∧ gx L k ≤ 5) (hi : idx ≤ 1000) :
    impl_ColorwayAt_L1 L k ((idx : Int), left, list) = some (.next (((idx % r : Nat) : Int), left.take (idx / r) ++ left.drop (idx / r + 1), list.set (gx L k).toNat (gx left (idx / r)))) := by
  have hq : idx / r < left.length := Nat.div_lt_of_lt_mul hidx
  have hq2 : idx / r ≤ idx := Nat.div_le_self _ _
  have hrr : r ≤ c1 := by rw [← hr]; exact Nat.div_le_self _ _
  have er : wr (((c1 / c2 : Nat) : Int)) = (r : Int) := by
    rw [hr]; exact wr_of (by omega) (by omega)
  unfold impl_ColorwayAt_L1
  rw [e1, e2]
  simp only [Option.bind_some, er, tdiv_nat, tmod_nat]
  generalize idx / r = q at hq hq2 ⊢
  have eq1 : wr ((q : Nat) : Int) = (q : Int) := wr_of (by omega) (by omega)
  have eq2 : wr ((q : Int) + 1) = ((q + 1 : Nat) : Int) := by rw [wr_of (by omega) (by omega)]; simp
  simp only [eq1, eq2, Int.toNat_natCast]
  have ht : ((left.drop 0).take (q - 0)) = left.take q := by simp
  have hd : ((left.drop (q + 1)).take (left.length - (q + 1))) = left.drop (q + 1) := List.take_of_length_le (by simp)
  rw [gd_pos (by omega), gd_pos (by omega), gd_pos ⟨by omega, by omega⟩, gd_pos ⟨hu.1, by omega⟩, gd_pos ⟨by omega, by omega, by omega⟩, gd_pos ⟨by omega, by omega, by omega⟩, ht, hd, gd_pos (by simp; omega), gd_pos (by simp; omega)]
  rfl

theorem impl_ColorwayAt_ok {b : GBlock} (h : BlockOkM b = true) (h3 : (colsM b).length ≤ 3) {i : Nat} (hi : i < chsM (colsM b).length) : impl_ColorwayAt b (i : Int) = some (exB (wayM (colsM b) (pkM (ratesM (colsM b).length) i six)) b, true) := by
  have hp := cols_pos h
  have hc : ColorsM b = colsM b := by simp [ColorsM, h]
  have hu : ∀ k, k < (colsM b).length → 0 ≤ gx (colsM b) k ∧ gx (colsM b) k ≤ 5 := fun k hk => (mem_cols.1 (gx_mem hk)).1
  have hpk := pk_ok hp h3 hi
  have hch := impl_choices_small h3
  have hn0 : ((colsM b).length == 0) = false := by rw [beq_eq_false_iff_ne]; omega
  rw [hn0, cond_false] at hch
  have hcount : impl_ColorwayCount b = some ((chsM (colsM b).length : Nat) : Int) := by
    unfold impl_ColorwayCount
    simp only [impl_BlockOk_eq, h, Option.bind_some, Bool.not_true, cond_false, impl_ColorsOf_eq, hc, hch]
  have hle : chsM (colsM b).length ≤ 120 := by
    have hn : (colsM b).length = 1 ∨ (colsM b).length = 2 ∨ (colsM b).length = 3 := by omega
    rcases hn with e | e | e <;> rw [e] <;> decide
  have ew : wr (((chsM (colsM b).length : Nat) : Int) - 1) = ((chsM (colsM b).length : Nat) : Int) - 1 := wr_of (by omega) (by omega)
  have hin : inR (i : Int) 0 (((chsM (colsM b).length : Nat) : Int) - 1) = true := inR_iff.2 ⟨by omega, by omega⟩
  have hloop : (lpO (impl_ColorwayAt_L1 (colsM b)) (colsM b).length ((i : Int), six, List.replicate 6 (0 : Int))).map (fun s => s.2.2) = some (wayM (colsM b) (pkM (ratesM (colsM b).length) i six)) := by
    have hst := fun (k c2 r idx : Nat) (left list : List Int) (q1 : impl_choices ((k + 1 : Nat) : Int) = some (c2 : Int)) (q2 : 0 < c2) (q3 : chsM (colsM b).length / c2 = r) (q4 : 0 < r) (q5 : idx < r * left.length) (q6 : left.length ≤ 6) (q7 : list.length = 6) (q8 : k < (colsM b).length) (q9 : idx ≤ 1000) => way_step (L := colsM b) (k := k) (idx := idx) (r := r) (c1 := chsM (colsM b).length) (c2 := c2) (left := left) (list := list) hch q1 q2 q3 q4 (by omega) q5 q6 q7 (hu k q8) q9
    have hn : (colsM b).length = 1 ∨ (colsM b).length = 2 ∨ (colsM b).length = 3 := by omega
    generalize hL : colsM b = L at hn hst hi ⊢
    rcases hn with e | e | e
    · obtain ⟨u, rfl⟩ : ∃ u, L = [u] := by
        match L, e with
        | [u], _ => exact ⟨u, rfl⟩
      have hi6 : i < 6 := hi
      have s0 := hst 0 6 1 i six (List.replicate 6 (0 : Int)) rfl (by omega) (by simp [chsM]) (by omega) (by simp [six]; omega) (by simp [six]) (by simp) (by simp) (by omega)
      unfold lpO
      rw [show ([u] : List Int).length = 0 + 1 from rfl, forO, s0]
      rfl
    · obtain ⟨u, v, rfl⟩ : ∃ u v, L = [u, v] := by
        match L, e with
        | [u, v], _ => exact ⟨u, v, rfl⟩
      have hi6 : i < 30 := hi
      have s0 := hst 0 6 5 i six (List.replicate 6 (0 : Int)) rfl (by omega) (by simp [chsM]) (by omega) (by simp [six]; omega) (by simp [six]) (by simp) (by simp) (by omega)
      have l1 : (six.take (i / 5) ++ six.drop (i / 5 + 1)).length = 5 := by simp [six]; omega
      have s1 := hst 1 30 1 (i % 5) (six.take (i / 5) ++ six.drop (i / 5 + 1)) ((List.replicate 6 (0 : Int)).set (gx [u, v] 0).toNat (gx six (i / 5))) rfl (by omega) (by simp [chsM]) (by omega) (by rw [l1]; omega) (by rw [l1]; omega) (by simp) (by simp) (by omega)
      unfold lpO
      rw [show ([u, v] : List Int).length = 1 + 1 from rfl, forO, s0]
      simp only [Option.bind_some]
      rw [forO, s1]
      rfl
    · obtain ⟨u, v, w, rfl⟩ : ∃ u v w, L = [u, v, w] := by
        match L, e with
        | [u, v, w], _ => exact ⟨u, v, w, rfl⟩
      have hi6 : i < 120 := hi
      have s0 := hst 0 6 20 i six (List.replicate 6 (0 : Int)) rfl (by omega) (by simp [chsM]) (by omega) (by simp [six]; omega) (by simp [six]) (by simp) (by simp) (by omega)
      have l1 : (six.take (i / 20) ++ six.drop (i / 20 + 1)).length = 5 := by simp [six]; omega
      have s1 := hst 1 30 4 (i % 20) (six.take (i / 20) ++ six.drop (i / 20 + 1)) ((List.replicate 6 (0 : Int)).set (gx [u, v, w] 0).toNat (gx six (i / 20))) rfl (by omega) (by simp [chsM]) (by omega) (by rw [l1]; omega) (by rw [l1]; omega) (by simp) (by simp) (by omega)
      generalize hl1 : six.take (i / 20) ++ six.drop (i / 20 + 1) = left1 at l1 s0 s1
      have l2 : (left1.take (i % 20 / 4) ++ left1.drop (i % 20 / 4 + 1)).length = 4 := by simp; omega
      have s2 := hst 2 120 1 (i % 20 % 4) (left1.take (i % 20 / 4) ++ left1.drop (i % 20 / 4 + 1)) (((List.replicate 6 (0 : Int)).set (gx [u, v, w] 0).toNat (gx six (i / 20))).set (gx [u, v, w] 1).toNat (gx left1 (i % 20 / 4))) rfl (by omega) (by simp [chsM]) (by omega) (by rw [l2]; omega) (by rw [l2]; omega) (by simp) (by simp) (by omega)
      unfold lpO
      rw [show ([u, v, w] : List Int).length = 2 + 1 from rfl, forO, s0]
      simp only [Option.bind_some]
      rw [forO, s1]
      simp only [Option.bind_some]
      rw [forO, s2]
      subst hl1
      rfl
  cases hl : lpO (impl_ColorwayAt_L1 (colsM b)) (colsM b).length ((i : Int), six, List.replicate 6 (0 : Int)) with
  | none => rw [hl] at hloop; cases hloop
  | some e =>
    rw [hl] at hloop
    have hz : e.2.2 = wayM (colsM b) (pkM (ratesM (colsM b).length) i six) := Option.some.inj hloop
    have hw := way_ok (L := colsM b) hpk.2.2
    have hwl := (listOk_spec hw).1
    unfold impl_ColorwayAt
    rw [hcount]
    simp only [Option.bind_some, within_eq, ew, hin, Bool.not_true, cond_false, impl_ColorsOf_eq, hc, impl_upTo_six]
    rw [gd_pos (by omega), hl]
    simp only [Option.bind_some, hz]
    rw [impl_ExchangeBlock_eq (blockOk_sm h).1 (by omega), exB_eq h hw]
    rfl

def PatLikeM (b d : GBlock) : Int := bif pairM b d && decide ((colsM d).length ≤ 3) then mx 8 (fun k => bestM (TM b (SeenM d (k : Int))) (colsM d) []) else 0
theorem zip_fst {L p : List Int} (h : p.length = L.length) : (L.zip p).map Prod.fst = L := by
  rw [List.map_fst_zip (by omega)]
theorem like_way {b d : GBlock} (h : pairM b d = true) {k : Nat} (hk : k < 8) {p : List Int} (hl : p.length = (colsM d).length) (hr : ∀ x ∈ p, 0 ≤ x ∧ x ≤ 5) : LikeM b (SeenM (exB (wayM (colsM d) p) d) (k : Int)) = sumP ((colsM d).zip p) (TM b (SeenM d (k : Int))) := by
  obtain ⟨h1, h2, h3, h4⟩ := pair_len h
  have hw := way_ok (L := colsM d) hr
  rw [seen_exchange h2 hw hk]
  refine like_exchange (pair_seen h hk) hw (by rw [zip_fst hl]; exact cols_nodup d) (fun i hi s => by rw [zip_fst hl]; exact seen_colors h2 hk hi s) ?_
  exact asg_gx _ _ _ rfl (cols_nodup d) fun u hu => (mem_cols.1 hu).1

theorem bytesLess_irrefl : ∀ l : List UInt8, Op.bytesLess l l = false
  | [] => rfl
  | x :: l => by
    have := bytesLess_irrefl l
    simp [Op.bytesLess, this]
theorem slt_irrefl (s : Str) : slt s s = false := bytesLess_irrefl _
def lstM (F : Nat → GBlock) : Nat → GBlock
  | 0 => F 0
  | n + 1 => bif slt (textM (F (n + 1))) (textM (lstM F n)) then F (n + 1) else lstM F n
def ixM (F : Nat → GBlock) : Nat → Nat
  | 0 => 0
  | k + 1 => bif slt (textM (F k)) (textM (F (ixM F k))) then k else ixM F k
theorem ix_lst (F : Nat → GBlock) : ∀ k, F (ixM F (k + 1)) = lstM F k
  | 0 => by
    have : slt (textM (F 0)) (textM (F 0)) = false := slt_irrefl _
    simp [ixM, lstM, this]
  | k + 1 => by
    have ih := ix_lst F k
    rw [ixM, lstM, ih]
    cases slt (textM (F (k + 1))) (textM (lstM F k))
    · exact ih
    · rfl
theorem ixM_le (F : Nat → GBlock) : ∀ k, ixM F k ≤ k
  | 0 => Nat.le_refl _
  | k + 1 => by
    have := ixM_le F k
    unfold ixM
    cases slt (textM (F k)) (textM (F (ixM F k))) <;> simp <;> omega
theorem lst_congr {F G : Nat → GBlock} : ∀ {n : Nat}, (∀ k, k ≤ n → F k = G k) → lstM F n = lstM G n
  | 0, h => h 0 (Nat.le_refl _)
  | n + 1, h => by rw [lstM, lstM, lst_congr (n := n) fun k hk => h k (by omega), h (n + 1) (Nat.le_refl _)]
theorem lst_in (F : Nat → GBlock) : ∀ n, ∃ k, k ≤ n ∧ lstM F n = F k
  | 0 => ⟨0, Nat.le_refl _, rfl⟩
  | n + 1 => by
    obtain ⟨k, hk, e⟩ := lst_in F n
    unfold lstM
    cases slt (textM (F (n + 1))) (textM (lstM F n))
    · exact ⟨k, by omega, e⟩
    · exact ⟨n + 1, Nat.le_refl _, rfl⟩

theorem impl_FormatInt_small {a : Int} (h0 : 0 ≤ a) (h1 : a ≤ 5) : impl_FormatInt a = some ⟨[digM a]⟩ := by
  unfold impl_FormatInt strconv_Itoa
  rw [gd_pos ⟨h0, by omega⟩]
  rfl

theorem impl_CellText_eq {c : GCell} (h : CellOkM c = true) : impl_CellText c = some ⟨cellTextM c⟩ := by
  obtain ⟨h1, h2, h3, h4, h5, h6, h7⟩ := cellOk_spec h
  have hs : c.Split = 0 ∨ c.Split = 1 ∨ c.Split = 2 := by omega
  unfold impl_CellText cellTextM
  simp only [impl_CellOk_eq, h, impl_FormatInt_small h3 h4, impl_FormatInt_small h5 h6, Option.bind_some, Bool.not_true, cond_false]
  rcases hs with e | e | e <;> rw [e]
  · rfl
  · rfl
  · rfl

theorem impl_TextOf_eq {b : GBlock} (h : BlockOkM b = true) : impl_TextOf b = some (textM b) := by
  obtain ⟨n, hn, h1, h2, hl, hc⟩ := blockOk_spec h
  have hnn : n * n ≤ 4 * 4 := Nat.mul_le_mul h2 h2
  unfold impl_TextOf
  simp only [impl_BlockOk_eq, h, Option.bind_some, Bool.not_true, cond_false]
  rw [gd_pos (by omega), lpO_st (f := impl_TextOf_L1 b) (s0 := (⟨[]⟩ : Str)) (fun k => (⟨cellsTextM (b.Cells.take k)⟩ : Str)) rfl (fun k hk => by
    have hx := hc _ (gx_mem hk)
    have hlen := cellsText_len (b.Cells.take k)
    have hlen2 : (b.Cells.take k).length ≤ 16 := by simp; omega
    have hlen3 := cellText_len (gx b.Cells k)
    simp only [impl_TextOf_L1, Option.bind_some, impl_CellText_eq hx]
    rw [gd_pos (by simp only [List.length_cons, List.length_nil]; omega), gd_pos (by simp only [sadd, List.length_append, List.length_cons, List.length_nil]; omega)]
    rw [List.take_succ_eq_append_getElem hk, ← gx_lt hk]
    simp [sadd, cellsTextM])]
  simp [textM, h]

theorem impl_least_eq {l : List GBlock} (h0 : 0 < l.length) (hl : l.length ≤ 1000) (hok : ∀ k, k < l.length → BlockOkM (gx l k) = true) : impl_least l = some (lstM (gx l) (l.length - 1)) := by
  unfold impl_least
  rw [gd_pos h0, gd_pos (by omega), lpO_st (f := impl_least_L1 l) (s0 := 0) (ixM (gx l)) rfl (fun k hk => by
    have hi := ixM_le (gx l) k
    unfold impl_least_L1
    rw [gd_pos (by omega), impl_TextOf_eq (hok k hk), impl_TextOf_eq (hok _ (by omega))]
    simp only [Option.bind_some]
    rfl)]
  have hi : ixM (gx l) l.length < l.length := by
    obtain ⟨n, hn⟩ : ∃ n, l.length = n + 1 := ⟨l.length - 1, by omega⟩
    rw [hn]
    unfold ixM
    have := ixM_le (gx l) n
    cases slt (textM (gx l n)) (textM (gx l (ixM (gx l) n))) <;> simp <;> omega
  simp only [Option.bind_some]
  rw [gd_pos hi]
  obtain ⟨n, hn⟩ : ∃ n, l.length = n + 1 := ⟨l.length - 1, by omega⟩
  rw [hn, ix_lst (gx l) n]
  rfl

def FormM (b : GBlock) : GBlock := bif BlockOkM b then lstM (fun k => SeenM b (k : Int)) 7 else ⟨0, []⟩
theorem seen_zero {b : GBlock} (h : BlockOkM b = true) : SeenM b ((0 : Nat) : Int) = b := by
  unfold SeenM
  rw [h]
  rfl
theorem form_ok {b : GBlock} (h : BlockOkM b = true) : BlockOkM (FormM b) = true ∧ (FormM b).Size = b.Size := by
  unfold FormM
  rw [h, cond_true]
  obtain ⟨k, hk, e⟩ := lst_in (fun k => SeenM b (k : Int)) 7
  rw [e]
  exact view_ok h (by omega)

theorem impl_LeastForm_eq (b : GBlock) : impl_LeastForm b = some (FormM b) := by
  unfold impl_LeastForm FormM
  simp only [impl_BlockOk_eq, Option.bind_some]
  cases h : BlockOkM b
  · rfl
  simp only [Bool.not_true, cond_false, cond_true, impl_views_eq, Option.bind_some]
  rw [impl_least_eq (by rw [views_len]; omega) (by rw [views_len]; omega) (fun k hk => by
    rw [views_len] at hk
    rw [views_gx _ hk]; exact (view_ok h hk).1), views_len]
  simp only [Option.bind_some]
  rw [lst_congr (G := fun k => SeenM b (k : Int)) fun k hk => views_gx b (by omega)]

def PattM (b : GBlock) : GBlock := bif BlockOkM b then lstM (fun k => PlainM (SeenM b (k : Int))) 7 else ⟨0, []⟩
theorem patt_ok {b : GBlock} (h : BlockOkM b = true) : BlockOkM (PattM b) = true ∧ (PattM b).Size = b.Size := by
  unfold PattM
  rw [h, cond_true]
  obtain ⟨k, hk, e⟩ := lst_in (fun k => PlainM (SeenM b (k : Int))) 7
  rw [e]
  obtain ⟨v1, v2⟩ := view_ok h (k := k) (by omega)
  obtain ⟨p1, p2⟩ := plain_ok v1
  exact ⟨p1, by rw [p2, v2]⟩

theorem spec_LeastPattern_eq (b : GBlock) : spec_LeastPattern b = some (PattM b) := by
  unfold spec_LeastPattern PattM
  simp only [spec_BlockOk_eq, Option.bind_some]
  cases h : BlockOkM b
  · rfl
  simp only [Bool.not_true, cond_false, cond_true, spec_l07Plain_eq h, Option.bind_some]
  rw [lpO_st (f := spec_LeastPattern_L1 b) (s0 := ((PlainM b).Size, (PlainM b).Cells)) (fun k => ((lstM (fun k => PlainM (SeenM b (k : Int))) k).Size, (lstM (fun k => PlainM (SeenM b (k : Int))) k).Cells)) (by rw [lstM, seen_zero h]) (fun k hk => by
    have hv := (view_ok h (k := k + 1) (by omega)).1
    have hp := (plain_ok hv).1
    have hb : BlockOkM (lstM (fun k => PlainM (SeenM b (k : Int))) k) = true := by
      obtain ⟨j, hj, e⟩ := lst_in (fun k => PlainM (SeenM b (k : Int))) k
      rw [e]; exact (plain_ok (view_ok h (by omega)).1).1
    simp only [spec_LeastPattern_L1, spec_SeenFrom_eq, spec_l07Plain_eq hv, spec_TextOf_eq hp, Option.bind_some]
    rw [show spec_TextOf (GBlock.mk (lstM (fun k => PlainM (SeenM b (k : Int))) k).Size (lstM (fun k => PlainM (SeenM b (k : Int))) k).Cells) = _ from spec_TextOf_eq hb]
    rfl)]
  rfl

def ArePattM (b d : GBlock) : Bool := BlockOkM b && BlockOkM d && SameBlockM (PattM b) (PattM d)

theorem spec_ArePatternsSame_eq (b d : GBlock) : spec_ArePatternsSame b d = some (ArePattM b d) := by
  unfold spec_ArePatternsSame ArePattM
  simp only [spec_BlockOk_eq, spec_LeastPattern_eq, Option.bind_some]
  cases hb : BlockOkM b
  · rfl
  cases hd : BlockOkM d
  · rfl
  simp only [cond_true, spec_SameBlock_eq (blockOk_sm (patt_ok hb).1).1, Option.bind_some, Bool.true_and]

def txsM (F : Nat → GBlock) : Nat → List Str
  | 0 => []
  | n + 1 => putS (txsM F n) (textM (F n))
def newM (F : Nat → GBlock) (k : Nat) : Bool := (List.range k).all fun j => !SameBlockM (F j) (F k)
def frmM (F : Nat → GBlock) : Nat → Nat
  | 0 => 0
  | n + 1 => frmM F n + (bif newM F n then 1 else 0)
theorem seq_comm (s t : Str) : seq s t = seq t s := by simp only [seq, Bool.beq_comm]
theorem seq_iff {s t : Str} : seq s t = true ↔ s = t := by
  obtain ⟨a⟩ := s
  obtain ⟨b⟩ := t
  simp [seq]
theorem any_put (ks : List Str) (t u : Str) : (putS ks u).any (seq t) = (ks.any (seq t) || seq t u) := by
  unfold putS
  cases h : ks.any (seq u)
  · simp
  · rw [cond_true]
    cases h2 : seq t u
    · simp
    · obtain rfl := seq_iff.1 h2
      simp [h]
theorem any_txs {F : Nat → GBlock} (t : Str) : ∀ n, (txsM F n).any (seq t) = (List.range n).any fun j => seq t (textM (F j))
  | 0 => rfl
  | n + 1 => by rw [txsM, any_put, any_txs t n, List.range_succ, List.any_append]; simp
theorem txs_len {F : Nat → GBlock} (hF : ∀ k, k < 8 → BlockOkM (F k) = true) : ∀ n, n ≤ 8 → (txsM F n).length = frmM F n
  | 0, _ => rfl
  | n + 1, hn => by
    have ih := txs_len hF n (by omega)
    have e : newM F n = !(txsM F n).any (seq (textM (F n))) := by
      rw [any_txs, newM, List.not_any_eq_all_not]
      refine Bool.eq_iff_iff.2 ?_
      simp only [List.all_eq_true, List.mem_range]
      constructor
      · intro h j hj
        have := h j hj
        rw [← text_seq (hF j (by omega)) (hF n (by omega)), seq_comm] at this
        exact this
      · intro h j hj
        rw [← text_seq (hF j (by omega)) (hF n (by omega)), seq_comm]
        exact h j hj
    rw [txsM, frmM, e, putS, ← ih]
    cases (txsM F n).any (seq (textM (F n))) <;> simp
theorem frm_le (F : Nat → GBlock) : ∀ n, frmM F n ≤ n
  | 0 => Nat.le_refl _
  | n + 1 => by
    have := frm_le F n
    rw [frmM]
    cases newM F n <;> simp <;> omega
theorem txs_le (F : Nat → GBlock) : ∀ n, (txsM F n).length ≤ n
  | 0 => Nat.le_refl _
  | n + 1 => by
    have := txs_le F n
    rw [txsM, putS]
    cases (txsM F n).any (seq (textM (F n))) <;> simp <;> omega

theorem impl_countDifferent_eq {l : List GBlock} (hl : l.length ≤ 1000) (hok : ∀ k, k < l.length → BlockOkM (gx l k) = true) : impl_countDifferent l = some (((txsM (gx l) l.length).length : Nat) : Int) := by
  unfold impl_countDifferent
  rw [gd_pos (by omega), lpO_st (f := impl_countDifferent_L1 l) (s0 := ([] : List Str)) (txsM (gx l)) rfl (fun k hk => by
    unfold impl_countDifferent_L1
    rw [impl_TextOf_eq (hok k hk)]
    rfl)]
  rfl

theorem txs_congr {F G : Nat → GBlock} : ∀ {n : Nat}, (∀ k, k < n → F k = G k) → txsM F n = txsM G n
  | 0, _ => rfl
  | n + 1, h => by rw [txsM, txsM, txs_congr (n := n) fun k hk => h k (by omega), h n (by omega)]

/-- How many are not used below n. -/
def freeN (used : List Bool) : Nat → Nat
  | 0 => 0
  | n + 1 => freeN used n + (bif gx used n then 0 else 1)
theorem freeN_mono (used : List Bool) {a : Nat} : ∀ {b : Nat}, a ≤ b → freeN used a ≤ freeN used b
  | 0, h => by
    have : a = 0 := by omega
    rw [this]; exact Nat.le_refl _
  | b + 1, h => by
    rcases Nat.lt_or_ge a (b + 1) with h1 | h1
    · exact Nat.le_trans (freeN_mono used (b := b) (by omega)) (by rw [freeN]; omega)
    · have : a = b + 1 := by omega
      rw [this]; exact Nat.le_refl _
theorem freeN_le (used : List Bool) : ∀ n, freeN used n ≤ n
  | 0 => Nat.le_refl _
  | n + 1 => by
    have := freeN_le used n
    rw [freeN]
    cases gx used n <;> simp <;> omega

def nof : List Bool := List.replicate 6 false
/-- The picks by marks are the picks by cutting. -/
def chkB1 : Bool := (List.range 6).all fun i => freeN nof i == i && gx nof i == false && pkM [1] i six == [(i : Int)]
def secB (a b : Nat) : Nat := bif decide (b < a) then b else b + 1
def chkB2 : Bool := (List.range 30).all fun i => freeN nof (i / 5) == i / 5 && gx nof (i / 5) == false && freeN (nof.set (i / 5) true) (secB (i / 5) (i % 5)) == i % 5 && gx (nof.set (i / 5) true) (secB (i / 5) (i % 5)) == false && pkM [5, 1] i six == [((i / 5 : Nat) : Int), ((secB (i / 5) (i % 5) : Nat) : Int)] && decide (secB (i / 5) (i % 5) < 6)
def u3 (i : Nat) : List Bool := nof.set (i / 20) true
def s3 (i : Nat) : Nat := secB (i / 20) (i % 20 / 4)
def v3 (i : Nat) : List Bool := (u3 i).set (s3 i) true
def t3 (i : Nat) : Nat := (pkM [20, 4, 1] i six)[2]!.toNat
def chkB3 : Bool := (List.range 120).all fun i => freeN nof (i / 20) == i / 20 && gx nof (i / 20) == false && freeN (u3 i) (s3 i) == i % 20 / 4 && gx (u3 i) (s3 i) == false && freeN (v3 i) (t3 i) == i % 20 % 4 && gx (v3 i) (t3 i) == false && pkM [20, 4, 1] i six == [((i / 20 : Nat) : Int), ((s3 i : Nat) : Int), ((t3 i : Nat) : Int)] && decide (s3 i < 6) && decide (t3 i < 6)
theorem chkB1_ok : chkB1 = true := by decide +kernel
theorem chkB2_ok : chkB2 = true := by decide +kernel
theorem chkB3_ok : chkB3 = true := by decide +kernel

/-- The least form of the colorway of number i. -/
def freeF (b : GBlock) (i : Nat) : GBlock := FormM (exB (wayM (colsM b) (pkM (ratesM (colsM b).length) i six)) b)
def FreeM (b : GBlock) : Int := bif BlockOkM b && decide ((colsM b).length ≤ 3) then (((txsM (freeF b) (chsM (colsM b).length)).length : Nat) : Int) else 0
theorem free_ok {b : GBlock} (h : BlockOkM b = true) (i : Nat) : BlockOkM (freeF b i) = true := (form_ok (exB_ok h _)).1
theorem chs_le {n : Nat} : chsM n ≤ 120 := by
  match n with
  | 0 => decide
  | 1 => decide
  | 2 => decide
  | 3 => decide
  | n + 4 => exact (by decide : 1 ≤ 120)

theorem impl_FreeColorways_eq (b : GBlock) : impl_FreeColorways b = some (FreeM b) := by
  unfold impl_FreeColorways FreeM
  simp only [impl_BlockOk_eq, Option.bind_some]
  cases h : BlockOkM b
  · rfl
  have hp := cols_pos h
  have hc : ColorsM b = colsM b := by simp [ColorsM, h]
  simp only [Bool.not_true, cond_false, impl_ColorsOf_eq, hc, Option.bind_some, Bool.true_and]
  by_cases h3 : (colsM b).length ≤ 3
  · have e1 : decide (((colsM b).length : Int) > 3) = false := decide_eq_false (by omega)
    have e2 : decide ((colsM b).length ≤ 3) = true := decide_eq_true h3
    have hle := chs_le (n := (colsM b).length)
    have hch := impl_choices_small h3
    have hn0 : ((colsM b).length == 0) = false := by rw [beq_eq_false_iff_ne]; omega
    rw [hn0, cond_false] at hch
    have hcount : impl_ColorwayCount b = some ((chsM (colsM b).length : Nat) : Int) := by
      unfold impl_ColorwayCount
      simp only [impl_BlockOk_eq, h, Option.bind_some, Bool.not_true, cond_false, impl_ColorsOf_eq, hc, hch]
    rw [e1, e2, cond_false, cond_true, hcount]
    simp only [Option.bind_some, Int.toNat_natCast]
    rw [gd_pos (by omega), lpO_app (f := impl_FreeColorways_L1 b) (freeF b) (xs := []) (fun k s hk hs => by
      simp at hs
      unfold impl_FreeColorways_L1
      rw [impl_ColorwayAt_ok h h3 hk]
      simp only [Option.bind_some, impl_LeastForm_eq]
      rw [gd_pos (by omega)]
      rfl)]
    simp only [Option.bind_some, List.nil_append]
    have hlen : ((List.range (chsM (colsM b).length)).map (freeF b)).length = chsM (colsM b).length := by simp
    have hg : ∀ k, k < chsM (colsM b).length → gx ((List.range (chsM (colsM b).length)).map (freeF b)) k = freeF b k := fun k hk => gx_range _ hk
    rw [impl_countDifferent_eq (by omega) (fun k hk => by rw [hlen] at hk; rw [hg k hk]; exact free_ok h k), hlen, txs_congr hg]
    rfl
  · have e1 : decide (((colsM b).length : Int) > 3) = true := decide_eq_true (by omega)
    have e2 : decide ((colsM b).length ≤ 3) = false := decide_eq_false h3
    rw [e1, e2]; rfl

theorem forO_tot {S C : Type} {f : Nat → S → Option (Res S C)} (I : S → Prop) : ∀ (m k : Nat) (s : S), I s → (∀ j s, k ≤ j → j < k + m → I s → ∃ s', I s' ∧ (f j s = some (.next s') ∨ f j s = some (.brk s'))) → ∃ s', I s' ∧ forO f m k s = some (.inl s')
  | 0, _, s, hs, _ => ⟨s, hs, rfl⟩
  | m + 1, k, s, hs, h => by
    obtain ⟨s', hs', h1 | h1⟩ := h k s (Nat.le_refl _) (by omega) hs
    · obtain ⟨s2, h2, e2⟩ := forO_tot I m (k + 1) s' hs' fun j s hj hj2 => h j s (by omega) (by omega)
      exact ⟨s2, h2, by rw [forO, h1]; exact e2⟩
    · exact ⟨s', hs', by rw [forO, h1]; rfl⟩
theorem lpO_tot {S : Type} {f : Nat → S → Option (Res S Empty)} (I : S → Prop) {N : Nat} {s0 : S} (h0 : I s0) (h : ∀ j s, j < N → I s → ∃ s', I s' ∧ (f j s = some (.next s') ∨ f j s = some (.brk s'))) : ∃ s', I s' ∧ lpO f N s0 = some s' := by
  obtain ⟨s', h1, h2⟩ := forO_tot I N 0 s0 h0 fun j s _ hj => h j s (by omega)
  exact ⟨s', h1, by unfold lpO; rw [h2]; rfl⟩

/-- The cursor stands in the code. -/
def CurOk (c : List UInt8) (i : Int) : Prop := c.length ≤ 1048576 ∧ 0 ≤ i ∧ i ≤ c.length
theorem andI_255 (x : Int) : 0 ≤ andI x 255 ∧ andI x 255 ≤ 255 := by
  have h : (BitVec.ofInt 64 x &&& BitVec.ofInt 64 255).toNat ≤ 255 := by
    rw [BitVec.toNat_and]
    exact Nat.le_trans Nat.and_le_right (by decide)
  unfold andI
  rw [wr_of (by omega) (by omega)]
  omega
theorem u8_range (x : UInt8) : 0 ≤ (x.toNat : Int) ∧ (x.toNat : Int) ≤ 255 := by
  have := x.toNat_lt
  omega

theorem draw_New {c : List UInt8} (h : c.length ≤ 1048576) : ∃ g, spec_l01New c = some (0, g) ∧ CurOk c 0 := by
  obtain ⟨g, _, e⟩ := lpO_tot (f := spec_l01New_L1 c) (N := c.length) (s0 := wr (33041 + ((c.length : Nat) : Int))) (fun _ => True) trivial fun j s _ _ => by
    unfold spec_l01New_L1
    cases decide (((j : Nat) : Int) < 4000)
    · exact ⟨s, trivial, .inr rfl⟩
    · exact ⟨_, trivial, .inl rfl⟩
  refine ⟨g, ?_, h, by omega, by omega⟩
  unfold spec_l01New
  rw [gd_pos (by omega), e]
  rfl

theorem draw_Byte {c : List UInt8} {i g : Int} (h : CurOk c i) : ∃ x i' g', spec_l01Byte c i g = some (x, i', g') ∧ CurOk c i' ∧ 0 ≤ x ∧ x ≤ 255 := by
  obtain ⟨h0, h1, h2⟩ := h
  unfold spec_l01Byte
  by_cases hi : i < c.length
  · have e : decide (i < ((c.length : Nat) : Int)) = true := decide_eq_true hi
    simp only [e, cond_true]
    rw [gd_pos ⟨h1, hi⟩]
    have ew : wr (i + 1) = i + 1 := wr_of (by omega) (by omega)
    refine ⟨_, _, _, rfl, ⟨h0, ?_, ?_⟩, (andI_255 _).1, (andI_255 _).2⟩ <;> simp only [ew] <;> omega
  · have e : decide (i < ((c.length : Nat) : Int)) = false := decide_eq_false hi
    simp only [e, cond_false]
    exact ⟨_, _, _, rfl, ⟨h0, h1, h2⟩, (andI_255 _).1, (andI_255 _).2⟩

theorem draw_Below {c : List UInt8} {i g n : Int} (h : CurOk c i) (hn : n ≤ 1048576) : ∃ x i' g', spec_l01Below c i g n = some (x, i', g') ∧ CurOk c i' ∧ 0 ≤ x ∧ (0 < n → x < n) ∧ (n ≤ 0 → x = 0) := by
  unfold spec_l01Below
  by_cases h0 : n ≤ 0
  · rw [decide_eq_true h0, cond_true]
    exact ⟨0, i, g, rfl, h, by omega, by omega, fun _ => rfl⟩
  rw [decide_eq_false h0, cond_false]
  by_cases h1 : n ≤ 256
  · obtain ⟨x, i1, g1, e, hc, x0, x1⟩ := draw_Byte (g := g) h
    rw [decide_eq_true h1, cond_true, e]
    simp only [Option.bind_some]
    rw [gd_pos (by omega)]
    have hr := Int.tmod_lt_of_pos x (show 0 < n by omega)
    have hr0 := Int.tmod_nonneg n x0
    exact ⟨_, _, _, rfl, hc, hr0, fun _ => hr, fun hh => absurd hh (by omega)⟩
  · obtain ⟨x, i1, g1, e1, c1, x0, x1⟩ := draw_Byte (g := g) h
    obtain ⟨y, i2, g2, e2, c2, y0, y1⟩ := draw_Byte (g := g1) c1
    obtain ⟨z, i3, g3, e3, c3, z0, z1⟩ := draw_Byte (g := g2) c2
    obtain ⟨u, i4, g4, e4, c4, u0, u1⟩ := draw_Byte (g := g3) c3
    rw [decide_eq_false h1, cond_false, e1]
    simp only [Option.bind_some, e2, e3, e4]
    rw [gd_pos (by omega)]
    have w1 : wr (x * 16777216) = x * 16777216 := wr_of (by omega) (by omega)
    have w2 : wr (y * 65536) = y * 65536 := wr_of (by omega) (by omega)
    have w3 : wr (z * 256) = z * 256 := wr_of (by omega) (by omega)
    have w4 : wr (x * 16777216 + y * 65536) = x * 16777216 + y * 65536 := wr_of (by omega) (by omega)
    have w5 : wr (x * 16777216 + y * 65536 + z * 256) = x * 16777216 + y * 65536 + z * 256 := wr_of (by omega) (by omega)
    have w6 : wr (x * 16777216 + y * 65536 + z * 256 + u) = x * 16777216 + y * 65536 + z * 256 + u := wr_of (by omega) (by omega)
    have hr := Int.tmod_lt_of_pos (x * 16777216 + y * 65536 + z * 256 + u) (show 0 < n by omega)
    have hr0 := Int.tmod_nonneg n (show 0 ≤ x * 16777216 + y * 65536 + z * 256 + u by omega)
    refine ⟨_, _, _, rfl, c4, ?_, fun _ => ?_, fun hh => absurd hh (by omega)⟩
    · simp only [w1, w2, w3, w4, w5, w6]; exact hr0
    · simp only [w1, w2, w3, w4, w5, w6]; exact hr

theorem forO_inv {S C : Type} {f : Nat → S → Option (Res S C)} (I : Nat → S → Prop) : ∀ (m k : Nat) (s : S), I k s → (∀ j s, k ≤ j → j < k + m → I j s → ∃ s', I (j + 1) s' ∧ f j s = some (.next s')) → ∃ s', I (k + m) s' ∧ forO f m k s = some (.inl s')
  | 0, _, s, hs, _ => ⟨s, hs, rfl⟩
  | m + 1, k, s, hs, h => by
    obtain ⟨s', hs', h1⟩ := h k s (Nat.le_refl _) (by omega) hs
    obtain ⟨s2, h2, e2⟩ := forO_inv I m (k + 1) s' hs' fun j s hj hj2 => h j s (by omega) (by omega)
    exact ⟨s2, by rw [show k + (m + 1) = k + 1 + m by omega]; exact h2, by rw [forO, h1]; exact e2⟩
theorem lpO_inv2 {S : Type} {f : Nat → S → Option (Res S Empty)} (I : Nat → S → Prop) {N : Nat} {s0 : S} (h0 : I 0 s0) (h : ∀ j s, j < N → I j s → ∃ s', I (j + 1) s' ∧ f j s = some (.next s')) : ∃ s', I N s' ∧ lpO f N s0 = some s' := by
  obtain ⟨s', h1, h2⟩ := forO_inv I N 0 s0 h0 fun j s _ hj => h j s (by omega)
  exact ⟨s', by rw [Nat.zero_add] at h1; exact h1, by unfold lpO; rw [h2]; rfl⟩

theorem draw_Cell {c : List UInt8} {i g : Int} (h : CurOk c i) : ∃ x i' g', spec_l02Cell c i g = some (x, i', g') ∧ CurOk c i' ∧ CellOkM x = true := by
  obtain ⟨x, i1, g1, e1, c1, _⟩ := draw_Below (g := g) (n := 3) h (by omega)
  obtain ⟨y, i2, g2, e2, c2, _⟩ := draw_Below (g := g1) (n := 3) c1 (by omega)
  obtain ⟨z, i3, g3, e3, c3, _⟩ := draw_Below (g := g2) (n := 3) c2 (by omega)
  unfold spec_l02Cell
  rw [e1]
  simp only [Option.bind_some, e2, e3, spec_SplitCell_eq]
  exact ⟨_, _, _, rfl, c3, splitCell_ok _ _ _⟩

theorem spec_PlainBlock_ok {n : Nat} {a : Int} (h1 : 1 ≤ n) (h2 : n ≤ 4) (h3 : 0 ≤ a) (h4 : a ≤ 5) : ∃ b, spec_PlainBlock (n : Int) a = some (b, true) ∧ BlockOkM b = true := by
  have hnn : n * n ≤ 4 * 4 := Nat.mul_le_mul h2 h2
  have e1 : inR ((n : Nat) : Int) 1 4 = true := inR_iff.2 ⟨by omega, by omega⟩
  have e2 : inR a 0 5 = true := inR_iff.2 ⟨h3, h4⟩
  have e3 : wr (((n : Nat) : Int) * ((n : Nat) : Int)) = ((n * n : Nat) : Int) := by rw [← Int.natCast_mul]; exact wr_of (by omega) (by omega)
  unfold spec_PlainBlock
  simp only [l01In_eq, e1, e2, Option.bind_some, Bool.not_true, cond_false, e3, Int.toNat_natCast]
  rw [gd_pos (by omega), lpO_app (f := spec_PlainBlock_L1 a) (fun _ => WholeCellM a) (xs := []) (fun k s hk hs => by
    simp at hs
    unfold spec_PlainBlock_L1
    rw [spec_WholeCell_eq]
    simp only [Option.bind_some]
    rw [gd_pos (by omega)])]
  refine ⟨_, rfl, blockOk_of h1 h2 (by simp) fun c hc => ?_⟩
  simp only [List.nil_append, List.mem_map] at hc
  obtain ⟨_, _, rfl⟩ := hc
  unfold WholeCellM
  rw [e2]
  exact cellOk_of (by simp) (by simp) h3 h4 h3 h4 (by simp)

theorem star_ok : BlockOkM starM = true := by decide +kernel
theorem draw_Block {c : List UInt8} {i g : Int} (h : CurOk c i) : ∃ b i' g', spec_l03Block c i g = some (b, i', g') ∧ CurOk c i' ∧ BlockOkM b = true := by
  obtain ⟨x, i1, g1, e1, c1, x0, x1, _⟩ := draw_Below (g := g) (n := 6) h (by omega)
  unfold spec_l03Block
  rw [e1]
  simp only [Option.bind_some]
  cases hx : x == 0
  · cases hx1 : x == 1
    · obtain ⟨y, i2, g2, e2, c2, y0, y1, _⟩ := draw_Below (g := g1) (n := 4) c1 (by omega)
      have y4 := y1 (by omega)
      obtain ⟨n, rfl⟩ := Int.eq_ofNat_of_zero_le y0
      have hnn : (n + 1) * (n + 1) ≤ 4 * 4 := Nat.mul_le_mul (by omega) (by omega)
      have ea : wr (1 + ((n : Nat) : Int)) = ((n + 1 : Nat) : Int) := by rw [wr_of (by omega) (by omega)]; omega
      have eb : wr (((n + 1 : Nat) : Int) * ((n + 1 : Nat) : Int)) = (((n + 1) * (n + 1) : Nat) : Int) := by rw [← Int.natCast_mul]; exact wr_of (by omega) (by omega)
      simp only [cond_false, e2, Option.bind_some, ea, eb, Int.toNat_natCast]
      rw [gd_pos (by omega)]
      obtain ⟨s, ⟨s1, s2, s3⟩, es⟩ := lpO_inv2 (f := spec_l03Block_L1 c) (N := (n + 1) * (n + 1)) (s0 := (([] : List GCell), i2, g2)) (fun k s => s.1.length = k ∧ CurOk c s.2.1 ∧ ∀ x ∈ s.1, CellOkM x = true) ⟨rfl, c2, by simp⟩ fun k s hk hs => by
        obtain ⟨s1, s2, s3⟩ := hs
        obtain ⟨y, i3, g3, e3, c3, hy⟩ := draw_Cell (g := s.2.2) s2
        unfold spec_l03Block_L1
        rw [e3]
        simp only [Option.bind_some]
        rw [gd_pos (by omega)]
        refine ⟨_, ⟨by simp [s1], c3, fun z hz => ?_⟩, rfl⟩
        rcases List.mem_append.1 hz with hz | hz
        · exact s3 z hz
        · rw [List.mem_singleton.1 hz]; exact hy
      rw [es]
      exact ⟨_, _, _, rfl, s2, blockOk_of (by omega) (by omega) s1 s3⟩
    · obtain ⟨y, i2, g2, e2, c2, y0, y1, _⟩ := draw_Below (g := g1) (n := 4) c1 (by omega)
      obtain ⟨z, i3, g3, e3, c3, z0, z1, _⟩ := draw_Below (g := g2) (n := 3) c2 (by omega)
      have y4 := y1 (by omega)
      have z4 := z1 (by omega)
      obtain ⟨n, rfl⟩ := Int.eq_ofNat_of_zero_le y0
      have ea : wr (1 + ((n : Nat) : Int)) = ((n + 1 : Nat) : Int) := by rw [wr_of (by omega) (by omega)]; omega
      obtain ⟨b, eb, hb⟩ := spec_PlainBlock_ok (n := n + 1) (a := z) (by omega) (by omega) z0 (by omega)
      simp only [cond_false, cond_true, e2, e3, Option.bind_some, ea, eb]
      exact ⟨_, _, _, rfl, c3, hb⟩
  · simp only [cond_true, spec_StarBlock_eq, Option.bind_some]
    exact ⟨_, _, _, rfl, c1, star_ok⟩

theorem draw_at {c : List UInt8} (h : c.length ≤ 1048576) {i : Int} (h0 : 0 ≤ i) (h1 : i ≤ 1000) : ∃ x, laws_at c i = some x ∧ 0 ≤ x ∧ x ≤ 255 := by
  unfold laws_at
  cases hc : ((c.length : Nat) : Int) == 0
  · have hne : ((c.length : Nat) : Int) ≠ 0 := by simpa using hc
    have e1 : wr (i * 5) = i * 5 := wr_of (by omega) (by omega)
    have e2 : wr (i * 5 + 1) = i * 5 + 1 := wr_of (by omega) (by omega)
    have r0 := Int.tmod_nonneg ((c.length : Nat) : Int) (show 0 ≤ i * 5 + 1 by omega)
    have r1 := Int.tmod_lt_of_pos (i * 5 + 1) (show 0 < ((c.length : Nat) : Int) by omega)
    simp only [cond_false, e1, e2]
    rw [gd_pos hne, gd_pos ⟨r0, r1⟩]
    exact ⟨_, rfl, (u8_range _).1, (u8_range _).2⟩
  · exact ⟨0, rfl, by omega, by omega⟩

/-- A valid list that gives different colors for different colors. -/
def InjM (l : List Int) : Prop := ListOkM l = true ∧ l.Nodup
theorem list_gx {l : List Int} (h : ListOkM l = true) {x : Int} (h0 : 0 ≤ x) (h1 : x ≤ 5) : 0 ≤ gx l x.toNat ∧ gx l x.toNat ≤ 5 := by
  obtain ⟨hl, hr⟩ := listOk_spec h
  exact hr _ (gx_mem (by omega))
theorem inj_gx {l : List Int} (h : InjM l) {x y : Int} (hx0 : 0 ≤ x) (hx1 : x ≤ 5) (hy0 : 0 ≤ y) (hy1 : y ≤ 5) : (gx l x.toNat == gx l y.toNat) = (x == y) := by
  obtain ⟨hl, hr⟩ := listOk_spec h.1
  rw [Bool.eq_iff_iff, beq_iff_eq, beq_iff_eq]
  constructor
  · intro e
    rw [gx_lt (by omega), gx_lt (by omega)] at e
    have := (List.getElem_inj h.2).1 e
    omega
  · rintro rfl; rfl
/-- A cell under a list that gives different colors for different colors. -/
theorem exCell_inj {c : GCell} (hc : CellOkM c = true) {l : List Int} (h : InjM l) : ExchangeCellM c l = ⟨c.Split, gx l c.A.toNat, gx l c.B.toNat⟩ := by
  obtain ⟨c1, c2, c3, c4, c5, c6, c7⟩ := cellOk_spec hc
  have hA := list_gx h.1 c3 c4
  have hB := list_gx h.1 c5 c6
  have he := inj_gx h c3 c4 c5 c6
  unfold ExchangeCellM
  rw [hc, h.1]
  simp only [Bool.and_self, cond_true]
  unfold SplitCellM
  rw [he]
  cases hab : c.A == c.B
  · have hne : c.A ≠ c.B := by simpa using hab
    have h2 : CellOkM ⟨c.Split, gx l c.A.toNat, gx l c.B.toNat⟩ = true := cellOk_of c1 c2 hA.1 hA.2 hB.1 hB.2 (by
      have : gx l c.A.toNat ≠ gx l c.B.toNat := by
        rw [hab] at he
        simpa using he
      constructor
      · intro h0; exact absurd (c7.1 h0) hne
      · intro h0; exact absurd h0 this)
    rw [cond_false, h2]; rfl
  · have heq : c.A = c.B := by simpa using hab
    have h0 := c7.2 heq
    rw [cond_true, WholeCellM, inR_iff.2 ⟨hA.1, hA.2⟩, cond_true, h0, heq]

theorem exB_inj_cells {b : GBlock} (hb : BlockOkM b = true) {l : List Int} (h : InjM l) : (exB l b).Cells = b.Cells.map fun c => ⟨c.Split, gx l c.A.toNat, gx l c.B.toNat⟩ := by
  obtain ⟨n, hn, h1, h2, hl, hc⟩ := blockOk_spec hb
  exact List.map_congr_left fun c hm => exCell_inj (hc c hm) h
/-- What an exchange and another undo. -/
theorem exB_undo {b : GBlock} (hb : BlockOkM b = true) {l m : List Int} (hl : InjM l) (hm : InjM m) (h : ∀ x : Int, 0 ≤ x → x ≤ 5 → gx m (gx l x.toNat).toNat = x) : exB m (exB l b) = b := by
  obtain ⟨n, hn, h1, h2, hlen, hc⟩ := blockOk_spec hb
  have e1 := exB_inj_cells hb hl
  have e2 := exB_inj_cells (exB_ok hb l) hm
  have e3 : (exB m (exB l b)).Cells = b.Cells := by
    rw [e2, e1, List.map_map]
    have : ∀ c ∈ b.Cells, ((fun c : GCell => (⟨c.Split, gx m c.A.toNat, gx m c.B.toNat⟩ : GCell)) ∘ fun c : GCell => (⟨c.Split, gx l c.A.toNat, gx l c.B.toNat⟩ : GCell)) c = c := fun c hcm => by
      obtain ⟨c1, c2, c3, c4, c5, c6, c7⟩ := cellOk_spec (hc c hcm)
      simp only [Function.comp, h c.A c3 c4, h c.B c5 c6]
    rw [List.map_congr_left this, List.map_id']
  have e4 : (exB m (exB l b)).Size = b.Size := rfl
  calc exB m (exB l b) = ⟨(exB m (exB l b)).Size, (exB m (exB l b)).Cells⟩ := rfl
    _ = ⟨b.Size, b.Cells⟩ := by rw [e3, e4]
    _ = b := rfl
/-- The area of a color behind an exchange. -/
theorem area_exB {b : GBlock} (hb : BlockOkM b = true) {l : List Int} (hl : InjM l) {x : Int} (h0 : 0 ≤ x) (h1 : x ≤ 5) : AreaM (exB l b) (gx l x.toNat) = AreaM b x := by
  obtain ⟨n, hn, n1, n2, hlen, hc⟩ := blockOk_spec hb
  unfold AreaM
  rw [exB_ok hb l, hb, cond_true, cond_true, exB_inj_cells hb hl, List.map_map]
  congr 1
  refine List.map_congr_left fun c hcm => ?_
  obtain ⟨c1, c2, c3, c4, c5, c6, c7⟩ := cellOk_spec (hc c hcm)
  simp only [Function.comp, arM, inj_gx hl c3 c4 h0 h1, inj_gx hl c5 c6 h0 h1]

/-- The list that exchanges two colors. -/
def swM (i k : Nat) : List Int := (six.set i (k : Int)).set k (i : Int)
theorem sw_ok : ∀ i, i < 6 → ∀ k, k < 6 → ListOkM (swM i k) = true ∧ (swM i k).Nodup ∧ (∀ x, x < 6 → gx (swM i k) (gx (swM i k) x).toNat = (x : Int)) ∧ gx (swM i k) k = (i : Int) := by decide +kernel
theorem sw_inj {i k : Nat} (hi : i < 6) (hk : k < 6) : InjM (swM i k) := ⟨(sw_ok i hi k hk).1, (sw_ok i hi k hk).2.1⟩
theorem sw_sw {b : GBlock} (hb : BlockOkM b = true) {i k : Nat} (hi : i < 6) (hk : k < 6) : exB (swM i k) (exB (swM i k) b) = b :=
  exB_undo hb (sw_inj hi hk) (sw_inj hi hk) fun x h0 h1 => by
    obtain ⟨n, rfl⟩ := Int.eq_ofNat_of_zero_le h0
    exact (sw_ok i hi k hk).2.2.1 n (by omega)
theorem sw_area {b : GBlock} (hb : BlockOkM b = true) {i k : Nat} (hi : i < 6) (hk : k < 6) : AreaM (exB (swM i k) b) (i : Int) = AreaM b (k : Int) := by
  have := area_exB hb (sw_inj hi hk) (x := (k : Int)) (by omega) (by omega)
  rw [Int.toNat_natCast, (sw_ok i hi k hk).2.2.2] at this
  exact this

/-- The colors of a block by their first uses. -/
def firstsM (b : GBlock) : List Int := (useSeq b).foldl addU []
theorem ord6_eq (b : GBlock) : ord6 b = six.foldl addU (firstsM b) := by unfold ord6 firstsM; rw [List.foldl_append]
theorem firsts_nodup (b : GBlock) : (firstsM b).Nodup := (fold_addU (useSeq b) [] (by simp)).1
theorem mem_firsts {b : GBlock} {x : Int} : x ∈ firstsM b ↔ x ∈ useSeq b := by
  unfold firstsM
  rw [(fold_addU (useSeq b) [] (by simp)).2]
  simp
theorem useSeq_in {b : GBlock} (h : BlockOkM b = true) {x : Int} (hx : x ∈ useSeq b) : 0 ≤ x ∧ x ≤ 5 := by
  obtain ⟨n, hn, h1, h2, hl, hc⟩ := blockOk_spec h
  obtain ⟨c, hm, e⟩ := mem_useSeq.1 hx
  obtain ⟨c1, c2, c3, c4, c5, c6, _⟩ := cellOk_spec (hc c hm)
  rcases e with rfl | rfl <;> omega
/-- What is added stands behind what was there. -/
theorem fold_addU_pre : ∀ (l acc : List Int), ∃ r, l.foldl addU acc = acc ++ r
  | [], acc => ⟨[], by simp⟩
  | a :: l, acc => by
    obtain ⟨r, hr⟩ := fold_addU_pre l (addU acc a)
    rw [List.foldl_cons, hr]
    unfold addU
    cases acc.contains a
    · exact ⟨a :: r, by simp⟩
    · exact ⟨r, rfl⟩
theorem fold_addU_map {F : Int → Int} (S : Int → Prop) (hF : ∀ x y, S x → S y → F x = F y → x = y) : ∀ (l acc : List Int), (∀ x ∈ l, S x) → (∀ x ∈ acc, S x) → (l.map F).foldl addU (acc.map F) = (l.foldl addU acc).map F
  | [], acc, _, _ => rfl
  | a :: l, acc, hl, ha => by
    have e : addU (acc.map F) (F a) = (addU acc a).map F := by
      have hc : (acc.map F).contains (F a) = acc.contains a := by
        rw [Bool.eq_iff_iff, List.contains_iff_mem, List.contains_iff_mem, List.mem_map]
        constructor
        · rintro ⟨x, hx, he⟩
          rw [← hF x a (ha x hx) (hl a (by simp)) he]; exact hx
        · intro h; exact ⟨a, h, rfl⟩
      unfold addU
      rw [hc]
      cases acc.contains a <;> simp
    rw [List.map_cons, List.foldl_cons, List.foldl_cons, e]
    refine fold_addU_map S hF l _ (fun x hx => hl x (by simp [hx])) fun x hx => ?_
    rcases addU_mem.1 hx with h | rfl
    · exact ha x h
    · exact hl _ (by simp)

theorem firstUse_gx {b : GBlock} (h : BlockOkM b = true) {x : Int} (h0 : 0 ≤ x) (h1 : x ≤ 5) : gx (FirstUseM b) x.toNat = idxM (ord6 b) x := by
  have e : FirstUseM b = (List.range 6).map fun a : Nat => idxM (ord6 b) (a : Int) := by simp [FirstUseM, h]
  rw [e, gx_range _ (by omega)]
  congr 1
  omega
theorem firstUse_used {b : GBlock} (h : BlockOkM b = true) {x : Int} (hx : x ∈ useSeq b) : gx (FirstUseM b) x.toNat = idxM (firstsM b) x := by
  obtain ⟨r0, r1⟩ := useSeq_in h hx
  obtain ⟨r, hr⟩ := fold_addU_pre six (firstsM b)
  have hn := (ord6_ok h).1
  rw [firstUse_gx h r0 r1]
  rw [ord6_eq, hr] at hn ⊢
  exact idxM_append r hn (mem_firsts.2 hx)
theorem firstUse_inj {b : GBlock} (h : BlockOkM b = true) : InjM (FirstUseM b) := by
  refine ⟨firstUse_ok h, ?_⟩
  obtain ⟨g1, g2, g3⟩ := ord6_ok h
  have e : FirstUseM b = (List.range 6).map fun a : Nat => idxM (ord6 b) (a : Int) := by simp [FirstUseM, h]
  rw [e]
  unfold List.Nodup
  rw [List.pairwise_map]
  refine List.Pairwise.imp_of_mem (fun {x y} hx hy hne hxy => hne ?_) (List.nodup_range (n := 6))
  have hx6 : x < 6 := by simpa using hx
  have hy6 : y < 6 := by simpa using hy
  rcases idxM_cases (ord6 b) (x : Int) with ⟨k1, _⟩ | ⟨k, k1, k2, k3⟩
  · exact absurd ((g2 _).2 ⟨by omega, by omega⟩) k1
  rcases idxM_cases (ord6 b) (y : Int) with ⟨m1, _⟩ | ⟨m, m1, m2, m3⟩
  · exact absurd ((g2 _).2 ⟨by omega, by omega⟩) m1
  have : k = m := by omega
  subst this
  omega

theorem useSeq_exB {b : GBlock} (hb : BlockOkM b = true) {l : List Int} (hl : InjM l) : useSeq (exB l b) = (useSeq b).map fun x => gx l x.toNat := by
  unfold useSeq
  rw [exB_inj_cells hb hl, List.flatMap_map, List.map_flatMap]
  rfl
theorem firsts_exB {b : GBlock} (hb : BlockOkM b = true) {l : List Int} (hl : InjM l) : firstsM (exB l b) = (firstsM b).map fun x => gx l x.toNat := by
  unfold firstsM
  rw [useSeq_exB hb hl]
  exact fold_addU_map (F := fun x => gx l x.toNat) (fun x => 0 ≤ x ∧ x ≤ 5) (fun x y hx hy e => by
    have := inj_gx hl hx.1 hx.2 hy.1 hy.2
    have e2 : (gx l x.toNat == gx l y.toNat) = true := by simpa using e
    rw [e2] at this
    simpa using this.symm) (useSeq b) [] (fun x hx => useSeq_in hb hx) (by simp)

/-- The plain block of an exchanged block is that of the block. -/
theorem plain_exB {b : GBlock} (hb : BlockOkM b = true) {l : List Int} (hl : InjM l) : exB (FirstUseM (exB l b)) (exB l b) = exB (FirstUseM b) b := by
  have hx := exB_ok hb l
  have hs : (exB (FirstUseM (exB l b)) (exB l b)).Size = (exB (FirstUseM b) b).Size := rfl
  have hc : (exB (FirstUseM (exB l b)) (exB l b)).Cells = (exB (FirstUseM b) b).Cells := by
    rw [exB_inj_cells hx (firstUse_inj hx), exB_inj_cells hb (firstUse_inj hb), exB_inj_cells hb hl, List.map_map]
    have key : ∀ x, x ∈ useSeq b → gx (FirstUseM (exB l b)) (gx l x.toNat).toNat = gx (FirstUseM b) x.toNat := fun x hu => by
      have hu' : gx l x.toNat ∈ useSeq (exB l b) := by rw [useSeq_exB hb hl]; exact List.mem_map.2 ⟨x, hu, rfl⟩
      rw [firstUse_used hx hu', firstUse_used hb hu, firsts_exB hb hl]
      rcases idxM_cases (firstsM b) x with ⟨k1, _⟩ | ⟨k, k1, k2, k3⟩
      · exact absurd (mem_firsts.2 hu) k1
      have hn : ((firstsM b).map fun x => gx l x.toNat).Nodup := by rw [← firsts_exB hb hl]; exact firsts_nodup _
      have := idxM_of hn (k := k) (by simpa using k1)
      have e : gx ((firstsM b).map fun x => gx l x.toNat) k = gx l x.toNat := by
        rw [gx_lt (by simpa using k1), List.getElem_map, ← gx_lt k1, k3]
      rw [e] at this
      rw [this, k2]
    refine List.map_congr_left fun c hm => ?_
    simp only [Function.comp]
    rw [key c.A (mem_useSeq.2 ⟨c, hm, .inl rfl⟩), key c.B (mem_useSeq.2 ⟨c, hm, .inr rfl⟩)]
  calc exB (FirstUseM (exB l b)) (exB l b) = ⟨(exB (FirstUseM (exB l b)) (exB l b)).Size, (exB (FirstUseM (exB l b)) (exB l b)).Cells⟩ := rfl
    _ = ⟨(exB (FirstUseM b) b).Size, (exB (FirstUseM b) b).Cells⟩ := by rw [hs, hc]
    _ = exB (FirstUseM b) b := rfl

theorem nodup_sub : ∀ (l m : List Int), l.Nodup → (∀ y ∈ l, y ∈ m) → l.length ≤ m.length
  | [], _, _, _ => by simp
  | a :: l, m, hn, h => by
    rw [List.nodup_cons] at hn
    have ha := h a (by simp)
    have := nodup_sub l (m.erase a) hn.2 fun y hy => (List.mem_erase_of_ne (fun e : y = a => hn.1 (by rw [← e]; exact hy))).2 (h y (by simp [hy]))
    have hpos := List.length_pos_of_mem ha
    rw [List.length_erase_of_mem ha] at this
    simp only [List.length_cons]
    omega
theorem mem_of_inj {l : List Int} (h : InjM l) (x : Int) : x ∈ l ↔ 0 ≤ x ∧ x ≤ 5 := by
  obtain ⟨hl, hr⟩ := listOk_spec h.1
  constructor
  · exact hr x
  · intro hx
    refine Classical.byContradiction fun hn => ?_
    have := nodup_sub (x :: l) six (List.nodup_cons.2 ⟨hn, h.2⟩) fun y hy => by
      rcases List.mem_cons.1 hy with rfl | hy
      · exact mem_six.2 hx
      · exact mem_six.2 (hr y hy)
    simp [hl, six] at this
def undoM (l : List Int) : List Int := (List.range 6).map fun a : Nat => idxM l (a : Int)
theorem undo_inj {l : List Int} (h : InjM l) : InjM (undoM l) ∧ ∀ x : Int, 0 ≤ x → x ≤ 5 → gx (undoM l) (gx l x.toNat).toNat = x := by
  obtain ⟨hl, hr⟩ := listOk_spec h.1
  have hmem := mem_of_inj h
  have hix : ∀ a : Nat, a < 6 → ∃ k : Nat, k < 6 ∧ idxM l (a : Int) = k ∧ gx l k = a := fun a ha => by
    rcases idxM_cases l (a : Int) with ⟨k1, _⟩ | ⟨k, k1, k2, k3⟩
    · exact absurd ((hmem _).2 ⟨by omega, by omega⟩) k1
    · exact ⟨k, by omega, k2, k3⟩
  refine ⟨⟨listOk_of (by simp [undoM]) fun a ha => ?_, ?_⟩, fun x h0 h1 => ?_⟩
  · simp only [undoM, List.mem_map, List.mem_range] at ha
    obtain ⟨y, hy, rfl⟩ := ha
    obtain ⟨k, k1, k2, _⟩ := hix y hy
    omega
  · unfold undoM List.Nodup
    rw [List.pairwise_map]
    refine List.Pairwise.imp_of_mem (fun {x y} hx hy hne hxy => hne ?_) (List.nodup_range (n := 6))
    obtain ⟨k, k1, k2, k3⟩ := hix x (by simpa using hx)
    obtain ⟨m, m1, m2, m3⟩ := hix y (by simpa using hy)
    have : k = m := by omega
    subst this
    omega
  · obtain ⟨g0, g1⟩ := list_gx h.1 h0 h1
    unfold undoM
    rw [gx_range _ (by omega)]
    have e : (((gx l x.toNat).toNat : Nat) : Int) = gx l x.toNat := by omega
    rw [e, idxM_of h.2 (by omega)]
    omega

/-- A valid block is its size and its cells at their places. -/
theorem block_ext {b d : GBlock} (hb : BlockOkM b = true) (hd : BlockOkM d = true) (hs : b.Size = d.Size) (h : ∀ n : Nat, b.Size = n → ∀ y x, y < n → x < n → gx b.Cells (y * n + x) = gx d.Cells (y * n + x)) : b = d := by
  obtain ⟨n, hn, h1, h2, hl, hc⟩ := blockOk_spec hb
  obtain ⟨m, hm, _, _, gl, gc⟩ := blockOk_spec hd
  have hnm : n = m := by omega
  subst hnm
  have hcells : b.Cells = d.Cells := by
    refine gx_ext (by rw [hl, gl]) fun k hk => ?_
    have hq : k / n < n := Nat.div_lt_of_lt_mul (by rw [hl] at hk; exact hk)
    have hr : k % n < n := Nat.mod_lt _ (by omega)
    have e : k / n * n + k % n = k := by rw [Nat.mul_comm]; exact Nat.div_add_mod k n
    have := h n hn (k / n) (k % n) hq hr
    rwa [e] at this
  cases b; cases d
  simp only at hs hcells
  rw [hs, hcells]
theorem turn_gx {b : GBlock} (hb : BlockOkM b = true) {n : Nat} (hn : b.Size = n) {y x : Nat} (hy : y < n) (hx : x < n) : gx (TurnBlockM b).Cells (y * n + x) = TurnCellM (gx b.Cells ((n - 1 - x) * n + y)) := by
  unfold TurnBlockM
  rw [hb, hn]
  simp only [cond_true, Int.toNat_natCast]
  exact cellsM_gx hy hx
theorem mirror_gx {b : GBlock} (hb : BlockOkM b = true) {n : Nat} (hn : b.Size = n) {y x : Nat} (hy : y < n) (hx : x < n) : gx (MirrorBlockM b).Cells (y * n + x) = MirrorCellM (gx b.Cells (y * n + (n - 1 - x))) := by
  unfold MirrorBlockM
  rw [hb, hn]
  simp only [cond_true, Int.toNat_natCast]
  exact cellsM_gx hy hx
theorem cell_gx {b : GBlock} (hb : BlockOkM b = true) {n : Nat} (hn : b.Size = n) {y x : Nat} (hy : y < n) (hx : x < n) : CellOkM (gx b.Cells (y * n + x)) = true := by
  obtain ⟨m, hm, _, _, hl, hc⟩ := blockOk_spec hb
  have : n = m := by omega
  subst this
  exact hc _ (gx_mem (by rw [hl]; exact idx_lt hy hx))

theorem split_cases {c : GCell} (h : CellOkM c = true) : c.Split = 0 ∨ c.Split = 1 ∨ c.Split = 2 := by
  obtain ⟨h1, h2, _⟩ := cellOk_spec h
  omega
theorem turn2_cell {c : GCell} (h : CellOkM c = true) : TurnCellM (TurnCellM c) = ⟨c.Split, c.B, c.A⟩ := by
  have ht := turnCell_ok h
  obtain ⟨_, _, _, _, _, _, h7⟩ := cellOk_spec h
  have e1 : TurnCellM c = (bif c.Split == 1 then ⟨2, c.B, c.A⟩ else bif c.Split == 2 then ⟨1, c.A, c.B⟩ else c) := by unfold TurnCellM; rw [h]; rfl
  rw [e1] at ht ⊢
  obtain ⟨s, a, b⟩ := c
  rcases split_cases h with e | e | e <;> simp only at e h7 <;> subst e
  · have := h7.1 rfl
    subst this
    show TurnCellM ⟨0, a, a⟩ = _
    unfold TurnCellM
    rw [h]; rfl
  · show TurnCellM ⟨2, b, a⟩ = _
    unfold TurnCellM
    rw [show CellOkM ⟨2, b, a⟩ = true from ht]; rfl
  · show TurnCellM ⟨1, a, b⟩ = _
    unfold TurnCellM
    rw [show CellOkM ⟨1, a, b⟩ = true from ht]; rfl
theorem turn4_cell {c : GCell} (h : CellOkM c = true) : TurnCellM (TurnCellM (TurnCellM (TurnCellM c))) = c := by
  have h2 := turnCell_ok (turnCell_ok h)
  rw [turn2_cell h2, turn2_cell h]
theorem mirror_cell {c : GCell} (h : CellOkM c = true) : MirrorCellM c = bif c.Split == 0 then c else ⟨3 - c.Split, c.B, c.A⟩ := by unfold MirrorCellM; rw [h]; rfl
theorem mirror2_cell {c : GCell} (h : CellOkM c = true) : MirrorCellM (MirrorCellM c) = c := by
  have hm := mirrorCell_ok h
  rw [mirror_cell hm, mirror_cell h]
  obtain ⟨s, a, b⟩ := c
  rcases split_cases h with e | e | e <;> simp only at e <;> subst e <;> rfl
theorem tmt_cell {c : GCell} (h : CellOkM c = true) : TurnCellM (MirrorCellM (TurnCellM c)) = MirrorCellM c := by
  have ht := turnCell_ok h
  have hm := mirrorCell_ok ht
  have e1 : TurnCellM c = (bif c.Split == 1 then ⟨2, c.B, c.A⟩ else bif c.Split == 2 then ⟨1, c.A, c.B⟩ else c) := by unfold TurnCellM; rw [h]; rfl
  rw [mirror_cell ht] at hm ⊢
  rw [mirror_cell h]
  unfold TurnCellM at hm ⊢
  rw [h] at hm ⊢
  simp only [cond_true] at hm ⊢
  rw [hm]
  obtain ⟨s, a, b⟩ := c
  rcases split_cases h with e | e | e <;> simp only at e <;> subst e <;> rfl

theorem turn4 {b : GBlock} (hb : BlockOkM b = true) : TurnBlockM (TurnBlockM (TurnBlockM (TurnBlockM b))) = b := by
  have o1 := turnBlock_ok hb
  have o2 := turnBlock_ok o1
  have o3 := turnBlock_ok o2
  have o4 := turnBlock_ok o3
  have s1 := turnBlock_size _ hb
  have s2 := turnBlock_size _ o1
  have s3 := turnBlock_size _ o2
  have s4 := turnBlock_size _ o3
  refine block_ext o4 hb (by rw [s4, s3, s2, s1]) fun n hn y x hy hx => ?_
  have n1 : (TurnBlockM (TurnBlockM (TurnBlockM b))).Size = n := by rw [← hn, s4]
  have n2 : (TurnBlockM (TurnBlockM b)).Size = n := by rw [← n1, s3]
  have n3 : (TurnBlockM b).Size = n := by rw [← n2, s2]
  have n4 : b.Size = n := by rw [← n3, s1]
  rw [turn_gx o3 n1 hy hx, turn_gx o2 n2 (by omega) hy, turn_gx o1 n3 (by omega) (by omega), turn_gx hb n4 (by omega) (by omega)]
  have ey : n - 1 - (n - 1 - y) = y := by omega
  have ex : n - 1 - (n - 1 - x) = x := by omega
  rw [ey, ex]
  exact turn4_cell (cell_gx hb n4 hy hx)
theorem mirror2 {b : GBlock} (hb : BlockOkM b = true) : MirrorBlockM (MirrorBlockM b) = b := by
  have o1 := mirrorBlock_ok hb
  have o2 := mirrorBlock_ok o1
  have s1 := mirrorBlock_size _ hb
  have s2 := mirrorBlock_size _ o1
  refine block_ext o2 hb (by rw [s2, s1]) fun n hn y x hy hx => ?_
  have n1 : (MirrorBlockM b).Size = n := by rw [← hn, s2]
  have n2 : b.Size = n := by rw [← n1, s1]
  rw [mirror_gx o1 n1 hy hx, mirror_gx hb n2 hy (by omega)]
  have ex : n - 1 - (n - 1 - x) = x := by omega
  rw [ex]
  exact mirror2_cell (cell_gx hb n2 hy hx)
theorem tmt {b : GBlock} (hb : BlockOkM b = true) : TurnBlockM (MirrorBlockM (TurnBlockM b)) = MirrorBlockM b := by
  have o1 := turnBlock_ok hb
  have o2 := mirrorBlock_ok o1
  have o3 := turnBlock_ok o2
  have s1 := turnBlock_size _ hb
  have s2 := mirrorBlock_size _ o1
  have s3 := turnBlock_size _ o2
  refine block_ext o3 (mirrorBlock_ok hb) (by rw [s3, s2, s1, mirrorBlock_size _ hb]) fun n hn y x hy hx => ?_
  have n1 : (MirrorBlockM (TurnBlockM b)).Size = n := by rw [← hn, s3]
  have n2 : (TurnBlockM b).Size = n := by rw [← n1, s2]
  have n3 : b.Size = n := by rw [← n2, s1]
  rw [turn_gx o2 n1 hy hx, mirror_gx o1 n2 (by omega) hy, turn_gx hb n3 (by omega) (by omega), mirror_gx hb n3 hy hx]
  have ey : n - 1 - (n - 1 - y) = y := by omega
  rw [ey]
  exact tmt_cell (cell_gx hb n3 hy (by omega))

theorem turns_add (b : GBlock) (j : Nat) : ∀ k, turnsM (j + k) b = turnsM k (turnsM j b)
  | 0 => rfl
  | k + 1 => by
    show TurnBlockM (turnsM (j + k) b) = TurnBlockM (turnsM k (turnsM j b))
    rw [turns_add b j k]
theorem turns_four {b : GBlock} (hb : BlockOkM b = true) : turnsM 4 b = b := turn4 hb
theorem turns_mul {b : GBlock} (hb : BlockOkM b = true) (r : Nat) : ∀ q, turnsM (4 * q + r) b = turnsM r b
  | 0 => by rw [show 4 * 0 + r = r by omega]
  | q + 1 => by
    rw [show 4 * (q + 1) + r = 4 + (4 * q + r) by omega, turns_add, turns_four hb]
    exact turns_mul hb r q
theorem turns_mod {b : GBlock} (hb : BlockOkM b = true) (k : Nat) : turnsM (k % 4) b = turnsM k b := by
  have := turns_mul hb (k % 4) (k / 4)
  rw [Nat.div_add_mod] at this
  exact this.symm
theorem mirror_turn {b : GBlock} (hb : BlockOkM b = true) : MirrorBlockM (TurnBlockM b) = turnsM 3 (MirrorBlockM b) := by
  have o := mirrorBlock_ok (turnBlock_ok hb)
  have h := turn4 o
  rw [tmt hb] at h
  exact h.symm
theorem mirror_turns {b : GBlock} (hb : BlockOkM b = true) : ∀ i, MirrorBlockM (turnsM i b) = turnsM (3 * i) (MirrorBlockM b)
  | 0 => rfl
  | i + 1 => by
    show MirrorBlockM (TurnBlockM (turnsM i b)) = _
    rw [mirror_turn (turns_ok hb i).1, mirror_turns hb i, ← turns_add]
    congr 1

theorem seen_low {b : GBlock} (hb : BlockOkM b = true) {i : Nat} (hi : i < 4) : SeenM b (i : Int) = turnsM i b := by
  have h7 : inR (i : Int) 0 7 = true := inR_iff.2 ⟨by omega, by omega⟩
  have e1 : ((i : Int).tmod 4).toNat = i := by
    rw [Int.tmod_eq_emod_of_nonneg (by omega)]; omega
  have e2 : decide ((i : Int) ≥ 4) = false := decide_eq_false (by omega)
  unfold SeenM
  rw [hb, h7, e1, e2]; rfl
theorem seen_high {b : GBlock} (hb : BlockOkM b = true) {i : Nat} (h4 : 4 ≤ i) (hi : i < 8) : SeenM b (i : Int) = turnsM (i - 4) (MirrorBlockM b) := by
  have h7 : inR (i : Int) 0 7 = true := inR_iff.2 ⟨by omega, by omega⟩
  have e1 : ((i : Int).tmod 4).toNat = i - 4 := by
    rw [Int.tmod_eq_emod_of_nonneg (by omega)]; omega
  have e2 : decide ((i : Int) ≥ 4) = true := decide_eq_true (by omega)
  unfold SeenM
  rw [hb, h7, e1, e2]; rfl
/-- The number of the view of a view. -/
def prodN (i k : Nat) : Nat := if i < 4 ∧ k < 4 then (i + k) % 4 else if k < 4 then 4 + (i + k) % 4 else if i < 4 then 4 + (k + 4 - i) % 4 else (k + 4 - i) % 4
theorem prod_lt {i k : Nat} : prodN i k < 8 := by unfold prodN; split <;> (try split) <;> (try split) <;> omega
theorem seen_seen {b : GBlock} (hb : BlockOkM b = true) {i k : Nat} (hi : i < 8) (hk : k < 8) : SeenM (SeenM b (i : Int)) (k : Int) = SeenM b ((prodN i k : Nat) : Int) := by
  have hv := (view_ok hb hi).1
  have hm := mirrorBlock_ok hb
  unfold prodN
  by_cases h1 : i < 4
  · by_cases h2 : k < 4
    · rw [if_pos ⟨h1, h2⟩, seen_low hv h2, seen_low hb h1, seen_low hb (by omega), ← turns_add, turns_mod hb]
    · rw [if_neg (by omega), if_neg h2, if_pos h1, seen_high hv (by omega) hk, seen_low hb h1, mirror_turns hb, ← turns_add, seen_high hb (by omega) (by omega), Nat.add_sub_cancel_left, ← turns_mod hm]
      congr 1
      omega
  · by_cases h2 : k < 4
    · rw [if_neg (by omega), if_pos h2, seen_low hv h2, seen_high hb (by omega) hi, ← turns_add, seen_high hb (by omega) (by omega), Nat.add_sub_cancel_left, ← turns_mod hm]
      congr 1
      omega
    · rw [if_neg (by omega), if_neg h2, if_neg h1, seen_high hv (by omega) hk, seen_high hb (by omega) hi, mirror_turns hm, mirror2 hb, ← turns_add, seen_low hb (by omega), ← turns_mod hb]
      congr 1
      omega

theorem prod_assoc : ∀ i, i < 8 → ∀ k, k < 8 → ∀ m, m < 8 → prodN (prodN i k) m = prodN i (prodN k m) := by decide +kernel
def invN (i : Nat) : Nat := if i < 4 then (4 - i) % 4 else i
theorem prod_inv : ∀ i, i < 8 → invN i < 8 ∧ prodN i (invN i) = 0 ∧ prodN (invN i) i = 0 ∧ prodN i 0 = i ∧ prodN 0 i = i := by decide +kernel

/-- The views that leave a block as it is. -/
def stabM (b : GBlock) (k : Nat) : Bool := SameBlockM (SeenM b (k : Int)) b
theorem stab_iff {b : GBlock} {k : Nat} : stabM b k = true ↔ SeenM b (k : Int) = b := sameBlock_iff
theorem stab_prod {b : GBlock} (hb : BlockOkM b = true) {i k : Nat} (hi : i < 8) (hk : k < 8) (h1 : stabM b i = true) (h2 : stabM b k = true) : stabM b (prodN i k) = true := by
  rw [stab_iff] at h1 h2 ⊢
  rw [← seen_seen hb hi hk, h1, h2]
theorem same_view {b : GBlock} (hb : BlockOkM b = true) {j k : Nat} (hj : j < 8) (hk : k < 8) : SameBlockM (SeenM b (j : Int)) (SeenM b (k : Int)) = stabM b (prodN j (invN k)) := by
  obtain ⟨v1, v2, v3, v4, v5⟩ := prod_inv k hk
  rw [Bool.eq_iff_iff, sameBlock_iff, stab_iff, ← seen_seen hb hj v1]
  have h0 : SeenM b ((0 : Nat) : Int) = b := seen_zero hb
  constructor
  · intro h; rw [h, seen_seen hb hk v1, v2, h0]
  · intro h
    have := congrArg (fun d => SeenM d (k : Int)) h
    have this : SeenM (SeenM (SeenM b (j : Int)) ((invN k : Nat) : Int)) (k : Int) = SeenM b (k : Int) := this
    rw [seen_seen (view_ok hb hj).1 v1 hk, v3] at this
    rw [← this]
    have hz : SeenM (SeenM b (j : Int)) ((0 : Nat) : Int) = SeenM b (j : Int) := seen_zero (view_ok hb hj).1
    exact hz.symm

/-- How many of the eight are in S; how many are not led to one before by S. -/
def sizeS (S : Nat → Bool) : Nat := ((List.range 8).filter S).length
def formsS (S : Nat → Bool) : Nat := ((List.range 8).filter fun k => (List.range k).all fun j => !S (prodN j (invN k))).length
def closedS (S : Nat → Bool) : Bool := S 0 && (List.range 8).all fun i => (List.range 8).all fun k => !(S i && S k) || S (prodN i k)
theorem orbits : ∀ v, v < 256 → closedS (fun k => v.testBit k) = true → sizeS (fun k => v.testBit k) * formsS (fun k => v.testBit k) = 8 := by decide +kernel

def viewsL (S : Nat → Bool) : List Int := ((List.range 8).filter S).map fun k : Nat => (k : Int)
theorem mem_viewsL {S : Nat → Bool} {x : Int} : x ∈ viewsL S ↔ ∃ k : Nat, k < 8 ∧ S k = true ∧ x = (k : Int) := by
  simp only [viewsL, List.mem_map, List.mem_filter, List.mem_range]
  constructor
  · rintro ⟨k, ⟨h1, h2⟩, rfl⟩; exact ⟨k, h1, h2, rfl⟩
  · rintro ⟨k, h1, h2, rfl⟩; exact ⟨k, ⟨h1, h2⟩, rfl⟩
theorem viewsL_len (S : Nat → Bool) : (viewsL S).length = sizeS S := by simp [viewsL, sizeS]
theorem sizeS_le (S : Nat → Bool) : sizeS S ≤ 8 := by
  have := List.length_filter_le S (List.range 8)
  simpa [sizeS] using this
theorem viewsL_strict (S : Nat → Bool) : (viewsL S).Pairwise (· < ·) := by
  unfold viewsL
  rw [List.pairwise_map]
  exact (List.Pairwise.filter S List.pairwise_lt_range).imp fun h => by omega

def colS (b : GBlock) (k : Nat) : Bool := SameBlockM (PlainM (SeenM b (k : Int))) (PlainM b)
theorem colorSym_views {b : GBlock} (hb : BlockOkM b = true) : ColorSymM b = viewsL (colS b) := by unfold ColorSymM; rw [hb]; rfl
theorem stab_col {b : GBlock} {k : Nat} (h : stabM b k = true) : colS b k = true := by
  unfold colS
  rw [stab_iff.1 h]
  exact sameBlock_refl _
theorem plain_view {b : GBlock} (hb : BlockOkM b = true) : PlainM b = exB (FirstUseM b) b := by
  unfold PlainM
  rw [exB_eq hb (firstUse_ok hb)]
theorem col_prod {b : GBlock} (hb : BlockOkM b = true) {i k : Nat} (hi : i < 8) (hk : k < 8) (h1 : colS b i = true) (h2 : colS b k = true) : colS b (prodN i k) = true := by
  have hv := (view_ok hb hi).1
  have hw := (view_ok hb hk).1
  unfold colS at h1 h2 ⊢
  rw [sameBlock_iff] at h1 h2 ⊢
  rw [plain_view hv, plain_view hb] at h1
  -- the view is an exchange of the block
  have hu := firstUse_inj hv
  have hf := firstUse_inj hb
  obtain ⟨hui, hun⟩ := undo_inj hu
  have he : SeenM b (i : Int) = exB (undoM (FirstUseM (SeenM b (i : Int)))) (exB (FirstUseM b) b) := by
    rw [← h1, exB_undo hv hu hui hun]
  have hpl := exB_ok hb (FirstUseM b)
  have hvk := (view_ok hpl hk).1
  have e1 : SeenM (SeenM b (i : Int)) (k : Int) = exB (undoM (FirstUseM (SeenM b (i : Int)))) (exB (FirstUseM b) (SeenM b (k : Int))) := by
    rw [he, seen_exchange hpl hui.1 hk, seen_exchange hb hf.1 hk, ← he]
  have hx1 := exB_ok hw (FirstUseM b)
  rw [← seen_seen hb hi hk, e1, plain_view (exB_ok hx1 _), plain_exB hx1 hui, plain_exB hw hf, ← plain_view hw, h2]
theorem col_closed {b : GBlock} (hb : BlockOkM b = true) : closedS (colS b) = true := by
  unfold closedS
  rw [stab_col (stab_iff.2 (seen_zero hb))]
  simp only [Bool.true_and, List.all_eq_true, List.mem_range]
  intro i hi k hk
  cases h1 : colS b i
  · rfl
  cases h2 : colS b k
  · rfl
  simp [col_prod hb hi hk h1 h2]

theorem bytesLess_trans : ∀ {a b c : List UInt8}, Op.bytesLess a b = true → Op.bytesLess b c = true → Op.bytesLess a c = true
  | [], [], _, h, _ => by simp [Op.bytesLess] at h
  | [], _ :: _, [], _, h => by simp [Op.bytesLess] at h
  | [], _ :: _, _ :: _, _, _ => rfl
  | _ :: _, [], _, h, _ => by simp [Op.bytesLess] at h
  | _ :: _, _ :: _, [], _, h => by simp [Op.bytesLess] at h
  | x :: a, y :: b, z :: c, h1, h2 => by
    simp only [Op.bytesLess, Bool.or_eq_true, Bool.and_eq_true, decide_eq_true_iff, beq_iff_eq] at h1 h2 ⊢
    rcases h1 with h1 | ⟨rfl, h1⟩
    · rcases h2 with h2 | ⟨rfl, h2⟩
      · exact Or.inl (UInt8.lt_trans h1 h2)
      · exact Or.inl h1
    · rcases h2 with h2 | ⟨rfl, h2⟩
      · exact Or.inl h2
      · exact Or.inr ⟨rfl, bytesLess_trans h1 h2⟩
theorem bytesLess_total : ∀ {a b : List UInt8}, Op.bytesLess a b = false → Op.bytesLess b a = false → a = b
  | [], [], _, _ => rfl
  | [], _ :: _, h, _ => by simp [Op.bytesLess] at h
  | _ :: _, [], _, h => by simp [Op.bytesLess] at h
  | x :: a, y :: b, h1, h2 => by
    simp only [Op.bytesLess, Bool.or_eq_false_iff, Bool.and_eq_false_iff, decide_eq_false_iff_not, beq_eq_false_iff_ne] at h1 h2
    have hxy : x = y := UInt8.le_antisymm (UInt8.not_lt.1 h2.1) (UInt8.not_lt.1 h1.1)
    subst hxy
    have e1 := h1.2.resolve_left (fun h => h rfl)
    have e2 := h2.2.resolve_left (fun h => h rfl)
    rw [bytesLess_total e1 e2]

theorem slt_trans {a b c : Str} (h1 : slt a b = true) (h2 : slt b c = true) : slt a c = true := bytesLess_trans h1 h2
theorem slt_total {a b : Str} (h1 : slt a b = false) (h2 : slt b a = false) : a = b := by
  have := bytesLess_total h1 h2
  cases a; cases b; simp only at this; rw [this]
/-- The least of blocks is not behind any of them. -/
theorem lst_least (F : Nat → GBlock) : ∀ n k, k ≤ n → slt (textM (F k)) (textM (lstM F n)) = false
  | 0, k, hk => by
    have : k = 0 := by omega
    subst this
    exact slt_irrefl _
  | n + 1, k, hk => by
    unfold lstM
    cases h : slt (textM (F (n + 1))) (textM (lstM F n))
    · rw [cond_false]
      rcases Nat.lt_or_ge k (n + 1) with h1 | h1
      · exact lst_least F n k (by omega)
      · have : k = n + 1 := by omega
        subst this; exact h
    · rw [cond_true]
      rcases Nat.lt_or_ge k (n + 1) with h1 | h1
      · have ih := lst_least F n k (by omega)
        rw [Bool.eq_false_iff]
        intro hk2
        have := slt_trans hk2 h
        rw [this] at ih; cases ih
      · have : k = n + 1 := by omega
        subst this; exact slt_irrefl _
/-- Two lists with the same valid blocks have the same least one. -/
theorem lst_same {F G : Nat → GBlock} {n : Nat} (hF : ∀ k, k ≤ n → BlockOkM (F k) = true) (hG : ∀ k, k ≤ n → BlockOkM (G k) = true) (h1 : ∀ k, k ≤ n → ∃ j, j ≤ n ∧ F k = G j) (h2 : ∀ k, k ≤ n → ∃ j, j ≤ n ∧ G k = F j) : lstM F n = lstM G n := by
  obtain ⟨i, hi, ei⟩ := lst_in F n
  obtain ⟨j, hj, ej⟩ := lst_in G n
  obtain ⟨a, ha, ea⟩ := h1 i hi
  obtain ⟨c, hc, ec⟩ := h2 j hj
  have l1 := lst_least G n a ha
  have l2 := lst_least F n c hc
  rw [← ea, ← ei] at l1
  rw [← ec, ← ej] at l2
  have := slt_total l1 l2
  refine text_inj ?_ ?_ this
  · rw [ei]; exact hF i hi
  · rw [ej]; exact hG j hj
end Go.Proofs.YtkahnmhkfmjomabDoor
