/-
  The plain laws: what the functions compute, in Lean alone.
-/
import Derived.Test.YtkahnmhkfmjomaePure
namespace Go.Proofs.Ytkahnmhkfmjomae
open Go

theorem gd_pos {α : Type} {p : Prop} [Decidable p] (h : p) (t : Option α) : gd p t = t := by simp [gd, h]
@[simp] theorem sq_inl {J C : Type} (j : J) (k : J → Option C) : sq (some (.inl j)) k = k j := rfl
@[simp] theorem sq_inr {J C : Type} (c : C) (k : J → Option C) : sq (some (.inr c)) k = some c := rfl

section
variable {S C : Type} {f : Nat → S → Option (Res S C)} {N : Nat}
theorem forO_at (st : Nat → S) (h : ∀ k, k < N → f k (st k) = some (.next (st (k + 1)))) : ∀ m k, k + m = N → forO f m k (st k) = some (.inl (st N))
  | 0, k, e => by simp at e; subst e; rfl
  | m + 1, k, e => by
    rw [forO, h k (by omega)]
    exact forO_at st h m (k + 1) (by omega)
theorem forO_st (st : Nat → S) {s0 : S} (h0 : s0 = st 0) (h : ∀ k, k < N → f k (st k) = some (.next (st (k + 1)))) : forO f N 0 s0 = some (.inl (st N)) := by
  rw [h0]; exact forO_at st h N 0 (by omega)
theorem forO_upto (st : Nat → S) (K : Nat) (hK : K < N) (h : ∀ k, k < K → f k (st k) = some (.next (st (k + 1)))) : ∀ m k, k + m = N → k ≤ K → forO f m k (st k) = forO f (N - K) K (st K)
  | 0, k, e, hk => by omega
  | m + 1, k, e, hk => by
    rcases Nat.lt_or_ge k K with hlt | hge
    · rw [forO, h k hlt]
      exact forO_upto st K hK h m (k + 1) (by omega) (by omega)
    · have : k = K := by omega
      subst this
      rw [show N - k = m + 1 by omega]
theorem forO_retAt (st : Nat → S) {s0 : S} (h0 : s0 = st 0) (K : Nat) (hK : K < N) (h : ∀ k, k < K → f k (st k) = some (.next (st (k + 1)))) {c : C} (hr : f K (st K) = some (.ret c)) : forO f N 0 s0 = some (.inr c) := by
  rw [h0, forO_upto st K hK h N 0 (by omega) (by omega), show N - K = (N - K - 1) + 1 by omega, forO, hr]; rfl
theorem forO_brkAt (st : Nat → S) {s0 : S} (h0 : s0 = st 0) (K : Nat) (hK : K < N) (h : ∀ k, k < K → f k (st k) = some (.next (st (k + 1)))) {s' : S} (hr : f K (st K) = some (.brk s')) : forO f N 0 s0 = some (.inl s') := by
  rw [h0, forO_upto st K hK h N 0 (by omega) (by omega), show N - K = (N - K - 1) + 1 by omega, forO, hr]; rfl
/-- A loop that looks for the first place where p fails. -/
theorem forO_all (p : Nat → Bool) {s : S} {c : C} (h : ∀ k, k < N → f k s = some (bif p k then .next s else .ret c)) : forO f N 0 s = some (bif (List.range N).all p then .inl s else .inr c) := by
  cases ha : (List.range N).all p with
  | true =>
    rw [List.all_eq_true] at ha
    exact forO_st (fun _ => s) rfl fun k hk => by rw [h k hk, ha k (by simpa using hk)]; rfl
  | false =>
    have : ∃ k, k < N ∧ p k = false := by
      rw [List.all_eq_false] at ha
      obtain ⟨k, hk, hp⟩ := ha
      exact ⟨k, by simpa using hk, by simpa using hp⟩
    have hmin : ∃ k, k < N ∧ p k = false ∧ ∀ j, j < k → p j = true := by
      obtain ⟨k, hk, hp⟩ := this
      induction k using Nat.strongRecOn with
      | _ k ih =>
        by_cases hx : ∃ j, j < k ∧ p j = false
        · obtain ⟨j, hj, hpj⟩ := hx
          exact ih j hj (by omega) hpj
        · refine ⟨k, hk, hp, fun j hj => ?_⟩
          cases hpj : p j with
          | true => rfl
          | false => exact absurd ⟨j, hj, hpj⟩ hx
    obtain ⟨k, hk, hp, hall⟩ := hmin
    exact forO_retAt (fun _ => s) rfl k hk (fun j hj => by rw [h j (by omega), hall j hj]; rfl) (by rw [h k hk, hp]; rfl)
/-- A loop that returns at the first place where p holds. -/
theorem forO_find (p : Nat → Bool) {s : S} (c : Nat → C) (h : ∀ k, k < N → f k s = some (bif p k then .ret (c k) else .next s)) : forO f N 0 s = some (match (List.range N).find? p with | some k => .inr (c k) | none => .inl s) := by
  cases ha : (List.range N).find? p with
  | none =>
    rw [List.find?_eq_none] at ha
    exact forO_st (fun _ => s) rfl fun k hk => by
      rw [h k hk]
      have := ha k (by simpa using hk)
      simp at this
      rw [this]; rfl
  | some K =>
    have hp := List.find?_some ha
    have hK : K < N := by simpa using List.mem_of_find?_eq_some ha
    refine forO_retAt (fun _ => s) rfl K hK (fun j hj => ?_) (by rw [h K hK, hp]; rfl)
    rw [h j (by omega)]
    have : p j = false := by
      rw [List.find?_range_eq_some] at ha
      simpa using ha.2.2 j hj
    rw [this]; rfl
end
section
variable {S : Type} {f : Nat → S → Option (Res S Empty)} {N : Nat}
theorem lpO_st (st : Nat → S) {s0 : S} (h0 : s0 = st 0) (h : ∀ k, k < N → f k (st k) = some (.next (st (k + 1)))) : lpO f N s0 = some (st N) := by
  unfold lpO; rw [forO_st st h0 h]; rfl
/-- A state that each round turns by g. -/
def fold {S : Type} (g : Nat → S → S) (s0 : S) : Nat → S
  | 0 => s0
  | n + 1 => g n (fold g s0 n)
theorem lpO_fold (g : Nat → S → S) {s0 : S} (h : ∀ k, k < N → f k (fold g s0 k) = some (.next (g k (fold g s0 k)))) : lpO f N s0 = some (fold g s0 N) :=
  lpO_st (fold g s0) rfl h
end
section
variable {α : Type} {f : Nat → List α → Option (Res (List α) Empty)} {N : Nat}
theorem lpO_app (F : Nat → α) {xs : List α} (h : ∀ k s, k < N → s.length = xs.length + k → f k s = some (.next (s ++ [F k]))) : lpO f N xs = some (xs ++ (List.range N).map F) :=
  lpO_st (fun k => xs ++ (List.range k).map F) (by simp) fun k hk => by
    rw [h k _ hk (by simp)]
    simp [List.range_succ]
theorem lpO_filter (p : Nat → Bool) (F : Nat → α) {xs : List α} (h : ∀ k s, k < N → s.length ≤ xs.length + k → f k s = some (.next (bif p k then s ++ [F k] else s))) : lpO f N xs = some (xs ++ ((List.range N).filter p).map F) :=
  lpO_st (fun k => xs ++ ((List.range k).filter p).map F) (by simp) fun k hk => by
    rw [h k _ hk (by
      have := List.length_filter_le p (List.range k)
      simp at this ⊢; omega)]
    cases hp : p k <;> simp [List.range_succ, List.filter_append, hp]
theorem lpO_cat (F : Nat → List α) {xs : List α} (h : ∀ k s, k < N → s = xs ++ (List.range k).flatMap F → f k s = some (.next (s ++ F k))) : lpO f N xs = some (xs ++ (List.range N).flatMap F) :=
  lpO_st (fun k => xs ++ (List.range k).flatMap F) (by simp) fun k hk => by
    rw [h k _ hk rfl]
    simp [List.range_succ]
end
theorem map_gx {α β : Type} [Rep α] (F : α → β) (xs : List α) : (List.range xs.length).map (fun k => F (gx xs k)) = xs.map F := by
  apply List.ext_getElem
  · simp
  · intro i h1 h2
    simp at h1
    simp [gx, List.getD, h1]
theorem all_gx {α : Type} [Rep α] (F : α → Bool) (xs : List α) : (List.range xs.length).all (fun k => F (gx xs k)) = xs.all F := by
  have := map_gx F xs
  calc (List.range xs.length).all (fun k => F (gx xs k)) = ((List.range xs.length).map (fun k => F (gx xs k))).all id := by simp [List.all_map]
    _ = xs.all F := by rw [this]; simp [List.all_map]
theorem gx_lt {α : Type} [Rep α] {xs : List α} {k : Nat} (h : k < xs.length) : gx xs k = xs[k] := by simp [gx, List.getD, h]
theorem gx_mem {α : Type} [Rep α] {xs : List α} {k : Nat} (h : k < xs.length) : gx xs k ∈ xs := by rw [gx_lt h]; exact List.getElem_mem h
theorem wr_of {n : Int} (h1 : -4611686018427387904 ≤ n) (h2 : n ≤ 4611686018427387904) : wr n = n := wr_id (by omega) (by omega)

/-- What is small enough for all bounds. -/
class Sm (α : Type) where
  ok : α → Prop
instance : Sm Int := ⟨fun _ => True⟩
instance : Sm Bool := ⟨fun _ => True⟩
instance : Sm Str := ⟨fun s => s.b.length ≤ 1048576⟩
instance (α : Type) [Sm α] : Sm (List α) := ⟨fun xs => xs.length ≤ 1048576 ∧ ∀ x ∈ xs, Sm.ok x⟩
theorem sm_len {α : Type} [Sm α] {xs : List α} (h : Sm.ok xs) : xs.length ≤ 1048576 := h.1
theorem sm_gx {α : Type} [Sm α] [Rep α] {xs : List α} (h : Sm.ok xs) {k : Nat} (hk : k < xs.length) : Sm.ok (gx xs k) := h.2 _ (gx_mem hk)
theorem sm_ints {xs : List Int} (h : xs.length ≤ 1048576) : Sm.ok xs := ⟨h, fun _ _ => trivial⟩

theorem gx_set_ne {α : Type} [Rep α] {xs : List α} {k j : Nat} {e : α} (h : j ≠ k) : gx (xs.set k e) j = gx xs j := by
  simp [gx, List.getD, List.getElem?_set_ne (Ne.symm h)]
theorem gx_ext {α : Type} [Rep α] {xs ys : List α} (hl : xs.length = ys.length) (h : ∀ k, k < xs.length → gx xs k = gx ys k) : xs = ys := by
  apply List.ext_getElem hl
  intro i h1 h2
  have := h i h1
  rwa [gx_lt h1, gx_lt h2] at this

theorem to_list {α : Type} [Rep α] {f : Nat → List α → Option (Res (List α) Empty)} (a : List α) (z : α) (h : ∀ k s, k < a.length → s.length = a.length → f k s = some (.next (s.set k (gx a k)))) : lpO f a.length (List.replicate a.length z) = some a := by
  have := lpO_st (f := f) (N := a.length) (fun k => a.take k ++ List.replicate (a.length - k) z) (s0 := List.replicate a.length z) (by simp) fun k hk => by
    rw [h k _ hk (by simp; omega)]
    congr 2
    apply List.ext_getElem
    · simp; omega
    · intro i h1 h2
      rw [List.getElem_set]
      split
      · rename_i e; subst e
        rw [gx_lt hk, List.getElem_append_left (by simp; omega)]
        simp
      · rename_i hne
        rcases Nat.lt_or_ge i k with hi | hi
        · rw [List.getElem_append_left (by simp; omega), List.getElem_append_left (by simp; omega)]; simp
        · rw [List.getElem_append_right (by simp; omega), List.getElem_append_right (by simp; omega)]; simp
  simpa using this
theorem all_next {C : Type} {f : Nat → Unit → Option (Res Unit C)} {N : Nat} (h : ∀ k, k < N → f k () = some (.next ())) : forO f N 0 () = some (.inl ()) := forO_st (fun _ => ()) rfl h

theorem mark_list {α : Type} [Rep α] {f : Nat → List α × Int → Option (Res (List α × Int) Empty)} (a : List α) (j0 B M : Int) (R : α → Int → Int → Prop) (hB : 0 ≤ B) (hM : j0 + B * a.length ≤ M)
    (h : ∀ k s j, k < a.length → s.length = a.length → gx s k = gx a k → j0 ≤ j → j + B ≤ M → ∃ e j', f k (s, j) = some (.next (s.set k e, j')) ∧ j ≤ j' ∧ j' ≤ j + B ∧ R e j j') :
    ∃ (a' : List α) (js : Nat → Int), lpO f a.length (a, j0) = some (a', js a.length) ∧ a'.length = a.length ∧ js 0 = j0 ∧ j0 ≤ js a.length ∧ js a.length ≤ j0 + B * a.length ∧ ∀ k, k < a.length → R (gx a' k) (js k) (js (k + 1)) ∧ j0 ≤ js k := by
  have key : ∀ m k (s : List α) (j : Int), k + m = a.length → s.length = a.length → (∀ i, k ≤ i → i < a.length → gx s i = gx a i) → j0 ≤ j → j ≤ j0 + B * k →
      ∃ (a' : List α) (js : Nat → Int), forO f m k (s, j) = some (.inl (a', js a.length)) ∧ a'.length = a.length ∧ js k = j ∧ j ≤ js a.length ∧ js a.length ≤ j0 + B * a.length ∧ (∀ i, i < k → gx a' i = gx s i) ∧ ∀ i, k ≤ i → i < a.length → R (gx a' i) (js i) (js (i + 1)) ∧ j ≤ js i := by
    intro m
    induction m with
    | zero =>
      intro k s j hk hl _ h0 h1
      have e : k = a.length := by omega
      subst e
      exact ⟨s, fun _ => j, rfl, hl, rfl, Int.le_refl _, h1, fun _ _ => rfl, fun i h1 h2 => by omega⟩
    | succ m ih =>
      intro k s j hk hl hs h0 h1
      have hle : B * (k : Int) + B ≤ B * a.length := by
        have : (k : Int) + 1 ≤ a.length := by omega
        have := Int.mul_le_mul_of_nonneg_left this hB
        rw [Int.mul_add, Int.mul_one] at this
        exact this
      obtain ⟨e, j', hf, g1, g2, hR⟩ := h k s j (by omega) hl (hs k (Nat.le_refl _) (by omega)) h0 (by omega)
      obtain ⟨a', js, i1, i2, i3, i3', i4, i5, i6⟩ := ih (k + 1) (s.set k e) j' (by omega) (by simpa using hl) (fun i h1 h2 => by rw [gx_set_ne (by omega)]; exact hs i (by omega) h2) (by omega) (by
        have e1 : B * ((k + 1 : Nat) : Int) = B * k + B := by rw [Int.natCast_add, Int.mul_add]; simp
        rw [e1]; omega)
      refine ⟨a', fun i => if i = k then j else js i, ?_, i2, by simp, ?_, ?_, fun i hi => ?_, fun i h1 h2 => ?_⟩
      · rw [forO, hf]
        have hne : a.length ≠ k := by omega
        simp only [Option.bind_some, hne, if_false]
        exact i1
      · have hne : a.length ≠ k := by omega
        simp only [hne, if_false]
        omega
      · have hne : a.length ≠ k := by omega
        simp only [hne, if_false]
        exact i4
      · rw [i5 i (by omega), gx_set_ne (by omega)]
      · rcases Nat.eq_or_lt_of_le h1 with e1 | e1
        · subst e1
          have hne : k + 1 ≠ k := by omega
          simp only [if_true, hne, if_false]
          rw [i3, i5 k (by omega), gx_set (by omega)]
          exact ⟨hR, Int.le_refl _⟩
        · have n1 : i ≠ k := by omega
          have n2 : i + 1 ≠ k := by omega
          simp only [n1, n2, if_false]
          obtain ⟨q1, q2⟩ := i6 i (by omega) h2
          exact ⟨q1, by omega⟩
  obtain ⟨a', js, i1, i2, i3, i3', i4, _, i6⟩ := key a.length 0 a j0 (by omega) rfl (fun _ _ _ => rfl) (Int.le_refl _) (by simp)
  refine ⟨a', js, ?_, i2, i3, i3', i4, fun k hk => i6 k (Nat.zero_le _) hk⟩
  unfold lpO
  rw [i1]; rfl
theorem held_list {C : Type} {f : Nat → Int → Option (Res Int C)} {N : Nat} (js : Nat → Int) {j0 : Int} (h0 : js 0 = j0) (h : ∀ k, k < N → f k (js k) = some (.next (js (k + 1)))) : forO f N 0 j0 = some (.inl (js N)) := forO_st js h0.symm h
/-- Sizes: each round takes off what an element has, or ends. -/
theorem size_list {f : Nat → Int → Option (Res Int Int)} {N : Nat} (P : Nat → Prop) (l : Int) (h : ∀ k j, k < N → 0 ≤ j → j ≤ l → (f k j = some (.ret (-1))) ∨ ∃ j', f k j = some (.next j') ∧ 0 ≤ j' ∧ j' ≤ j ∧ P k) (hl : 0 ≤ l) :
    forO f N 0 l = some (.inr (-1)) ∨ ∃ j, forO f N 0 l = some (.inl j) ∧ 0 ≤ j ∧ j ≤ l ∧ ∀ k, k < N → P k := by
  have key : ∀ m k j, k + m = N → 0 ≤ j → j ≤ l → (∀ i, i < k → P i) → forO f m k j = some (.inr (-1)) ∨ ∃ j', forO f m k j = some (.inl j') ∧ 0 ≤ j' ∧ j' ≤ l ∧ ∀ i, i < N → P i := by
    intro m
    induction m with
    | zero => intro k j hk h0 h1 hP; exact .inr ⟨j, rfl, h0, h1, fun i hi => hP i (by omega)⟩
    | succ m ih =>
      intro k j hk h0 h1 hP
      rcases h k j (by omega) h0 h1 with hr | ⟨j', hr, g1, g2, g3⟩
      · left; rw [forO, hr]; rfl
      · rw [forO, hr]
        exact ih (k + 1) j' (by omega) g1 (by omega) (fun i hi => by
          rcases Nat.lt_or_ge i k with h | h
          · exact hP i h
          · have : i = k := by omega
            subst this; exact g3)
  exact key N 0 l (by omega) hl (Int.le_refl _) (fun i hi => by omega)
theorem all_of_gx {α : Type} [Rep α] {xs : List α} {P : α → Prop} (h : ∀ k, k < xs.length → P (gx xs k)) : ∀ x ∈ xs, P x := fun x hx => by
  obtain ⟨i, hi, rfl⟩ := List.getElem_of_mem hx
  have := h i hi
  rwa [gx_lt hi] at this

-- type GCell
instance : Sm GCell := ⟨fun _ => True⟩

-- type GBlock
instance : Sm GBlock := ⟨fun x => Sm.ok x.Cells⟩

-- type GSpot
instance : Sm GSpot := ⟨fun _ => True⟩

-- type GQuilt
instance : Sm GQuilt := ⟨fun x => Sm.ok x.Spots⟩

def inR (x a b : Int) : Bool := decide (x ≥ a) && decide (x ≤ b)
theorem inR_iff {x a b : Int} : inR x a b = true ↔ a ≤ x ∧ x ≤ b := by simp [inR]
theorem inR_not {x a b : Int} : inR x a b = false ↔ ¬(a ≤ x ∧ x ≤ b) := by rw [← inR_iff]; simp

@[simp] theorem l01In_eq (x a b : Int) : spec_l01In x a b = some (inR x a b) := rfl

@[simp] theorem within_eq (x a b : Int) : impl_within x a b = some (inR x a b) := rfl

@[simp] theorem isColor_eq (a : Int) : impl_isColor a = some (inR a 0 5) := rfl

def CellOkM (c : GCell) : Bool := inR c.Split 0 2 && inR c.A 0 5 && inR c.B 0 5 && ((c.Split == 0) == (c.A == c.B))

@[simp] theorem spec_CellOk_eq (c : GCell) : spec_CellOk c = some (CellOkM c) := by
  unfold spec_CellOk CellOkM
  simp only [l01In_eq, Option.bind_some]
  cases inR c.Split 0 2 <;> cases inR c.A 0 5 <;> cases inR c.B 0 5 <;> simp

@[simp] theorem impl_CellOk_eq (c : GCell) : impl_CellOk c = some (CellOkM c) := by
  unfold impl_CellOk CellOkM
  simp only [within_eq, isColor_eq, Option.bind_some]
  cases inR c.Split 0 2 <;> cases inR c.A 0 5 <;> cases inR c.B 0 5 <;> simp

theorem cellOk_spec {c : GCell} (h : CellOkM c = true) : 0 ≤ c.Split ∧ c.Split ≤ 2 ∧ 0 ≤ c.A ∧ c.A ≤ 5 ∧ 0 ≤ c.B ∧ c.B ≤ 5 ∧ (c.Split = 0 ↔ c.A = c.B) := by
  simp only [CellOkM, Bool.and_eq_true, inR_iff, beq_iff_eq] at h
  obtain ⟨⟨⟨⟨h1, h2⟩, h3, h4⟩, h5, h6⟩, h7⟩ := h
  refine ⟨h1, h2, h3, h4, h5, h6, ?_⟩
  have e1 : (c.Split == 0) = decide (c.Split = 0) := by cases h : c.Split == 0 <;> simp_all
  have e2 : (c.A == c.B) = decide (c.A = c.B) := by cases h : c.A == c.B <;> simp_all
  rw [e1, e2] at h7
  constructor
  · intro h; simp [h] at h7; exact h7
  · intro h; simp [h] at h7; exact h7
theorem cellOk_of {c : GCell} (h1 : 0 ≤ c.Split) (h2 : c.Split ≤ 2) (h3 : 0 ≤ c.A) (h4 : c.A ≤ 5) (h5 : 0 ≤ c.B) (h6 : c.B ≤ 5) (h7 : c.Split = 0 ↔ c.A = c.B) : CellOkM c = true := by
  have e1 : inR c.Split 0 2 = true := inR_iff.2 ⟨h1, h2⟩
  have e2 : inR c.A 0 5 = true := inR_iff.2 ⟨h3, h4⟩
  have e3 : inR c.B 0 5 = true := inR_iff.2 ⟨h5, h6⟩
  unfold CellOkM
  rw [e1, e2, e3]
  by_cases h : c.Split = 0
  · have := h7.1 h; simp [h, this]
  · have : ¬ c.A = c.B := fun e => h (h7.2 e)
    have q1 : (c.Split == 0) = false := beq_eq_false_iff_ne.2 h
    have q2 : (c.A == c.B) = false := beq_eq_false_iff_ne.2 this
    rw [q1, q2]; rfl

def WholeCellM (a : Int) : GCell := bif inR a 0 5 then ⟨0, a, a⟩ else ⟨0, 0, 0⟩

@[simp] theorem spec_WholeCell_eq (a : Int) : spec_WholeCell a = some (WholeCellM a) := by
  unfold spec_WholeCell WholeCellM
  simp only [l01In_eq, Option.bind_some]
  cases inR a 0 5 <;> rfl

def SplitCellM (s a b : Int) : GCell := bif a == b then WholeCellM a else bif CellOkM ⟨s, a, b⟩ then ⟨s, a, b⟩ else ⟨0, 0, 0⟩

@[simp] theorem spec_SplitCell_eq (s a b : Int) : spec_SplitCell s a b = some (SplitCellM s a b) := by
  unfold spec_SplitCell SplitCellM
  simp only [spec_WholeCell_eq, spec_CellOk_eq, Option.bind_some]
  cases a == b <;> cases CellOkM ⟨s, a, b⟩ <;> rfl

/-- Row by row. -/
def cellsM {α : Type} (h w : Nat) (F : Nat → Nat → α) : List α := (List.range h).flatMap fun y => (List.range w).map fun x => F y x
theorem cellsM_length {α : Type} (h w : Nat) (F : Nat → Nat → α) : (cellsM h w F).length = h * w := by
  induction h with
  | zero => simp [cellsM]
  | succ h ih =>
    unfold cellsM at ih ⊢
    rw [List.range_succ, List.flatMap_append, List.length_append, ih]
    simp [Nat.add_mul]
theorem cellsM_succ {α : Type} (h w : Nat) (F : Nat → Nat → α) : cellsM (h + 1) w F = cellsM h w F ++ (List.range w).map fun x => F h x := by
  simp [cellsM, List.range_succ]
theorem cellsM_gx {α : Type} [Rep α] {h w : Nat} {F : Nat → Nat → α} {y x : Nat} (hy : y < h) (hx : x < w) : gx (cellsM h w F) (y * w + x) = F y x := by
  induction h with
  | zero => omega
  | succ h ih =>
    rw [cellsM_succ]
    rcases Nat.lt_or_ge y h with hlt | hge
    · have hl : y * w + x < h * w := by
        have := Nat.mul_le_mul_right w (show y + 1 ≤ h from hlt)
        rw [Nat.add_mul] at this; omega
      have := ih hlt
      unfold gx List.getD at this ⊢
      rw [List.getElem?_append_left (by rw [cellsM_length]; exact hl)]
      exact this
    · have e : y = h := by omega
      subst e
      unfold gx List.getD
      rw [List.getElem?_append_right (by rw [cellsM_length]; omega), cellsM_length]
      simp [hx]
theorem cellsM_all {α : Type} {h w : Nat} {F : Nat → Nat → α} {P : α → Prop} (hF : ∀ y x, y < h → x < w → P (F y x)) : ∀ c ∈ cellsM h w F, P c := by
  intro c hc
  simp only [cellsM, List.mem_flatMap, List.mem_map, List.mem_range] at hc
  obtain ⟨y, hy, x, hx, rfl⟩ := hc
  exact hF y x hy hx
theorem loop2 {α : Type} {f1 : Nat → List α → Option (Res (List α) Empty)} {f2 : Nat → Nat → List α → Option (Res (List α) Empty)} {h w : Nat} (F : Nat → Nat → α) (h1 : ∀ k s, f1 k s = (lpO (f2 k) w s).bind fun e => some (.next e))
    (h2 : ∀ k1 k2 s, k1 < h → k2 < w → s.length < h * w → f2 k1 k2 s = some (.next (s ++ [F k1 k2]))) : lpO f1 h [] = some (cellsM h w F) := by
  refine (lpO_cat (xs := []) (fun y => (List.range w).map fun x => F y x) fun k s hk hs => ?_).trans (by simp [cellsM])
  have hl : s.length = k * w := by
    rw [hs, List.nil_append]; exact cellsM_length k w F
  rw [h1, lpO_app (xs := s) (fun x => F k x) fun k2 s2 hk2 hs2 => h2 k k2 s2 hk hk2 (by
    have := Nat.mul_le_mul_right w (show k + 1 ≤ h from hk)
    rw [Nat.add_mul] at this; omega)]
  rfl

theorem made_eq (n : Nat) (one : Int → Int → Option GCell) (F : Nat → Nat → GCell) (hn : n ≤ 1000) (h : ∀ y x : Nat, y < n → x < n → one (x : Int) (y : Int) = some (F y x)) : impl_made (n : Int) one = some ⟨n, cellsM n n F⟩ := by
  unfold impl_made
  have hN : ((n : Int)).toNat = n := by simp
  rw [hN, gd_pos (by omega), loop2 (f1 := impl_made_L1 n one) (f2 := impl_made_L2 one) (h := n) (w := n) F (fun k s => by simp only [impl_made_L1, hN]) (fun k1 k2 s h1 h2 h3 => by
    have : n * n ≤ 1000 * 1000 := Nat.mul_le_mul hn hn
    simp only [impl_made_L2, h k1 k2 h1 h2, Option.bind_some]
    rw [gd_pos (by omega)])]
  rfl

def BlockOkM (b : GBlock) : Bool := inR b.Size 1 4 && ((b.Cells.length : Int) == b.Size * b.Size) && b.Cells.all CellOkM
theorem size_cases {n : Int} (h : inR n 1 4 = true) : n = 1 ∨ n = 2 ∨ n = 3 ∨ n = 4 := by
  rw [inR_iff] at h; omega

@[simp] theorem spec_BlockOk_eq (b : GBlock) : spec_BlockOk b = some (BlockOkM b) := by
  unfold spec_BlockOk BlockOkM
  simp only [l01In_eq, Option.bind_some]
  cases h : inR b.Size 1 4
  · rfl
  · have hw : wr (b.Size * b.Size) = b.Size * b.Size := by rcases size_cases h with e | e | e | e <;> rw [e] <;> decide
    rw [hw]
    cases hl : ((b.Cells.length : Int) == b.Size * b.Size)
    · have : (((b.Cells.length : Nat) : Int) != b.Size * b.Size) = true := by simp [bne, hl]
      simp [this]
    · have hl' : (b.Cells.length : Int) = b.Size * b.Size := by simpa using hl
      have : (((b.Cells.length : Nat) : Int) != b.Size * b.Size) = false := by simp [bne, hl]
      simp only [this, Bool.not_true, cond_false, Option.bind_some]
      rw [gd_pos (by rcases size_cases h with e | e | e | e <;> rw [e] at hl' <;> omega), forO_all (f := spec_BlockOk_L1 b) (fun k => CellOkM (gx b.Cells k)) (fun k hk => by
        simp only [spec_BlockOk_L1, spec_CellOk_eq, Option.bind_some]; cases CellOkM (gx b.Cells k) <;> rfl), all_gx]
      cases b.Cells.all CellOkM <;> rfl

@[simp] theorem impl_BlockOk_eq (b : GBlock) : impl_BlockOk b = some (BlockOkM b) := by
  unfold impl_BlockOk BlockOkM
  simp only [within_eq, Option.bind_some]
  cases h : inR b.Size 1 4
  · rfl
  · have hw : wr (b.Size * b.Size) = b.Size * b.Size := by rcases size_cases h with e | e | e | e <;> rw [e] <;> decide
    rw [hw]
    cases hl : ((b.Cells.length : Int) == b.Size * b.Size)
    · have : (((b.Cells.length : Nat) : Int) != b.Size * b.Size) = true := by simp [bne, hl]
      simp [this]
    · have hl' : (b.Cells.length : Int) = b.Size * b.Size := by simpa using hl
      have : (((b.Cells.length : Nat) : Int) != b.Size * b.Size) = false := by simp [bne, hl]
      simp only [this, Bool.not_true, cond_false, Option.bind_some]
      rw [gd_pos (by rcases size_cases h with e | e | e | e <;> rw [e] at hl' <;> omega), forO_all (f := impl_BlockOk_L1 b) (fun k => CellOkM (gx b.Cells k)) (fun k hk => by
        simp only [impl_BlockOk_L1, impl_CellOk_eq, Option.bind_some]; cases CellOkM (gx b.Cells k) <;> rfl), all_gx]
      cases b.Cells.all CellOkM <;> rfl

/-- A valid block: its side as a number, and its cells. -/
theorem blockOk_spec {b : GBlock} (h : BlockOkM b = true) : ∃ n : Nat, b.Size = n ∧ 1 ≤ n ∧ n ≤ 4 ∧ b.Cells.length = n * n ∧ ∀ c ∈ b.Cells, CellOkM c = true := by
  simp only [BlockOkM, Bool.and_eq_true, beq_iff_eq, List.all_eq_true] at h
  obtain ⟨⟨h1, h2⟩, h3⟩ := h
  rcases size_cases h1 with e | e | e | e <;> rw [e] at h2
  · exact ⟨1, e, by omega, by omega, by omega, h3⟩
  · exact ⟨2, e, by omega, by omega, by omega, h3⟩
  · exact ⟨3, e, by omega, by omega, by omega, h3⟩
  · exact ⟨4, e, by omega, by omega, by omega, h3⟩
theorem blockOk_of {n : Nat} {cs : List GCell} (h1 : 1 ≤ n) (h2 : n ≤ 4) (hl : cs.length = n * n) (hc : ∀ c ∈ cs, CellOkM c = true) : BlockOkM ⟨n, cs⟩ = true := by
  simp only [BlockOkM, Bool.and_eq_true, beq_iff_eq, List.all_eq_true]
  exact ⟨⟨inR_iff.2 ⟨by omega, by omega⟩, by rw [hl]; simp⟩, hc⟩
theorem blockOk_sm {b : GBlock} (h : BlockOkM b = true) : Sm.ok b := by
  obtain ⟨n, _, h1, h2, hl, _⟩ := blockOk_spec h
  have : n * n ≤ 4 * 4 := Nat.mul_le_mul h2 h2
  exact ⟨by omega, fun _ _ => trivial⟩
theorem zero_sm : Sm.ok (⟨0, []⟩ : GBlock) := ⟨by simp, fun _ h => by simp at h⟩

def TurnCellM (c : GCell) : GCell := bif CellOkM c then (bif c.Split == 1 then ⟨2, c.B, c.A⟩ else bif c.Split == 2 then ⟨1, c.A, c.B⟩ else c) else ⟨0, 0, 0⟩
theorem turnCell_ok {c : GCell} (h : CellOkM c = true) : CellOkM (TurnCellM c) = true := by
  obtain ⟨h1, h2, h3, h4, h5, h6, h7⟩ := cellOk_spec h
  unfold TurnCellM
  rw [h]
  by_cases e1 : c.Split = 1
  · simp only [e1, beq_self_eq_true, cond_true]
    exact cellOk_of (show (0 : Int) ≤ 2 by decide) (show (2 : Int) ≤ 2 by decide) h5 h6 h3 h4 ⟨fun h => by simp at h, fun h => by have := h7.2 h.symm; omega⟩
  · by_cases e2 : c.Split = 2
    · have : (c.Split == 1) = false := by simp [e1]
      simp only [e2, cond_true, cond_false, beq_self_eq_true, show ((2 : Int) == 1) = false from rfl]
      exact cellOk_of (show (0 : Int) ≤ 1 by decide) (show (1 : Int) ≤ 2 by decide) h3 h4 h5 h6 ⟨fun h => by simp at h, fun h => by have := h7.2 h; omega⟩
    · rw [beq_eq_false_iff_ne.2 e1, beq_eq_false_iff_ne.2 e2]; exact h

@[simp] theorem spec_TurnCell_eq (c : GCell) : spec_TurnCell c = some (TurnCellM c) := by
  unfold spec_TurnCell TurnCellM
  simp only [spec_CellOk_eq, Option.bind_some]
  cases CellOkM c <;> cases c.Split == 1 <;> cases c.Split == 2 <;> rfl

@[simp] theorem impl_TurnCell_eq (c : GCell) : impl_TurnCell c = some (TurnCellM c) := by
  unfold impl_TurnCell TurnCellM
  simp only [impl_CellOk_eq, Option.bind_some]
  cases CellOkM c <;> cases c.Split == 1 <;> cases c.Split == 2 <;> rfl

def MirrorCellM (c : GCell) : GCell := bif CellOkM c then (bif c.Split == 0 then c else ⟨3 - c.Split, c.B, c.A⟩) else ⟨0, 0, 0⟩
theorem mirrorCell_ok {c : GCell} (h : CellOkM c = true) : CellOkM (MirrorCellM c) = true := by
  obtain ⟨h1, h2, h3, h4, h5, h6, h7⟩ := cellOk_spec h
  unfold MirrorCellM
  rw [h]
  by_cases e0 : c.Split = 0
  · simp [e0, h]
  · have : (c.Split == 0) = false := by simp [e0]
    simp only [this, cond_true, cond_false]
    exact cellOk_of (by simp only; omega) (by simp only; omega) h5 h6 h3 h4 ⟨fun h => by simp only at h; omega, fun h => absurd (h7.2 h.symm) e0⟩

@[simp] theorem spec_MirrorCell_eq (c : GCell) : spec_MirrorCell c = some (MirrorCellM c) := by
  unfold spec_MirrorCell MirrorCellM
  simp only [spec_CellOk_eq, Option.bind_some]
  cases h : CellOkM c
  · rfl
  · obtain ⟨h1, h2, _⟩ := cellOk_spec h
    rw [wr_of (by omega) (by omega)]
    cases c.Split == 0 <;> rfl

@[simp] theorem impl_MirrorCell_eq (c : GCell) : impl_MirrorCell c = some (MirrorCellM c) := by
  unfold impl_MirrorCell MirrorCellM
  simp only [impl_CellOk_eq, Option.bind_some]
  cases h : CellOkM c
  · rfl
  · obtain ⟨h1, h2, _⟩ := cellOk_spec h
    rw [wr_of (by omega) (by omega)]
    cases c.Split == 0 <;> rfl

def CellAtM (b : GBlock) (x y : Int) : GCell := bif BlockOkM b && inR x 0 (b.Size - 1) && inR y 0 (b.Size - 1) then gx b.Cells (y * b.Size + x).toNat else ⟨0, 0, 0⟩
theorem idx_lt {n y x : Nat} (hy : y < n) (hx : x < n) : y * n + x < n * n := by
  have := Nat.mul_le_mul_right n (show y + 1 ≤ n from hy)
  rw [Nat.add_mul] at this; omega
theorem idx_lt2 {h w y x : Nat} (hy : y < h) (hx : x < w) : y * w + x < h * w := by
  have := Nat.mul_le_mul_right w (show y + 1 ≤ h from hy)
  rw [Nat.add_mul] at this; omega
theorem cellAtM_nat {b : GBlock} {n x y : Nat} (h : BlockOkM b = true) (hn : b.Size = n) (hx : x < n) (hy : y < n) : CellAtM b x y = gx b.Cells (y * n + x) := by
  have e1 : inR (x : Int) 0 (b.Size - 1) = true := inR_iff.2 ⟨by omega, by omega⟩
  have e2 : inR (y : Int) 0 (b.Size - 1) = true := inR_iff.2 ⟨by omega, by omega⟩
  have e3 : ((y : Int) * b.Size + x).toNat = y * n + x := by
    rw [hn]
    have : ((y : Int) * (n : Int) + (x : Int)) = ((y * n + x : Nat) : Int) := by simp
    rw [this, Int.toNat_natCast]
  simp [CellAtM, h, e1, e2, e3]

theorem impl_isPlace_eq (b : GBlock) (x y : Int) : impl_Block_isPlace b x y = some (BlockOkM b && inR x 0 (b.Size - 1) && inR y 0 (b.Size - 1)) := by
  unfold impl_Block_isPlace
  simp only [impl_BlockOk_eq, within_eq, Option.bind_some]
  cases h : BlockOkM b
  · rfl
  · obtain ⟨n, hn, h1, h2, _⟩ := blockOk_spec h
    rw [wr_of (by omega) (by omega)]
    cases inR x 0 (b.Size - 1) <;> cases inR y 0 (b.Size - 1) <;> rfl

@[simp] theorem impl_CellAt_eq (b : GBlock) (x y : Int) : impl_CellAt b x y = some (CellAtM b x y) := by
  unfold impl_CellAt CellAtM
  simp only [impl_isPlace_eq, Option.bind_some]
  cases h : (BlockOkM b && inR x 0 (b.Size - 1) && inR y 0 (b.Size - 1))
  · rfl
  · simp only [Bool.and_eq_true, inR_iff] at h
    obtain ⟨⟨h0, hx⟩, hy⟩ := h
    obtain ⟨n, hn, h1, h2, hl, _⟩ := blockOk_spec h0
    rw [hn] at hx hy ⊢
    obtain ⟨x', rfl⟩ := Int.eq_ofNat_of_zero_le hx.1
    obtain ⟨y', rfl⟩ := Int.eq_ofNat_of_zero_le hy.1
    have hlt : y' * n + x' < n * n := idx_lt (by omega) (by omega)
    have hnn : n * n ≤ 4 * 4 := Nat.mul_le_mul h2 h2
    have hy' : y' * n ≤ n * n := by omega
    have e : wr (wr ((y' : Int) * (n : Int)) + (x' : Int)) = ((y' * n + x' : Nat) : Int) := by
      have : (y' : Int) * (n : Int) = ((y' * n : Nat) : Int) := by simp
      rw [this, wr_of (n := ((y' * n : Nat) : Int)) (by omega) (by omega), wr_of (by omega) (by omega)]; simp
    have e' : ((y' : Int) * (n : Int) + (x' : Int)) = ((y' * n + x' : Nat) : Int) := by simp
    rw [e, e', gd_pos ⟨by omega, by omega⟩]
    rfl

def TurnBlockM (b : GBlock) : GBlock := bif BlockOkM b then ⟨b.Size, cellsM b.Size.toNat b.Size.toNat fun y x => TurnCellM (gx b.Cells ((b.Size.toNat - 1 - x) * b.Size.toNat + y))⟩ else ⟨0, []⟩
theorem turnBlock_ok {b : GBlock} (h : BlockOkM b = true) : BlockOkM (TurnBlockM b) = true := by
  obtain ⟨n, hn, h1, h2, hl, hc⟩ := blockOk_spec h
  unfold TurnBlockM
  rw [h, hn]
  simp only [cond_true, Int.toNat_natCast]
  exact blockOk_of h1 h2 (cellsM_length _ _ _) (cellsM_all fun y x hy hx => turnCell_ok (hc _ (gx_mem (by rw [hl]; exact idx_lt (by omega) hy))))
theorem turnBlock_size (b : GBlock) (h : BlockOkM b = true) : (TurnBlockM b).Size = b.Size := by simp [TurnBlockM, h]
theorem idx_turn {n y x : Nat} (h1 : 1 ≤ n) (h2 : n ≤ 4) (hy : y < n) (hx : x < n) : wr ((wr ((wr ((wr ((n : Int) - 1)) - (x : Int))) * (n : Int))) + (y : Int)) = (((n - 1 - x) * n + y : Nat) : Int) := by
  have hn : n = 1 ∨ n = 2 ∨ n = 3 ∨ n = 4 := by omega
  rcases hn with rfl | rfl | rfl | rfl <;> simp (disch := omega) only [wr_of] <;> omega
theorem idx_mirror {n y x : Nat} (h1 : 1 ≤ n) (h2 : n ≤ 4) (hy : y < n) (hx : x < n) : wr ((wr ((wr ((wr ((y : Int) * (n : Int))) + (n : Int))) - 1)) - (x : Int)) = ((y * n + (n - 1 - x) : Nat) : Int) := by
  have hn : n = 1 ∨ n = 2 ∨ n = 3 ∨ n = 4 := by omega
  rcases hn with rfl | rfl | rfl | rfl <;> simp (disch := omega) only [wr_of] <;> omega

@[simp] theorem spec_TurnBlock_eq (b : GBlock) : spec_TurnBlock b = some (TurnBlockM b) := by
  unfold spec_TurnBlock TurnBlockM
  simp only [spec_BlockOk_eq, Option.bind_some]
  cases h : BlockOkM b
  · rfl
  · obtain ⟨n, hn, h1, h2, hl, hc⟩ := blockOk_spec h
    have hN : b.Size.toNat = n := by rw [hn]; simp
    have hnn : n * n ≤ 4 * 4 := Nat.mul_le_mul h2 h2
    simp only [hN, Bool.not_true, cond_false, cond_true]
    rw [gd_pos (by omega), loop2 (f1 := spec_TurnBlock_L1 b) (f2 := spec_TurnBlock_L2 b) (h := n) (w := n) (fun y x => TurnCellM (gx b.Cells ((n - 1 - x) * n + y))) (fun k s => by simp only [spec_TurnBlock_L1, hN]) (fun y x s hy hx hs => by
      have hlt : (n - 1 - x) * n + y < n * n := idx_lt (by omega) hy
      simp only [spec_TurnBlock_L2, hn, idx_turn h1 h2 hy hx, Int.toNat_natCast, spec_TurnCell_eq, Option.bind_some]
      rw [gd_pos ⟨by omega, by omega⟩, gd_pos (by omega)])]
    rfl

@[simp] theorem impl_TurnBlock_eq (b : GBlock) : impl_TurnBlock b = some (TurnBlockM b) := by
  unfold impl_TurnBlock TurnBlockM
  simp only [impl_BlockOk_eq, Option.bind_some]
  cases h : BlockOkM b
  · rfl
  · obtain ⟨n, hn, h1, h2, hl, hc⟩ := blockOk_spec h
    simp only [Bool.not_true, cond_false, cond_true, hn, Int.toNat_natCast]
    rw [made_eq n _ (fun y x => TurnCellM (gx b.Cells ((n - 1 - x) * n + y))) (by omega) (fun y x hy hx => by
      have e : wr (wr ((n : Int) - 1) - (x : Int)) = ((n - 1 - x : Nat) : Int) := by simp (disch := omega) only [wr_of]; omega
      simp only [impl_TurnBlock_c1, hn, e, impl_CellAt_eq, impl_TurnCell_eq, Option.bind_some]
      rw [cellAtM_nat h hn hy (by omega)])]
    rfl

def MirrorBlockM (b : GBlock) : GBlock := bif BlockOkM b then ⟨b.Size, cellsM b.Size.toNat b.Size.toNat fun y x => MirrorCellM (gx b.Cells (y * b.Size.toNat + (b.Size.toNat - 1 - x)))⟩ else ⟨0, []⟩
theorem mirrorBlock_ok {b : GBlock} (h : BlockOkM b = true) : BlockOkM (MirrorBlockM b) = true := by
  obtain ⟨n, hn, h1, h2, hl, hc⟩ := blockOk_spec h
  unfold MirrorBlockM
  rw [h, hn]
  simp only [cond_true, Int.toNat_natCast]
  exact blockOk_of h1 h2 (cellsM_length _ _ _) (cellsM_all fun y x hy hx => mirrorCell_ok (hc _ (gx_mem (by rw [hl]; exact idx_lt hy (by omega)))))
theorem mirrorBlock_size (b : GBlock) (h : BlockOkM b = true) : (MirrorBlockM b).Size = b.Size := by simp [MirrorBlockM, h]

@[simp] theorem spec_MirrorBlock_eq (b : GBlock) : spec_MirrorBlock b = some (MirrorBlockM b) := by
  unfold spec_MirrorBlock MirrorBlockM
  simp only [spec_BlockOk_eq, Option.bind_some]
  cases h : BlockOkM b
  · rfl
  · obtain ⟨n, hn, h1, h2, hl, hc⟩ := blockOk_spec h
    have hN : b.Size.toNat = n := by rw [hn]; simp
    have hnn : n * n ≤ 4 * 4 := Nat.mul_le_mul h2 h2
    simp only [hN, Bool.not_true, cond_false, cond_true]
    rw [gd_pos (by omega), loop2 (f1 := spec_MirrorBlock_L1 b) (f2 := spec_MirrorBlock_L2 b) (h := n) (w := n) (fun y x => MirrorCellM (gx b.Cells (y * n + (n - 1 - x)))) (fun k s => by simp only [spec_MirrorBlock_L1, hN]) (fun y x s hy hx hs => by
      have hlt : y * n + (n - 1 - x) < n * n := idx_lt hy (by omega)
      simp only [spec_MirrorBlock_L2, hn, idx_mirror h1 h2 hy hx, Int.toNat_natCast, spec_MirrorCell_eq, Option.bind_some]
      rw [gd_pos ⟨by omega, by omega⟩, gd_pos (by omega)])]
    rfl

@[simp] theorem impl_MirrorBlock_eq (b : GBlock) : impl_MirrorBlock b = some (MirrorBlockM b) := by
  unfold impl_MirrorBlock MirrorBlockM
  simp only [impl_BlockOk_eq, Option.bind_some]
  cases h : BlockOkM b
  · rfl
  · obtain ⟨n, hn, h1, h2, hl, hc⟩ := blockOk_spec h
    simp only [Bool.not_true, cond_false, cond_true, hn, Int.toNat_natCast]
    rw [made_eq n _ (fun y x => MirrorCellM (gx b.Cells (y * n + (n - 1 - x)))) (by omega) (fun y x hy hx => by
      have e : wr (wr ((n : Int) - 1) - (x : Int)) = ((n - 1 - x : Nat) : Int) := by simp (disch := omega) only [wr_of]; omega
      simp only [impl_MirrorBlock_c1, hn, e, impl_CellAt_eq, impl_MirrorCell_eq, Option.bind_some]
      rw [cellAtM_nat h hn (by omega) hy])]
    rfl

def turnsM : Nat → GBlock → GBlock
  | 0, b => b
  | k + 1, b => TurnBlockM (turnsM k b)
def SeenM (b : GBlock) (k : Int) : GBlock := bif BlockOkM b && inR k 0 7 then turnsM (k.tmod 4).toNat (bif decide (k ≥ 4) then MirrorBlockM b else b) else ⟨0, []⟩
theorem turns_ok {b : GBlock} (h : BlockOkM b = true) : ∀ k, BlockOkM (turnsM k b) = true ∧ (turnsM k b).Size = b.Size
  | 0 => ⟨h, rfl⟩
  | k + 1 => by
    obtain ⟨h1, h2⟩ := turns_ok h k
    exact ⟨turnBlock_ok h1, by rw [turnsM, turnBlock_size _ h1, h2]⟩
theorem seen_ok {b : GBlock} {k : Int} (h : BlockOkM b = true) (hk : inR k 0 7 = true) : BlockOkM (SeenM b k) = true ∧ (SeenM b k).Size = b.Size := by
  unfold SeenM
  rw [h, hk]
  cases hd : decide (k ≥ 4)
  · exact turns_ok h _
  · obtain ⟨h1, h2⟩ := turns_ok (mirrorBlock_ok h) (k.tmod 4).toNat
    exact ⟨h1, by rw [← mirrorBlock_size b h]; exact h2⟩
theorem tmod4 {k : Int} (hk : inR k 0 7 = true) : (k.tmod 4).toNat ≤ 3 := by
  rw [inR_iff] at hk
  have : k.tmod 4 = k % 4 := by rw [Int.tmod_eq_emod_of_nonneg hk.1]
  omega

@[simp] theorem spec_SeenFrom_eq (b : GBlock) (k : Int) : spec_SeenFrom b k = some (SeenM b k) := by
  unfold spec_SeenFrom SeenM
  simp only [spec_BlockOk_eq, l01In_eq, Option.bind_some]
  cases h : BlockOkM b
  · rfl
  · cases hk : inR k 0 7
    · rfl
    · have hs := (blockOk_sm h).1
      have ht := tmod4 hk
      have hc : spec_l03Copy b = some b := by
        unfold spec_l03Copy
        rw [gd_pos (by simp; omega)]; simp
      simp only [hc, spec_MirrorBlock_eq, Option.bind_some, Bool.not_true, cond_false]
      have key : ∀ b0 : GBlock, lpO spec_SeenFrom_L1 (k.tmod 4).toNat (b0.Size, b0.Cells) = some ((turnsM (k.tmod 4).toNat b0).Size, (turnsM (k.tmod 4).toNat b0).Cells) := fun b0 =>
        lpO_st (fun j => ((turnsM j b0).Size, (turnsM j b0).Cells)) rfl fun j _ => by
          simp only [spec_SeenFrom_L1, spec_TurnBlock_eq, Option.bind_some]; rfl
      cases decide (k ≥ 4) <;> simp only [cond_true, cond_false, Option.bind_some] <;> rw [gd_pos (by omega), key] <;> rfl

@[simp] theorem impl_SeenFrom_eq (b : GBlock) (k : Int) : impl_SeenFrom b k = some (SeenM b k) := by
  unfold impl_SeenFrom SeenM
  simp only [impl_BlockOk_eq, within_eq, Option.bind_some]
  cases h : BlockOkM b
  · rfl
  · cases hk : inR k 0 7
    · rfl
    · have hs := (blockOk_sm h).1
      have ht := tmod4 hk
      have hc : impl_Block_copied b = some b := by
        unfold impl_Block_copied
        rw [gd_pos (by simp; omega)]; simp
      simp only [hc, impl_MirrorBlock_eq, Option.bind_some, Bool.not_true, cond_false]
      have key : ∀ b0 : GBlock, lpO impl_SeenFrom_L1 (k.tmod 4).toNat (b0.Size, b0.Cells) = some ((turnsM (k.tmod 4).toNat b0).Size, (turnsM (k.tmod 4).toNat b0).Cells) := fun b0 =>
        lpO_st (fun j => ((turnsM j b0).Size, (turnsM j b0).Cells)) rfl fun j _ => by
          simp only [impl_SeenFrom_L1, impl_TurnBlock_eq, Option.bind_some]; rfl
      cases decide (k ≥ 4) <;> simp only [cond_true, cond_false, Option.bind_some] <;> rw [gd_pos (by omega), key] <;> rfl

def QuiltOkM (q : GQuilt) (bs : List GBlock) : Bool := inR q.Width 1 6 && inR q.Height 1 6 && inR bs.length 1 6 && ((q.Spots.length : Int) == q.Width * q.Height) && bs.all (fun b => BlockOkM b && (b.Size == (gx bs 0).Size)) && q.Spots.all (fun s => inR s.Block 0 ((bs.length : Int) - 1) && inR s.Seen 0 7)
theorem six_cases {n : Int} (h : inR n 1 6 = true) : n = 1 ∨ n = 2 ∨ n = 3 ∨ n = 4 ∨ n = 5 ∨ n = 6 := by rw [inR_iff] at h; omega
theorem six_mul {a b : Int} (ha : inR a 1 6 = true) (hb : inR b 1 6 = true) : 1 ≤ a * b ∧ a * b ≤ 36 := by
  rw [inR_iff] at hb
  rcases six_cases ha with e | e | e | e | e | e <;> rw [e] <;> omega
theorem wr_six {a b : Int} (ha : inR a 1 6 = true) (hb : inR b 1 6 = true) : wr (a * b) = a * b := by
  have := six_mul ha hb
  exact wr_of (by omega) (by omega)

@[simp] theorem spec_QuiltOk_eq (q : GQuilt) (bs : List GBlock) : spec_QuiltOk q bs = some (QuiltOkM q bs) := by
  unfold spec_QuiltOk QuiltOkM
  simp only [l01In_eq, Option.bind_some]
  cases hW : inR q.Width 1 6
  · rfl
  cases hH : inR q.Height 1 6
  · rfl
  cases hB : inR (bs.length : Int) 1 6
  · rfl
  rw [wr_six hW hH]
  have hwh := six_mul hW hH
  have hB' := inR_iff.1 hB
  cases hS : ((q.Spots.length : Int) == q.Width * q.Height)
  · simp [bne, hS]
  · have hS' : (q.Spots.length : Int) = q.Width * q.Height := by simpa using hS
    simp only [bne, hS, Bool.not_true, cond_false, Option.bind_some]
    rw [gd_pos (by omega), forO_all (f := spec_QuiltOk_L1 bs) (c := false) (fun k => BlockOkM (gx bs k) && ((gx bs k).Size == (gx bs 0).Size)) (fun k hk => by
      simp only [spec_QuiltOk_L1, spec_BlockOk_eq, Option.bind_some]
      rw [gd_pos (by omega)]
      cases BlockOkM (gx bs k) <;> cases h : ((gx bs k).Size == (gx bs 0).Size) <;> simp [bne, h]), all_gx (fun b => BlockOkM b && (b.Size == (gx bs 0).Size))]
    cases bs.all (fun b => BlockOkM b && (b.Size == (gx bs 0).Size))
    · rfl
    · simp only [cond_true, sq_inl]
      have ew : wr ((bs.length : Int) - 1) = (bs.length : Int) - 1 := wr_of (by omega) (by omega)
      rw [gd_pos (by omega), forO_all (f := spec_QuiltOk_L2 q bs) (fun k => inR (gx q.Spots k).Block 0 ((bs.length : Int) - 1) && inR (gx q.Spots k).Seen 0 7) (fun k hk => by
        simp only [spec_QuiltOk_L2, l01In_eq, Option.bind_some, ew]
        cases inR (gx q.Spots k).Block 0 ((bs.length : Int) - 1) <;> cases inR (gx q.Spots k).Seen 0 7 <;> rfl), all_gx (fun s : GSpot => inR s.Block 0 ((bs.length : Int) - 1) && inR s.Seen 0 7)]
      cases q.Spots.all (fun s => inR s.Block 0 ((bs.length : Int) - 1) && inR s.Seen 0 7) <;> rfl

def isQuiltM (q : GQuilt) (most : Int) : Bool := inR q.Width 1 6 && inR q.Height 1 6 && ((q.Spots.length : Int) == q.Width * q.Height) && q.Spots.all (fun s => inR s.Block 0 most && inR s.Seen 0 7)
theorem impl_isQuilt_eq (q : GQuilt) (most : Int) : impl_isQuilt q most = some (isQuiltM q most) := by
  unfold impl_isQuilt isQuiltM
  simp only [within_eq, Option.bind_some]
  cases hW : inR q.Width 1 6
  · rfl
  cases hH : inR q.Height 1 6
  · rfl
  rw [wr_six hW hH]
  have hwh := six_mul hW hH
  cases hS : ((q.Spots.length : Int) == q.Width * q.Height)
  · simp [bne, hS]
  · have hS' : (q.Spots.length : Int) = q.Width * q.Height := by simpa using hS
    simp only [bne, hS, Bool.not_true, cond_false, Option.bind_some]
    rw [gd_pos (by omega), forO_all (f := impl_isQuilt_L1 q most) (fun k => inR (gx q.Spots k).Block 0 most && inR (gx q.Spots k).Seen 0 7) (fun k hk => by
      simp only [impl_isQuilt_L1, within_eq, Option.bind_some]
      cases inR (gx q.Spots k).Block 0 most <;> cases inR (gx q.Spots k).Seen 0 7 <;> rfl), all_gx (fun s : GSpot => inR s.Block 0 most && inR s.Seen 0 7)]
    cases q.Spots.all (fun s => inR s.Block 0 most && inR s.Seen 0 7) <;> rfl

@[simp] theorem impl_QuiltOk_eq (q : GQuilt) (bs : List GBlock) : impl_QuiltOk q bs = some (QuiltOkM q bs) := by
  unfold impl_QuiltOk
  simp only [impl_isQuilt_eq, within_eq, Option.bind_some]
  cases hB : inR (bs.length : Int) 1 6
  · have : QuiltOkM q bs = false := by simp [QuiltOkM, hB]
    rw [this]
    cases isQuiltM q (wr ((bs.length : Int) - 1)) <;> rfl
  · have hB' := inR_iff.1 hB
    have ew : wr ((bs.length : Int) - 1) = (bs.length : Int) - 1 := wr_of (by omega) (by omega)
    rw [ew]
    have e : QuiltOkM q bs = (isQuiltM q ((bs.length : Int) - 1) && bs.all (fun b => BlockOkM b && (b.Size == (gx bs 0).Size))) := by
      unfold QuiltOkM isQuiltM
      rw [hB]
      cases inR q.Width 1 6 <;> cases inR q.Height 1 6 <;> cases ((q.Spots.length : Int) == q.Width * q.Height) <;> simp [Bool.and_comm]
    rw [e]
    cases isQuiltM q ((bs.length : Int) - 1)
    · rfl
    · simp only [Bool.not_true, cond_false, Option.bind_some]
      rw [gd_pos (by omega), forO_all (f := impl_QuiltOk_L1 bs) (c := false) (fun k => BlockOkM (gx bs k) && ((gx bs k).Size == (gx bs 0).Size)) (fun k hk => by
        simp only [impl_QuiltOk_L1, impl_BlockOk_eq, Option.bind_some]
        rw [gd_pos (by omega)]
        cases BlockOkM (gx bs k) <;> cases h : ((gx bs k).Size == (gx bs 0).Size) <;> simp [bne, h]), all_gx (fun b => BlockOkM b && (b.Size == (gx bs 0).Size))]
      cases bs.all (fun b => BlockOkM b && (b.Size == (gx bs 0).Size)) <;> rfl

/-- A valid quilt. -/
theorem quiltOk_spec {q : GQuilt} {bs : List GBlock} (h : QuiltOkM q bs = true) : ∃ w h : Nat, q.Width = w ∧ q.Height = h ∧ 1 ≤ w ∧ w ≤ 6 ∧ 1 ≤ h ∧ h ≤ 6 ∧ q.Spots.length = h * w ∧ 1 ≤ bs.length ∧ bs.length ≤ 6 ∧
    (∀ b ∈ bs, BlockOkM b = true ∧ b.Size = (gx bs 0).Size) ∧ ∀ s ∈ q.Spots, 0 ≤ s.Block ∧ s.Block < bs.length ∧ inR s.Seen 0 7 = true := by
  simp only [QuiltOkM, Bool.and_eq_true, beq_iff_eq, List.all_eq_true] at h
  obtain ⟨⟨⟨⟨⟨hW, hH⟩, hB⟩, hS⟩, hb⟩, hs⟩ := h
  have hW' := inR_iff.1 hW
  have hH' := inR_iff.1 hH
  have hB' := inR_iff.1 hB
  obtain ⟨w, hw⟩ := Int.eq_ofNat_of_zero_le (show 0 ≤ q.Width by omega)
  obtain ⟨hh, hhe⟩ := Int.eq_ofNat_of_zero_le (show 0 ≤ q.Height by omega)
  refine ⟨w, hh, hw, hhe, by omega, by omega, by omega, by omega, ?_, by omega, by omega, hb, fun s hm => ?_⟩
  · rw [hw, hhe] at hS
    have : ((w : Int) * (hh : Int)) = ((hh * w : Nat) : Int) := by rw [Int.natCast_mul, Int.mul_comm]
    rw [this] at hS; omega
  · obtain ⟨h1, h2⟩ := hs s hm
    have := inR_iff.1 h1
    exact ⟨by omega, by omega, h2⟩

theorem gx_map {α β : Type} [Rep α] [Rep β] (F : α → β) {xs : List α} {k : Nat} (h : k < xs.length) : gx (xs.map F) k = F (gx xs k) := by
  rw [gx_lt (by simpa using h), gx_lt h]; simp

def spotM (bs : List GBlock) (s : GSpot) : GBlock := SeenM (gx bs s.Block.toNat) s.Seen
def shownM (q : GQuilt) (bs : List GBlock) : List GBlock := q.Spots.map (spotM bs)
theorem spot_ok {q : GQuilt} {bs : List GBlock} (h : QuiltOkM q bs = true) {s : GSpot} (hs : s ∈ q.Spots) : BlockOkM (spotM bs s) = true ∧ (spotM bs s).Size = (gx bs 0).Size := by
  obtain ⟨w, hh, _, _, _, _, _, _, _, _, _, hb, hsp⟩ := quiltOk_spec h
  obtain ⟨h1, h2, h3⟩ := hsp s hs
  obtain ⟨g1, g2⟩ := hb (gx bs s.Block.toNat) (gx_mem (by omega))
  obtain ⟨k1, k2⟩ := seen_ok g1 h3
  exact ⟨k1, by rw [spotM, k2, g2]⟩

theorem impl_shown_eq {q : GQuilt} {bs : List GBlock} (h : QuiltOkM q bs = true) : impl_shown q bs = some (shownM q bs) := by
  obtain ⟨w, hh, _, _, _, h2, _, h4, hl, _, _, hb, hsp⟩ := quiltOk_spec h
  have hlen : hh * w ≤ 6 * 6 := Nat.mul_le_mul h4 h2
  unfold impl_shown
  rw [gd_pos (by omega), lpO_app (f := impl_shown_L1 q bs) (xs := []) (fun k => spotM bs (gx q.Spots k)) (fun k s hk hs => by
    obtain ⟨h1, h2, h3⟩ := hsp _ (gx_mem hk)
    simp only [impl_shown_L1, impl_SeenFrom_eq, Option.bind_some]
    rw [gd_pos ⟨h1, h2⟩, gd_pos (by simp at hs; omega)]; rfl), map_gx]
  rfl

def ShownAtM (q : GQuilt) (bs : List GBlock) (x y : Int) : GBlock := bif QuiltOkM q bs && inR x 0 (q.Width - 1) && inR y 0 (q.Height - 1) then gx (shownM q bs) (y * q.Width + x).toNat else ⟨0, []⟩
theorem idx_wh {w h x y : Nat} (hw : w ≤ 6) (hh : h ≤ 6) (hx : x < w) (hy : y < h) : wr (wr ((y : Int) * (w : Int)) + (x : Int)) = ((y * w + x : Nat) : Int) ∧ ((y : Int) * (w : Int) + (x : Int)) = ((y * w + x : Nat) : Int) ∧ y * w + x < h * w ∧ h * w ≤ 36 := by
  have h1 : y * w + x < h * w := idx_lt2 hy hx
  have h2 : h * w ≤ 6 * 6 := Nat.mul_le_mul hh hw
  have : (y : Int) * (w : Int) = ((y * w : Nat) : Int) := by simp
  refine ⟨?_, by simp, h1, h2⟩
  rw [this, wr_of (n := ((y * w : Nat) : Int)) (by omega) (by omega), wr_of (by omega) (by omega)]; simp

theorem spec_ShownAt_eq (q : GQuilt) (bs : List GBlock) (x y : Int) : spec_ShownAt q bs x y = some (ShownAtM q bs x y) := by
  unfold spec_ShownAt ShownAtM
  simp only [spec_QuiltOk_eq, l01In_eq, Option.bind_some]
  cases h : QuiltOkM q bs
  · rfl
  obtain ⟨w, hh, e1, e2, h1, h2, h3, h4, hl, h5, h6, hb, hsp⟩ := quiltOk_spec h
  have ew : wr (q.Width - 1) = q.Width - 1 := wr_of (by omega) (by omega)
  have eh : wr (q.Height - 1) = q.Height - 1 := wr_of (by omega) (by omega)
  simp only [ew, eh, Bool.not_true, cond_false]
  cases hx : inR x 0 (q.Width - 1)
  · rfl
  cases hy : inR y 0 (q.Height - 1)
  · rfl
  rw [inR_iff] at hx hy
  obtain ⟨x', rfl⟩ := Int.eq_ofNat_of_zero_le hx.1
  obtain ⟨y', rfl⟩ := Int.eq_ofNat_of_zero_le hy.1
  obtain ⟨i1, i2, i3, i4⟩ := idx_wh (x := x') (y := y') h2 h4 (by omega) (by omega)
  simp only [e1, i1, i2, Bool.not_true, cond_false, Option.bind_some, Int.toNat_natCast, spec_SeenFrom_eq]
  obtain ⟨s1, s2, s3⟩ := hsp (gx q.Spots (y' * w + x')) (gx_mem (by omega))
  rw [gd_pos ⟨by omega, by omega⟩, gd_pos ⟨s1, s2⟩]
  simp only [Bool.and_self, cond_true, shownM]
  rw [gx_map _ (by omega)]
  rfl

/-- A sum. -/
def isum : List Int → Int
  | [] => 0
  | x :: r => x + isum r
theorem isum_append : ∀ xs ys : List Int, isum (xs ++ ys) = isum xs + isum ys
  | [], ys => by simp [isum]
  | x :: r, ys => by simp [isum, isum_append r ys]; omega
theorem isum_bound {B : Int} : ∀ {xs : List Int}, (∀ x ∈ xs, 0 ≤ x ∧ x ≤ B) → 0 ≤ isum xs ∧ isum xs ≤ B * xs.length
  | [], _ => by simp [isum]
  | x :: r, h => by
    obtain ⟨h1, h2⟩ := isum_bound (xs := r) fun y hy => h y (by simp [hy])
    obtain ⟨h3, h4⟩ := h x (by simp)
    have e : B * ((x :: r).length : Int) = B * r.length + B := by
      rw [List.length_cons, Int.natCast_add, Int.mul_add]; simp
    rw [e]
    simp only [isum]; omega
theorem lpO_sum {f : Nat → Int → Option (Res Int Empty)} {N : Nat} (g : Nat → Int) {s0 B : Int} (h : ∀ k s, k < N → 0 ≤ s → s + B ≤ 4611686018427387904 → f k s = some (.next (s + g k))) (hg : ∀ k, k < N → 0 ≤ g k ∧ g k ≤ B) (hB : 0 ≤ B) (h0 : 0 ≤ s0) (hN : s0 + B * N ≤ 4611686018427387904) : lpO f N s0 = some (s0 + isum ((List.range N).map g)) :=
  lpO_st (fun k => s0 + isum ((List.range k).map g)) (by simp [isum]) fun k hk => by
    have hb := isum_bound (B := B) (xs := (List.range k).map g) fun x hx => by
      simp only [List.mem_map, List.mem_range] at hx
      obtain ⟨i, hi, rfl⟩ := hx
      exact hg i (by omega)
    have hmul : B * ((k + 1 : Nat) : Int) ≤ B * N := Int.mul_le_mul_of_nonneg_left (by omega) hB
    have hm1 : B * ((k + 1 : Nat) : Int) = B * k + B := by rw [Int.natCast_add, Int.mul_add]; simp
    simp only [List.length_map, List.length_range] at hb
    have e : isum ((List.range (k + 1)).map g) = isum ((List.range k).map g) + g k := by
      rw [List.range_succ, List.map_append, isum_append]; simp [isum]
    rw [h k _ hk (by omega) (by omega), e, Int.add_assoc]

def triM (c : GCell) : Int := bif c.Split != 0 then 2 else 0
def CountTriM (b : GBlock) : Int := bif BlockOkM b then isum (b.Cells.map triM) else -1

def arM (a : Int) (c : GCell) : Int := (bif c.A == a then 2 else 0) + (bif c.B == a then 2 else 0)
theorem ar_bound (a : Int) (c : GCell) : 0 ≤ arM a c ∧ arM a c ≤ 4 := by unfold arM; cases c.A == a <;> cases c.B == a <;> simp
def AreaM (b : GBlock) (a : Int) : Int := bif BlockOkM b then isum (b.Cells.map (arM a)) else 0

/-- What counts the cells alone is the same from all sides. -/
theorem turn_sum (f : GCell → Int) (hf : ∀ c, CellOkM c = true → f (TurnCellM c) = f c) {b : GBlock} (h : BlockOkM b = true) : isum ((TurnBlockM b).Cells.map f) = isum (b.Cells.map f) := by
  obtain ⟨n, hn, h1, h2, hl, hc⟩ := blockOk_spec h
  unfold TurnBlockM
  rw [h, hn]
  simp only [cond_true, Int.toNat_natCast]
  have e : ∀ m, b.Cells.length = m → isum (b.Cells.map f) = isum ((List.range m).map fun i => f (gx b.Cells i)) := by rintro m rfl; rw [map_gx]
  rw [e _ hl]
  have hfi : ∀ i, i < n * n → f (TurnCellM (gx b.Cells i)) = f (gx b.Cells i) := fun i hi => hf _ (hc _ (gx_mem (by omega)))
  have hn' : n = 1 ∨ n = 2 ∨ n = 3 ∨ n = 4 := by omega
  rcases hn' with rfl | rfl | rfl | rfl <;> simp (disch := omega) [cellsM, List.range, List.range.loop, isum, hfi] <;> omega
theorem mirror_sum (f : GCell → Int) (hf : ∀ c, CellOkM c = true → f (MirrorCellM c) = f c) {b : GBlock} (h : BlockOkM b = true) : isum ((MirrorBlockM b).Cells.map f) = isum (b.Cells.map f) := by
  obtain ⟨n, hn, h1, h2, hl, hc⟩ := blockOk_spec h
  unfold MirrorBlockM
  rw [h, hn]
  simp only [cond_true, Int.toNat_natCast]
  have e : ∀ m, b.Cells.length = m → isum (b.Cells.map f) = isum ((List.range m).map fun i => f (gx b.Cells i)) := by rintro m rfl; rw [map_gx]
  rw [e _ hl]
  have hfi : ∀ i, i < n * n → f (MirrorCellM (gx b.Cells i)) = f (gx b.Cells i) := fun i hi => hf _ (hc _ (gx_mem (by omega)))
  have hn' : n = 1 ∨ n = 2 ∨ n = 3 ∨ n = 4 := by omega
  rcases hn' with rfl | rfl | rfl | rfl <;> simp (disch := omega) [cellsM, List.range, List.range.loop, isum, hfi] <;> omega
theorem seen_sum (f : GCell → Int) (ht : ∀ c, CellOkM c = true → f (TurnCellM c) = f c) (hm : ∀ c, CellOkM c = true → f (MirrorCellM c) = f c) {b : GBlock} {k : Int} (h : BlockOkM b = true) (hk : inR k 0 7 = true) : isum ((SeenM b k).Cells.map f) = isum (b.Cells.map f) := by
  have turns : ∀ (b0 : GBlock), BlockOkM b0 = true → ∀ j, isum ((turnsM j b0).Cells.map f) = isum (b0.Cells.map f) := fun b0 h0 j => by
    induction j with
    | zero => rfl
    | succ j ih => rw [turnsM, turn_sum f ht (turns_ok h0 j).1, ih]
  unfold SeenM
  rw [h, hk]
  cases decide (k ≥ 4)
  · exact turns b h _
  · exact (turns _ (mirrorBlock_ok h) _).trans (mirror_sum f hm h)

theorem tri_turn {c : GCell} (h : CellOkM c = true) : triM (TurnCellM c) = triM c := by
  unfold TurnCellM triM
  rw [h]
  by_cases e1 : c.Split = 1
  · simp [e1]
  · by_cases e2 : c.Split = 2
    · simp [e2]
    · rw [beq_eq_false_iff_ne.2 e1, beq_eq_false_iff_ne.2 e2]; rfl
theorem tri_mirror {c : GCell} (h : CellOkM c = true) : triM (MirrorCellM c) = triM c := by
  obtain ⟨h1, h2, _⟩ := cellOk_spec h
  unfold MirrorCellM triM
  rw [h]
  by_cases e0 : c.Split = 0
  · simp [e0]
  · have : (3 - c.Split != 0) = true := by simp; omega
    have e : (c.Split != 0) = true := by simp [e0]
    rw [beq_eq_false_iff_ne.2 e0, e]
    simp only [cond_true, cond_false, this]
theorem ar_turn (a : Int) {c : GCell} (h : CellOkM c = true) : arM a (TurnCellM c) = arM a c := by
  unfold TurnCellM arM
  rw [h]
  by_cases e1 : c.Split = 1
  · simp only [e1, cond_true, beq_self_eq_true]; omega
  · by_cases e2 : c.Split = 2
    · simp [e2]
    · rw [beq_eq_false_iff_ne.2 e1, beq_eq_false_iff_ne.2 e2]; rfl
theorem ar_mirror (a : Int) {c : GCell} (h : CellOkM c = true) : arM a (MirrorCellM c) = arM a c := by
  unfold MirrorCellM arM
  rw [h]
  by_cases e0 : c.Split = 0
  · simp [e0]
  · have : (c.Split == 0) = false := by simp [e0]
    simp only [this, cond_true, cond_false]; omega
theorem area_seen {b : GBlock} {k : Int} (a : Int) (h : BlockOkM b = true) (hk : inR k 0 7 = true) : AreaM (SeenM b k) a = AreaM b a := by
  unfold AreaM
  rw [h, (seen_ok h hk).1]
  exact seen_sum _ (fun c hc => ar_turn a hc) (fun c hc => ar_mirror a hc) h hk
theorem countTri_seen {b : GBlock} {k : Int} (h : BlockOkM b = true) (hk : inR k 0 7 = true) : CountTriM (SeenM b k) = CountTriM b := by
  unfold CountTriM
  rw [h, (seen_ok h hk).1]
  exact seen_sum _ (fun c hc => tri_turn hc) (fun c hc => tri_mirror hc) h hk

def sumN (m : Nat) (F : Nat → Int) : Int := isum ((List.range m).map F)
theorem sumN_zero (F : Nat → Int) : sumN 0 F = 0 := rfl
theorem sumN_succ (m : Nat) (F : Nat → Int) : sumN (m + 1) F = sumN m F + F m := by
  unfold sumN
  rw [List.range_succ, List.map_append, isum_append]; simp [isum]
theorem sumN_add (m : Nat) (F G : Nat → Int) : sumN m (fun i => F i + G i) = sumN m F + sumN m G := by
  induction m with
  | zero => rfl
  | succ m ih => rw [sumN_succ, sumN_succ, sumN_succ, ih]; omega
theorem sumN_congr {m : Nat} {F G : Nat → Int} (h : ∀ i, i < m → F i = G i) : sumN m F = sumN m G := by
  unfold sumN
  congr 1
  exact List.map_congr_left fun i hi => h i (by simpa using hi)
theorem sumN_nil (m : Nat) : sumN m (fun _ => 0) = 0 := by
  induction m with
  | zero => rfl
  | succ m ih => rw [sumN_succ, ih]; rfl
theorem sumN_one {m b : Nat} (g : Nat → Int) (hb : b < m) : sumN m (fun i => (bif b == i then 1 else 0) * g i) = g b := by
  induction m with
  | zero => omega
  | succ m ih =>
    rw [sumN_succ]
    rcases Nat.lt_or_ge b m with h | h
    · rw [ih h]
      have : (b == m) = false := by simp; omega
      simp [this]
    · have e : b = m := by omega
      subst e
      have : sumN b (fun i => (bif b == i then 1 else 0) * g i) = 0 := by
        rw [sumN_congr (G := fun _ => 0), sumN_nil]
        intro i hi
        have : (b == i) = false := by simp; omega
        simp [this]
      rw [this]; simp
theorem sumN_bound {m : Nat} {F : Nat → Int} {B : Int} (h : ∀ i, i < m → 0 ≤ F i ∧ F i ≤ B) : 0 ≤ sumN m F ∧ sumN m F ≤ B * m := by
  have := isum_bound (B := B) (xs := (List.range m).map F) fun x hx => by
    simp only [List.mem_map, List.mem_range] at hx
    obtain ⟨i, hi, rfl⟩ := hx
    exact h i hi
  simpa [sumN] using this
theorem sumN_gx {α : Type} [Rep α] (f : α → Int) (xs : List α) : sumN xs.length (fun k => f (gx xs k)) = isum (xs.map f) := by
  unfold sumN; rw [map_gx]

theorem gx_range {α : Type} [Rep α] (F : Nat → α) {m i : Nat} (h : i < m) : gx ((List.range m).map F) i = F i := by
  rw [gx_lt (by simpa using h)]; simp

def digM (a : Int) : UInt8 := UInt8.ofNat (48 + a.toNat)
theorem digM_inj {a b : Int} (h1 : 0 ≤ a) (h2 : a ≤ 5) (h3 : 0 ≤ b) (h4 : b ≤ 5) (h : digM a = digM b) : a = b := by
  have ha : a = 0 ∨ a = 1 ∨ a = 2 ∨ a = 3 ∨ a = 4 ∨ a = 5 := by omega
  have hb : b = 0 ∨ b = 1 ∨ b = 2 ∨ b = 3 ∨ b = 4 ∨ b = 5 := by omega
  rcases ha with rfl | rfl | rfl | rfl | rfl | rfl <;> rcases hb with rfl | rfl | rfl | rfl | rfl | rfl <;> first | rfl | exact absurd h (by decide)
def cellTextM (c : GCell) : List UInt8 := bif c.Split == 1 then [digM c.A, 47, digM c.B] else bif c.Split == 2 then [digM c.A, 92, digM c.B] else [digM c.A]
theorem cellText_inj {c d : GCell} {r q : List UInt8} (hc : CellOkM c = true) (hd : CellOkM d = true) (h : (cellTextM c ++ [59]) ++ r = (cellTextM d ++ [59]) ++ q) : c = d ∧ r = q := by
  obtain ⟨c1, c2, c3, c4, c5, c6, c7⟩ := cellOk_spec hc
  obtain ⟨d1, d2, d3, d4, d5, d6, d7⟩ := cellOk_spec hd
  obtain ⟨cs, ca, cb⟩ := c
  obtain ⟨ds, da, db⟩ := d
  simp only at c1 c2 c3 c4 c5 c6 c7 d1 d2 d3 d4 d5 d6 d7
  have hcs : cs = 0 ∨ cs = 1 ∨ cs = 2 := by omega
  have hds : ds = 0 ∨ ds = 1 ∨ ds = 2 := by omega
  rcases hcs with rfl | rfl | rfl <;> rcases hds with rfl | rfl | rfl <;> simp [cellTextM] at h
  · obtain ⟨e1, e2⟩ := h
    have := digM_inj c3 c4 d3 d4 e1
    have h1 := c7.1 rfl
    have h2 := d7.1 rfl
    subst this; subst h1; subst h2
    exact ⟨rfl, e2⟩
  · obtain ⟨e1, e2, e3⟩ := h
    have := digM_inj c3 c4 d3 d4 e1
    have h2 := digM_inj c5 c6 d5 d6 e2
    subst this; subst h2
    exact ⟨rfl, e3⟩
  · obtain ⟨e1, e2, e3⟩ := h
    have := digM_inj c3 c4 d3 d4 e1
    have h2 := digM_inj c5 c6 d5 d6 e2
    subst this; subst h2
    exact ⟨rfl, e3⟩
def cellsTextM (l : List GCell) : List UInt8 := l.flatMap fun c => cellTextM c ++ [59]
theorem cellsText_inj : ∀ {l m : List GCell}, (∀ c ∈ l, CellOkM c = true) → (∀ c ∈ m, CellOkM c = true) → cellsTextM l = cellsTextM m → l = m
  | [], [], _, _, _ => rfl
  | [], d :: m, _, _, h => by simp [cellsTextM] at h
  | c :: l, [], _, _, h => by simp [cellsTextM] at h
  | c :: l, d :: m, hl, hm, h => by
    have h' : (cellTextM c ++ [59]) ++ cellsTextM l = (cellTextM d ++ [59]) ++ cellsTextM m := by simpa [cellsTextM] using h
    obtain ⟨e1, e2⟩ := cellText_inj (hl c (by simp)) (hm d (by simp)) h'
    rw [e1, cellsText_inj (fun x hx => hl x (by simp [hx])) (fun x hx => hm x (by simp [hx])) e2]
def textM (b : GBlock) : Str := ⟨bif BlockOkM b then cellsTextM b.Cells else []⟩
theorem text_inj {b d : GBlock} (hb : BlockOkM b = true) (hd : BlockOkM d = true) (h : textM b = textM d) : b = d := by
  obtain ⟨n, hn, h1, h2, hl, hc⟩ := blockOk_spec hb
  obtain ⟨m, hm, g1, g2, gl, gc⟩ := blockOk_spec hd
  have e : cellsTextM b.Cells = cellsTextM d.Cells := by
    have := congrArg Str.b h
    simpa [textM, hb, hd] using this
  have e2 := cellsText_inj hc gc e
  have e3 : n * n = m * m := by rw [← hl, ← gl, e2]
  have e4 : n = m := by
    have hn' : n = 1 ∨ n = 2 ∨ n = 3 ∨ n = 4 := by omega
    have hm' : m = 1 ∨ m = 2 ∨ m = 3 ∨ m = 4 := by omega
    rcases hn' with rfl | rfl | rfl | rfl <;> rcases hm' with rfl | rfl | rfl | rfl <;> simp_all
  obtain ⟨bs, bc⟩ := b
  obtain ⟨ds, dc⟩ := d
  simp only at hn hm e2
  rw [hn, hm, e4, e2]
theorem cellText_len (c : GCell) : (cellTextM c).length ≤ 3 := by
  unfold cellTextM
  cases c.Split == 1 <;> cases c.Split == 2 <;> simp
theorem cellsText_len (l : List GCell) : (cellsTextM l).length ≤ 4 * l.length := by
  induction l with
  | nil => simp [cellsTextM]
  | cons c l ih =>
    have := cellText_len c
    simp only [cellsTextM, List.flatMap_cons, List.length_append, List.length_cons, List.length_nil] at ih ⊢
    omega
theorem text_len {b : GBlock} : (textM b).b.length ≤ 64 := by
  unfold textM
  cases h : BlockOkM b
  · simp
  · obtain ⟨n, hn, h1, h2, hl, hc⟩ := blockOk_spec h
    have := cellsText_len b.Cells
    have hnn : n * n ≤ 4 * 4 := Nat.mul_le_mul h2 h2
    simp only [cond_true]
    omega
theorem textM_eq {b d : GBlock} (hb : BlockOkM b = true) (hd : BlockOkM d = true) : (textM b = textM d) ↔ b = d := ⟨text_inj hb hd, fun h => by rw [h]⟩

def sameCellM (c d : GCell) : Bool := c.Split == d.Split && c.A == d.A && c.B == d.B
theorem sameCell_iff {c d : GCell} : sameCellM c d = true ↔ c = d := by
  obtain ⟨a, b, e⟩ := c
  obtain ⟨a', b', e'⟩ := d
  simp [sameCellM, and_assoc]
theorem beqs3 (a b c d e f : Int) : beqs [a, b, c] [d, e, f] = (a == d && b == e && c == f) := by simp [beqs, Bool.and_assoc]
def SameBlockM (b d : GBlock) : Bool := b.Size == d.Size && b.Cells.length == d.Cells.length && (List.range b.Cells.length).all fun k => sameCellM (gx b.Cells k) (gx d.Cells k)
theorem sameBlock_iff {b d : GBlock} : SameBlockM b d = true ↔ b = d := by
  constructor
  · intro h
    simp only [SameBlockM, Bool.and_eq_true, beq_iff_eq, List.all_eq_true, List.mem_range, sameCell_iff] at h
    obtain ⟨⟨h1, h2⟩, h3⟩ := h
    have := gx_ext h2 h3
    obtain ⟨s, c⟩ := b
    obtain ⟨s', c'⟩ := d
    simp_all
  · rintro rfl
    simp [SameBlockM, sameCell_iff]
theorem sameBlock_refl (b : GBlock) : SameBlockM b b = true := sameBlock_iff.2 rfl
theorem nat_beq_int (a b : Nat) : ((a : Int) == (b : Int)) = (a == b) := by
  rw [Bool.eq_iff_iff, beq_iff_eq, beq_iff_eq]; omega

theorem impl_SameBlock_eq {b d : GBlock} (hb : b.Cells.length ≤ 1048576) : impl_SameBlock b d = some (SameBlockM b d) := by
  unfold impl_SameBlock SameBlockM
  simp only [bne, nat_beq_int]
  cases h1 : b.Size == d.Size
  · simp
  cases h2 : b.Cells.length == d.Cells.length
  · simp
  have h2' : b.Cells.length = d.Cells.length := by simpa using h2
  simp only [Bool.not_true, Bool.or_self, cond_false, Bool.and_self, Bool.true_and]
  rw [gd_pos (by omega), forO_all (f := impl_SameBlock_L1 b d) (c := false) (fun k => sameCellM (gx b.Cells k) (gx d.Cells k)) (fun k hk => by
    simp only [impl_SameBlock_L1, beqs3]
    rw [gd_pos (by omega)]
    unfold sameCellM
    cases ((gx b.Cells k).Split == (gx d.Cells k).Split && (gx b.Cells k).A == (gx d.Cells k).A && (gx b.Cells k).B == (gx d.Cells k).B) <;> rfl)]
  cases (List.range b.Cells.length).all fun k => sameCellM (gx b.Cells k) (gx d.Cells k) <;> rfl

theorem spec_SameBlock_eq {b d : GBlock} (hb : b.Cells.length ≤ 1048576) : spec_SameBlock b d = some (SameBlockM b d) := by
  unfold spec_SameBlock SameBlockM
  simp only [bne, nat_beq_int]
  cases h1 : b.Size == d.Size
  · simp
  cases h2 : b.Cells.length == d.Cells.length
  · simp
  have h2' : b.Cells.length = d.Cells.length := by simpa using h2
  simp only [Bool.not_true, Bool.or_self, cond_false, Bool.and_self, Bool.true_and]
  rw [gd_pos (by omega), forO_all (f := spec_SameBlock_L1 b d) (c := false) (fun k => sameCellM (gx b.Cells k) (gx d.Cells k)) (fun k hk => by
    simp only [spec_SameBlock_L1, beqs3]
    rw [gd_pos (by omega)]
    unfold sameCellM
    cases ((gx b.Cells k).Split == (gx d.Cells k).Split && (gx b.Cells k).A == (gx d.Cells k).A && (gx b.Cells k).B == (gx d.Cells k).B) <;> rfl)]
  cases (List.range b.Cells.length).all fun k => sameCellM (gx b.Cells k) (gx d.Cells k) <;> rfl

theorem text_seq {b d : GBlock} (hb : BlockOkM b = true) (hd : BlockOkM d = true) : seq (textM b) (textM d) = SameBlockM b d := by
  rw [Bool.eq_iff_iff, sameBlock_iff]
  unfold seq
  rw [beq_iff_eq]
  constructor
  · intro h
    exact text_inj hb hd (by
      revert h
      cases textM b; cases textM d
      intro h
      simp only at h
      rw [h])
  · intro h; rw [h]

theorem tdiv_nat (a b : Nat) : ((a : Int)).tdiv (b : Int) = ((a / b : Nat) : Int) := rfl
theorem tmod_nat (a b : Nat) : ((a : Int)).tmod (b : Int) = ((a % b : Nat) : Int) := rfl
def tgtM (w h dx dy i : Nat) : Nat := (i / w + dy) % h * w + (i % w + dx) % w
def sameAtM (l : List GBlock) (w h dx dy : Nat) : Bool := (List.range (h * w)).all fun i => SameBlockM (gx l i) (gx l (tgtM w h dx dy i))
theorem all_grid {h w : Nat} (P : Nat → Nat → Bool) (hw : 0 < w) : ((List.range (h * w)).all fun i => P (i / w) (i % w)) = (List.range h).all fun y => (List.range w).all fun x => P y x := by
  rw [Bool.eq_iff_iff]
  simp only [List.all_eq_true, List.mem_range]
  constructor
  · intro H y hy x hx
    have := H (y * w + x) (idx_lt2 hy hx)
    rwa [show (y * w + x) / w = y by rw [Nat.mul_comm, Nat.mul_add_div hw, Nat.div_eq_of_lt hx]; rfl, show (y * w + x) % w = x by rw [Nat.mul_comm, Nat.mul_add_mod, Nat.mod_eq_of_lt hx]] at this
  · intro H i hi
    exact H _ ((Nat.div_lt_iff_lt_mul hw).2 hi) _ (Nat.mod_lt _ hw)
theorem sameAt_grid {l : List GBlock} {w h dx dy : Nat} (hw : 0 < w) : sameAtM l w h dx dy = (List.range h).all fun y => (List.range w).all fun x => SameBlockM (gx l (y * w + x)) (gx l ((y + dy) % h * w + (x + dx) % w)) := by
  rw [← all_grid (fun y x => SameBlockM (gx l (y * w + x)) (gx l ((y + dy) % h * w + (x + dx) % w))) hw]
  unfold sameAtM tgtM
  congr 1
  funext i
  congr 2
  rw [Nat.mul_comm]
  exact (Nat.div_add_mod i w).symm
theorem tgt_lt {w h dx dy i : Nat} (hw : 0 < w) (hh : 0 < h) : tgtM w h dx dy i < h * w := idx_lt2 (Nat.mod_lt _ hh) (Nat.mod_lt _ hw)

def HasShiftM (q : GQuilt) (bs : List GBlock) (dx dy : Int) : Bool := QuiltOkM q bs && inR dx 0 (q.Width - 1) && inR dy 0 (q.Height - 1) && sameAtM (shownM q bs) q.Width.toNat q.Height.toNat dx.toNat dy.toNat

theorem impl_isShift_eq {q : GQuilt} (h1 : inR q.Width 1 6 = true) (h2 : inR q.Height 1 6 = true) (dx dy : Int) : impl_isShift q dx dy = some (inR dx 0 (q.Width - 1) && inR dy 0 (q.Height - 1)) := by
  rw [inR_iff] at h1 h2
  have ew : wr (q.Width - 1) = q.Width - 1 := wr_of (by omega) (by omega)
  have eh : wr (q.Height - 1) = q.Height - 1 := wr_of (by omega) (by omega)
  unfold impl_isShift
  simp only [ew, eh, within_eq, Option.bind_some]
  cases inR dx 0 (q.Width - 1) <;> cases inR dy 0 (q.Height - 1) <;> rfl

theorem impl_shifted_eq {q : GQuilt} {w h dx dy i : Nat} (e1 : q.Width = w) (e2 : q.Height = h) (h1 : 1 ≤ w) (h2 : w ≤ 6) (h3 : 1 ≤ h) (h4 : h ≤ 6) (hi : i < h * w) (hx : dx ≤ 6) (hy : dy ≤ 6) : impl_shifted q (i : Int) dx dy = some ((tgtM w h dx dy i : Nat) : Int) := by
  have hlen : h * w ≤ 6 * 6 := Nat.mul_le_mul h4 h2
  have d1 : i / w ≤ i := Nat.div_le_self _ _
  have d2 : i % w < w := Nat.mod_lt _ (by omega)
  unfold impl_shifted tgtM
  rw [e1, e2, gd_pos (by omega), gd_pos (by omega)]
  simp only [tdiv_nat, tmod_nat]
  generalize i / w = u at d1 ⊢
  generalize i % w = v at d2 ⊢
  have a0 : wr ((u : Int)) = (u : Int) := wr_of (by omega) (by omega)
  have a1 : wr ((u : Int) + (dy : Int)) = ((u + dy : Nat) : Int) := by rw [wr_of (by omega) (by omega)]; simp
  have a2 : wr ((v : Int) + (dx : Int)) = ((v + dx : Nat) : Int) := by rw [wr_of (by omega) (by omega)]; simp
  obtain ⟨j1, j2, j3, j4⟩ := idx_wh (w := w) (h := h) (x := (v + dx) % w) (y := (u + dy) % h) h2 h4 (Nat.mod_lt _ (by omega)) (Nat.mod_lt _ (by omega))
  simp only [a0, a1, a2, tmod_nat, j1]

theorem impl_HasShift_eq (q : GQuilt) (bs : List GBlock) (dx dy : Int) : impl_HasShift q bs dx dy = some (HasShiftM q bs dx dy) := by
  unfold impl_HasShift HasShiftM
  simp only [impl_QuiltOk_eq, Option.bind_some]
  cases h : QuiltOkM q bs
  · rfl
  obtain ⟨w, hh, e1, e2, h1, h2, h3, h4, hl, h5, h6, hb, hsp⟩ := quiltOk_spec h
  have hlen : hh * w ≤ 6 * 6 := Nat.mul_le_mul h4 h2
  simp only [Bool.not_true, cond_false, Option.bind_some, impl_isShift_eq (q := q) (inR_iff.2 ⟨by omega, by omega⟩) (inR_iff.2 ⟨by omega, by omega⟩)]
  cases hx : inR dx 0 (q.Width - 1)
  · rfl
  cases hy : inR dy 0 (q.Height - 1)
  · rfl
  rw [inR_iff] at hx hy
  obtain ⟨x', rfl⟩ := Int.eq_ofNat_of_zero_le hx.1
  obtain ⟨y', rfl⟩ := Int.eq_ofNat_of_zero_le hy.1
  have hsl : (shownM q bs).length = hh * w := by simp [shownM, hl]
  have hok : ∀ i, i < hh * w → BlockOkM (gx (shownM q bs) i) = true := fun i hi => by
    unfold shownM
    rw [gx_map _ (by omega)]
    exact (spot_ok h (gx_mem (by omega))).1
  simp only [Bool.and_self, Bool.not_true, cond_false, Option.bind_some, impl_shown_eq h, e1, e2, Int.toNat_natCast, Bool.true_and]
  rw [hsl, gd_pos (by omega), forO_all (f := impl_HasShift_L1 q x' y' (shownM q bs)) (c := false) (fun i => SameBlockM (gx (shownM q bs) i) (gx (shownM q bs) (tgtM w hh x' y' i))) (fun i hi => by
    have ht : tgtM w hh x' y' i < hh * w := tgt_lt (by omega) (by omega)
    have hs := (blockOk_sm (hok i hi)).1
    simp only [impl_HasShift_L1, impl_shifted_eq e1 e2 h1 h2 h3 h4 hi (show x' ≤ 6 by omega) (show y' ≤ 6 by omega), Option.bind_some, Int.toNat_natCast, impl_SameBlock_eq hs]
    rw [gd_pos ⟨by omega, by omega⟩]
    cases SameBlockM (gx (shownM q bs) i) (gx (shownM q bs) (tgtM w hh x' y' i)) <;> rfl)]
  unfold sameAtM
  cases (List.range (hh * w)).all fun i => SameBlockM (gx (shownM q bs) i) (gx (shownM q bs) (tgtM w hh x' y' i)) <;> rfl

theorem flat_filter_len {α : Type} (w : Nat) (p : Nat → Nat → Bool) (F : Nat → Nat → α) : ∀ k, ((List.range k).flatMap fun y => ((List.range w).filter (p y)).map (F y)).length ≤ k * w
  | 0 => by simp
  | k + 1 => by
    have := flat_filter_len w p F k
    have h2 := List.length_filter_le (p k) (List.range w)
    rw [List.range_succ, List.flatMap_append, List.length_append, Nat.add_mul]
    simp only [List.flatMap_cons, List.flatMap_nil, List.append_nil, List.length_map, List.length_range] at h2 ⊢
    omega
theorem loop2f {α : Type} {f1 : Nat → List α → Option (Res (List α) Empty)} {f2 : Nat → Nat → List α → Option (Res (List α) Empty)} {h w : Nat} (p : Nat → Nat → Bool) (F : Nat → Nat → α) (h1 : ∀ k s, k < h → f1 k s = (lpO (f2 k) w s).bind fun e => some (.next e))
    (h2 : ∀ k1 k2 s, k1 < h → k2 < w → s.length ≤ h * w → f2 k1 k2 s = some (.next (bif p k1 k2 then s ++ [F k1 k2] else s))) : lpO f1 h [] = some ((List.range h).flatMap fun y => ((List.range w).filter (p y)).map (F y)) := by
  refine (lpO_cat (xs := []) (fun y => ((List.range w).filter (p y)).map (F y)) fun k s hk hs => ?_).trans (by simp)
  have hl : s.length ≤ k * w := by
    rw [hs, List.nil_append]; exact flat_filter_len w p F k
  rw [h1 k s hk, lpO_filter (p k) (F k) (xs := s) (fun x s' hx hl' => h2 k x s' hk hx (by
    have := Nat.mul_le_mul_right w (show k + 1 ≤ h from hk)
    rw [Nat.add_mul] at this; omega))]
  rfl

def shiftsM (l : List GBlock) (w h : Nat) : List (List Int) := (List.range h).flatMap fun dy => ((List.range w).filter fun dx => sameAtM l w h dx dy).map fun dx : Nat => [(dx : Int), (dy : Int)]
def ShiftsM (q : GQuilt) (bs : List GBlock) : List (List Int) := bif QuiltOkM q bs then shiftsM (shownM q bs) q.Width.toNat q.Height.toNat else []
theorem shiftsM_len (l : List GBlock) (w h : Nat) : (shiftsM l w h).length ≤ h * w := flat_filter_len w _ _ h
theorem shiftsM_sm (l : List GBlock) {w h : Nat} (hl : h * w ≤ 1048576) : Sm.ok (shiftsM l w h) := by
  have := shiftsM_len l w h
  refine ⟨by omega, fun x hx => ?_⟩
  simp only [shiftsM, List.mem_flatMap, List.mem_map] at hx
  obtain ⟨_, _, _, _, rfl⟩ := hx
  exact sm_ints (by simp)
theorem sameAt_zero (l : List GBlock) {w h : Nat} (hw : 0 < w) : sameAtM l w h 0 0 = true := by
  rw [sameAt_grid hw]
  simp only [List.all_eq_true, List.mem_range]
  intro y hy x hx
  rw [Nat.add_zero, Nat.add_zero, Nat.mod_eq_of_lt hy, Nat.mod_eq_of_lt hx]
  exact sameBlock_refl _
theorem shiftsM_pos (l : List GBlock) {w h : Nat} (hw : 0 < w) (hh : 0 < h) : 0 < (shiftsM l w h).length := by
  apply List.length_pos_of_mem (a := [((0 : Nat) : Int), ((0 : Nat) : Int)])
  simp only [shiftsM, List.mem_flatMap, List.mem_map, List.mem_filter, List.mem_range]
  exact ⟨0, hh, 0, ⟨hw, sameAt_zero l hw⟩, rfl⟩

theorem impl_ShiftsOf_eq (q : GQuilt) (bs : List GBlock) : impl_ShiftsOf q bs = some (ShiftsM q bs) := by
  unfold impl_ShiftsOf ShiftsM
  simp only [impl_QuiltOk_eq, Option.bind_some]
  cases h : QuiltOkM q bs
  · rfl
  obtain ⟨w, hh, e1, e2, h1, h2, h3, h4, hl, h5, h6, hb, hsp⟩ := quiltOk_spec h
  have hlen : hh * w ≤ 6 * 6 := Nat.mul_le_mul h4 h2
  simp only [Bool.not_true, cond_false, cond_true, e1, e2, Int.toNat_natCast]
  rw [gd_pos (by omega), loop2f (f1 := impl_ShiftsOf_L1 q bs) (f2 := impl_ShiftsOf_L2 q bs) (w := w) (fun dy dx => sameAtM (shownM q bs) w hh dx dy) (fun dy dx => [(dx : Int), (dy : Int)]) (fun k s hk => by
      unfold impl_ShiftsOf_L1
      rw [e1, Int.toNat_natCast, gd_pos (by omega)]) (fun y x s hy hx hs => by
      have i1 : inR (x : Int) 0 ((w : Int) - 1) = true := inR_iff.2 ⟨by omega, by omega⟩
      have i2 : inR (y : Int) 0 ((hh : Int) - 1) = true := inR_iff.2 ⟨by omega, by omega⟩
      simp only [impl_ShiftsOf_L2, impl_HasShift_eq, HasShiftM, h, e1, e2, i1, i2, Int.toNat_natCast, Option.bind_some, Bool.true_and]
      rw [gd_pos (by omega)]
      cases sameAtM (shownM q bs) w hh x y <;> rfl)]
  rfl

def addU (acc : List Int) (a : Int) : List Int := bif acc.contains a then acc else acc ++ [a]
theorem addU_nodup {acc : List Int} (h : acc.Nodup) (a : Int) : (addU acc a).Nodup := by
  unfold addU
  cases hc : acc.contains a
  · have hn : ¬ a ∈ acc := by
      intro hm
      have := List.contains_iff_mem.2 hm
      rw [hc] at this; cases this
    simp only [cond_false]
    rw [List.nodup_append]
    refine ⟨h, by simp, ?_⟩
    intro x hx y hy e
    simp only [List.mem_singleton] at hy
    subst hy; subst e
    exact hn hx
  · exact h
theorem addU_mem {acc : List Int} {a x : Int} : x ∈ addU acc a ↔ x ∈ acc ∨ x = a := by
  unfold addU
  cases hc : acc.contains a
  · simp
  · have hm : a ∈ acc := List.contains_iff_mem.1 hc
    simp only [cond_true]
    constructor
    · exact Or.inl
    · rintro (h | rfl)
      · exact h
      · exact hm
theorem fold_addU : ∀ (l acc : List Int), acc.Nodup → (l.foldl addU acc).Nodup ∧ ∀ x, x ∈ l.foldl addU acc ↔ x ∈ acc ∨ x ∈ l
  | [], acc, h => ⟨h, fun x => by simp⟩
  | a :: l, acc, h => by
    obtain ⟨h1, h2⟩ := fold_addU l (addU acc a) (addU_nodup h a)
    refine ⟨h1, fun x => ?_⟩
    rw [List.foldl_cons, h2, addU_mem]
    simp [or_assoc]
def useSeq (b : GBlock) : List Int := b.Cells.flatMap fun c => [c.A, c.B]
def six : List Int := [0, 1, 2, 3, 4, 5]
theorem mem_six {x : Int} : x ∈ six ↔ 0 ≤ x ∧ x ≤ 5 := by
  simp only [six, List.mem_cons, List.not_mem_nil, or_false]; omega
def ord6 (b : GBlock) : List Int := (useSeq b ++ six).foldl addU []
theorem mem_useSeq {b : GBlock} {x : Int} : x ∈ useSeq b ↔ ∃ c ∈ b.Cells, x = c.A ∨ x = c.B := by simp [useSeq]
theorem ord6_ok {b : GBlock} (h : BlockOkM b = true) : (ord6 b).Nodup ∧ (∀ x, x ∈ ord6 b ↔ 0 ≤ x ∧ x ≤ 5) ∧ (ord6 b).length = 6 := by
  obtain ⟨n, hn, h1, h2, hl, hc⟩ := blockOk_spec h
  obtain ⟨g1, g2⟩ := fold_addU (useSeq b ++ six) [] (by simp)
  have g3 : ∀ x, x ∈ ord6 b ↔ 0 ≤ x ∧ x ≤ 5 := fun x => by
    unfold ord6
    rw [g2]
    simp only [List.not_mem_nil, false_or, List.mem_append, mem_six]
    constructor
    · rintro (h | h)
      · obtain ⟨c, hm, h⟩ := mem_useSeq.1 h
        obtain ⟨c1, c2, c3, c4, c5, c6, _⟩ := cellOk_spec (hc c hm)
        rcases h with rfl | rfl <;> omega
      · exact h
    · exact Or.inr
  refine ⟨g1, g3, ?_⟩
  have p : (ord6 b).Perm six := (List.perm_ext_iff_of_nodup (show (ord6 b).Nodup from g1) (by decide)).2 fun x => by rw [g3, mem_six]
  exact p.length_eq

/-- The first index of a number, -1 if there is none. -/
def idxM (l : List Int) (n : Int) : Int := match (List.range l.length).find? (fun k => gx l k == n) with | some k => (k : Int) | none => -1
theorem idxM_cases (l : List Int) (n : Int) : (¬ n ∈ l ∧ idxM l n = -1) ∨ ∃ k : Nat, k < l.length ∧ idxM l n = k ∧ gx l k = n := by
  unfold idxM
  cases h : (List.range l.length).find? (fun k => gx l k == n) with
  | none =>
    left
    refine ⟨fun hm => ?_, rfl⟩
    obtain ⟨i, hi, rfl⟩ := List.getElem_of_mem hm
    rw [List.find?_eq_none] at h
    exact h i (by simpa using hi) (by simp [gx_lt hi])
  | some k =>
    right
    refine ⟨k, by simpa using List.mem_of_find?_eq_some h, rfl, by simpa using List.find?_some h⟩
theorem idxM_neg {l : List Int} {n : Int} : idxM l n < 0 ↔ ¬ n ∈ l := by
  rcases idxM_cases l n with ⟨h1, h2⟩ | ⟨k, h1, h2, h3⟩
  · simp [h1, h2]
  · constructor
    · intro h; omega
    · intro h; exact absurd (h3 ▸ gx_mem h1) h
theorem idxM_of {l : List Int} (hn : l.Nodup) {k : Nat} (hk : k < l.length) : idxM l (gx l k) = k := by
  rcases idxM_cases l (gx l k) with ⟨h1, h2⟩ | ⟨j, h1, h2, h3⟩
  · exact absurd (gx_mem hk) h1
  · rw [h2]
    rw [gx_lt h1, gx_lt hk] at h3
    have := (List.getElem_inj hn).1 h3
    rw [this]
theorem idxM_contains (l : List Int) (n : Int) : decide (idxM l n < 0) = !(l.contains n) := by
  rw [Bool.eq_iff_iff]
  simp [idxM_neg]
theorem gx_append_left {α : Type} [Rep α] {l m : List α} {k : Nat} (h : k < l.length) : gx (l ++ m) k = gx l k := by
  unfold gx List.getD
  rw [List.getElem?_append_left h]
theorem idxM_append {l : List Int} (m : List Int) {n : Int} (hn : (l ++ m).Nodup) (h : n ∈ l) : idxM (l ++ m) n = idxM l n := by
  rcases idxM_cases l n with ⟨h1, h2⟩ | ⟨k, h1, h2, h3⟩
  · exact absurd h h1
  · rw [h2, ← h3, ← gx_append_left (m := m) h1, idxM_of hn (by simp; omega)]
theorem idxM_last {l : List Int} {n : Int} (hn : (l ++ [n]).Nodup) : idxM (l ++ [n]) n = l.length := by
  have := idxM_of hn (k := l.length) (by simp)
  have e : gx (l ++ [n]) l.length = n := by simp [gx, List.getD]
  rwa [e] at this
def FirstUseM (b : GBlock) : List Int := bif BlockOkM b then (List.range 6).map fun a : Nat => idxM (ord6 b) (a : Int) else []
theorem firstUse_len {b : GBlock} (h : BlockOkM b = true) : (FirstUseM b).length = 6 := by simp [FirstUseM, h]
theorem firstUse_in {b : GBlock} (h : BlockOkM b = true) : ∀ x ∈ FirstUseM b, 0 ≤ x ∧ x ≤ 5 := by
  obtain ⟨g1, g2, g3⟩ := ord6_ok h
  intro x hx
  simp only [FirstUseM, h, cond_true, List.mem_map, List.mem_range] at hx
  obtain ⟨a, ha, rfl⟩ := hx
  rcases idxM_cases (ord6 b) (a : Int) with ⟨h1, h2⟩ | ⟨k, h1, h2, h3⟩
  · exact absurd ((g2 _).2 ⟨by omega, by omega⟩) h1
  · omega

def ListOkM (l : List Int) : Bool := l.length == 6 && l.all fun a => inR a 0 5
theorem listOk_spec {l : List Int} (h : ListOkM l = true) : l.length = 6 ∧ ∀ a ∈ l, 0 ≤ a ∧ a ≤ 5 := by
  simp only [ListOkM, Bool.and_eq_true, beq_iff_eq, List.all_eq_true, inR_iff] at h
  exact h
theorem listOk_of {l : List Int} (h : l.length = 6) (h2 : ∀ a ∈ l, 0 ≤ a ∧ a ≤ 5) : ListOkM l = true := by
  simp only [ListOkM, Bool.and_eq_true, beq_iff_eq, List.all_eq_true, inR_iff]
  exact ⟨h, h2⟩
theorem firstUse_ok {b : GBlock} (h : BlockOkM b = true) : ListOkM (FirstUseM b) = true := listOk_of (firstUse_len h) (firstUse_in h)
theorem splitCell_ok (s a b : Int) : CellOkM (SplitCellM s a b) = true := by
  unfold SplitCellM WholeCellM
  cases h : a == b
  · cases h2 : CellOkM ⟨s, a, b⟩
    · rfl
    · exact h2
  · cases h2 : inR a 0 5
    · rfl
    · have := inR_iff.1 h2
      exact cellOk_of (by simp) (by simp) this.1 this.2 this.1 this.2 (by simp)
def ExchangeCellM (c : GCell) (l : List Int) : GCell := bif CellOkM c && ListOkM l then SplitCellM c.Split (gx l c.A.toNat) (gx l c.B.toNat) else ⟨0, 0, 0⟩
theorem exchangeCell_ok (c : GCell) (l : List Int) : CellOkM (ExchangeCellM c l) = true := by
  unfold ExchangeCellM
  cases CellOkM c && ListOkM l
  · rfl
  · exact splitCell_ok _ _ _
def ExchangeM (b : GBlock) (l : List Int) : GBlock × Bool := bif BlockOkM b && ListOkM l then (⟨b.Size, b.Cells.map fun c => ExchangeCellM c l⟩, true) else (b, false)
theorem exchange_ok {b : GBlock} (h : BlockOkM b = true) (l : List Int) : BlockOkM (ExchangeM b l).1 = true ∧ (ExchangeM b l).1.Size = b.Size := by
  unfold ExchangeM
  cases hc : BlockOkM b && ListOkM l
  · exact ⟨h, rfl⟩
  · obtain ⟨n, hn, h1, h2, hl, hcs⟩ := blockOk_spec h
    refine ⟨?_, rfl⟩
    rw [hn]
    exact blockOk_of h1 h2 (by simpa using hl) (fun c hm => by
      simp only [List.mem_map] at hm
      obtain ⟨d, _, rfl⟩ := hm
      exact exchangeCell_ok d l)
def PlainM (b : GBlock) : GBlock := (ExchangeM b (FirstUseM b)).1
theorem plain_ok {b : GBlock} (h : BlockOkM b = true) : BlockOkM (PlainM b) = true ∧ (PlainM b).Size = b.Size := exchange_ok h _
theorem cells_grid {α β : Type} [Rep α] (F : α → β) {n : Nat} {l : List α} (hl : l.length = n * n) : (cellsM n n fun y x => F (gx l (y * n + x))) = l.map F := by
  apply List.ext_getElem
  · rw [cellsM_length]; simp [hl]
  · intro i h1 h2
    have hi : i < n * n := by rw [cellsM_length] at h1; exact h1
    have hn : 0 < n := by
      rcases Nat.eq_zero_or_pos n with h | h
      · subst h; simp at hi
      · exact h
    have hd : i / n * n + i % n = i := by rw [Nat.mul_comm]; exact Nat.div_add_mod i n
    have key : ∀ (h w : Nat) (G : Nat → Nat → β) (y x : Nat), y < h → x < w → (cellsM h w G)[y * w + x]? = some (G y x) := by
      intro h w G y x hy hx
      induction h with
      | zero => omega
      | succ h ih =>
        rw [cellsM_succ]
        rcases Nat.lt_or_ge y h with hlt | hge
        · rw [List.getElem?_append_left (by rw [cellsM_length]; exact idx_lt2 hlt hx)]
          exact ih hlt
        · have e : y = h := by omega
          subst e
          rw [List.getElem?_append_right (by rw [cellsM_length]; omega), cellsM_length]
          simp [hx]
    have k1 := key n n (fun y x => F (gx l (y * n + x))) (i / n) (i % n) ((Nat.div_lt_iff_lt_mul hn).2 hi) (Nat.mod_lt _ hn)
    simp only [hd] at k1
    rw [List.getElem?_eq_getElem h1] at k1
    have := Option.some.inj k1
    rw [this, gx_lt (by omega)]
    simp

def viewsM (b : GBlock) : List GBlock := (List.range 8).map fun k : Nat => SeenM b (k : Int)
theorem views_len (b : GBlock) : (viewsM b).length = 8 := by simp [viewsM]
theorem views_gx (b : GBlock) {k : Nat} (hk : k < 8) : gx (viewsM b) k = SeenM b (k : Int) := gx_range _ hk
theorem view_ok {b : GBlock} (h : BlockOkM b = true) {k : Nat} (hk : k < 8) : BlockOkM (SeenM b (k : Int)) = true ∧ (SeenM b (k : Int)).Size = b.Size := seen_ok h (inR_iff.2 ⟨by omega, by omega⟩)

def ColorSymM (b : GBlock) : List Int := bif BlockOkM b then ((List.range 8).filter fun k : Nat => SameBlockM (PlainM (SeenM b (k : Int))) (PlainM b)).map fun k : Nat => (k : Int) else []

def tab6 (f : Nat → Int) : List Int := (List.range 6).map f
theorem tab6_len (f : Nat → Int) : (tab6 f).length = 6 := by simp [tab6]
theorem tab6_gx (f : Nat → Int) {a : Nat} (ha : a < 6) : gx (tab6 f) a = f a := gx_range f ha
theorem tab6_congr {f g : Nat → Int} (h : ∀ a, a < 6 → f a = g a) : tab6 f = tab6 g := List.map_congr_left fun a ha => h a (by simpa using ha)
theorem tab6_set (f : Nat → Int) (a : Nat) (v : Int) : (tab6 f).set a v = tab6 fun i => bif i == a then v else f i := by
  apply gx_ext
  · simp [tab6]
  · intro k hk
    have hk' : k < 6 := by simpa [tab6] using hk
    rw [tab6_gx _ hk']
    by_cases e : k = a
    · subst e
      rw [gx_set (by rw [tab6_len]; exact hk')]; simp
    · rw [gx_set_ne e, tab6_gx _ hk', beq_eq_false_iff_ne.2 e, cond_false]
def wcM (a : Int) (c : GCell) : Int := bif c.Split == 0 then (bif c.A == a then 1 else 0) else 0
def hcM (a : Int) (c : GCell) : Int := bif c.Split == 0 then 0 else (bif c.A == a then 1 else 0) + (bif c.B == a then 1 else 0)
theorem wc_bound (a : Int) (c : GCell) : 0 ≤ wcM a c ∧ wcM a c ≤ 2 := by unfold wcM; cases c.Split == 0 <;> cases c.A == a <;> simp
theorem hc_bound (a : Int) (c : GCell) : 0 ≤ hcM a c ∧ hcM a c ≤ 2 := by unfold hcM; cases c.Split == 0 <;> cases c.A == a <;> cases c.B == a <;> simp
theorem wc_turn (a : Int) {c : GCell} (h : CellOkM c = true) : wcM a (TurnCellM c) = wcM a c := by
  unfold TurnCellM wcM
  rw [h]
  by_cases e1 : c.Split = 1
  · simp [e1]
  · by_cases e2 : c.Split = 2
    · simp [e2]
    · rw [beq_eq_false_iff_ne.2 e1, beq_eq_false_iff_ne.2 e2]; rfl
theorem hc_turn (a : Int) {c : GCell} (h : CellOkM c = true) : hcM a (TurnCellM c) = hcM a c := by
  unfold TurnCellM hcM
  rw [h]
  by_cases e1 : c.Split = 1
  · simp [e1, Int.add_comm]
  · by_cases e2 : c.Split = 2
    · simp [e2]
    · rw [beq_eq_false_iff_ne.2 e1, beq_eq_false_iff_ne.2 e2]; rfl
theorem mirror_split {c : GCell} (h : CellOkM c = true) (h0 : c.Split ≠ 0) : (MirrorCellM c).Split ≠ 0 ∧ (MirrorCellM c).A = c.B ∧ (MirrorCellM c).B = c.A := by
  obtain ⟨h1, h2, _⟩ := cellOk_spec h
  have e : (c.Split == 0) = false := by simp [h0]
  unfold MirrorCellM
  rw [h, e]
  simp only [cond_true, cond_false]
  refine ⟨?_, trivial, trivial⟩
  omega
theorem wc_mirror (a : Int) {c : GCell} (h : CellOkM c = true) : wcM a (MirrorCellM c) = wcM a c := by
  by_cases e0 : c.Split = 0
  · unfold MirrorCellM; simp [h, e0]
  · obtain ⟨m1, m2, m3⟩ := mirror_split h e0
    unfold wcM
    rw [beq_eq_false_iff_ne.2 m1, beq_eq_false_iff_ne.2 e0]
    rfl
theorem hc_mirror (a : Int) {c : GCell} (h : CellOkM c = true) : hcM a (MirrorCellM c) = hcM a c := by
  by_cases e0 : c.Split = 0
  · unfold MirrorCellM; simp [h, e0]
  · obtain ⟨m1, m2, m3⟩ := mirror_split h e0
    unfold hcM
    rw [beq_eq_false_iff_ne.2 m1, beq_eq_false_iff_ne.2 e0, m2, m3]
    simp only [cond_false]; omega
theorem nat_toNat_beq {x : Int} (h : 0 ≤ x) (a : Nat) : (a == x.toNat) = (x == (a : Int)) := by
  rw [Bool.eq_iff_iff]; simp; omega
def wsM (cs : List GCell) (a : Int) : Int := isum (cs.map (wcM a))
def hsM (cs : List GCell) (a : Int) : Int := isum (cs.map (hcM a))
theorem ws_bound {cs : List GCell} (hl : cs.length ≤ 16) (a : Int) : 0 ≤ wsM cs a ∧ wsM cs a ≤ 32 := by
  have := isum_bound (B := 2) (xs := cs.map (wcM a)) (fun x hx => by
    simp only [List.mem_map] at hx; obtain ⟨c, _, rfl⟩ := hx; exact wc_bound a c)
  simp only [List.length_map] at this
  unfold wsM; omega
theorem hs_bound {cs : List GCell} (hl : cs.length ≤ 16) (a : Int) : 0 ≤ hsM cs a ∧ hsM cs a ≤ 32 := by
  have := isum_bound (B := 2) (xs := cs.map (hcM a)) (fun x hx => by
    simp only [List.mem_map] at hx; obtain ⟨c, _, rfl⟩ := hx; exact hc_bound a c)
  simp only [List.length_map] at this
  unfold hsM; omega
theorem mul_b {v x B : Int} (h0 : 0 ≤ v) (h1 : v ≤ B) (x0 : 0 ≤ x) (x1 : x ≤ 32) : 0 ≤ v * x ∧ v * x ≤ B * 32 :=
  ⟨Int.mul_nonneg h0 x0, Int.mul_le_mul h1 x1 x0 (by omega)⟩
/-- The cells of a block, counted into two tables. -/
theorem cell_loop {f : Nat → List Int × List Int → Option (Res (List Int × List Int) Empty)} {cs : List GCell} (hc : ∀ c ∈ cs, CellOkM c = true) (hl : cs.length ≤ 16) {vw vh B M : Int} (w0 : 0 ≤ vw) (w1 : vw ≤ B) (h0 : 0 ≤ vh) (h1 : vh ≤ B) (hM : M + B * 34 ≤ 4611686018427387904) (hB : 0 ≤ B)
    (h : ∀ k (w h : List Int), k < cs.length → w.length = 6 → h.length = 6 → (∀ a, a < 6 → 0 ≤ gx w a ∧ gx w a + B ≤ 4611686018427387904) → (∀ a, a < 6 → 0 ≤ gx h a ∧ gx h a + B ≤ 4611686018427387904) →
      f k (w, h) = some (.next (bif (gx cs k).Split == 0 then (w.set (gx cs k).A.toNat (gx w (gx cs k).A.toNat + vw), h) else (w, (h.set (gx cs k).A.toNat (gx h (gx cs k).A.toNat + vh)).set (gx cs k).B.toNat (gx h (gx cs k).B.toNat + vh)))))
    {W H : Nat → Int} (hW : ∀ a, a < 6 → 0 ≤ W a ∧ W a ≤ M) (hH : ∀ a, a < 6 → 0 ≤ H a ∧ H a ≤ M) :
    lpO f cs.length (tab6 W, tab6 H) = some (tab6 fun a => W a + vw * wsM cs a, tab6 fun a => H a + vh * hsM cs a) := by
  have hs0 : (tab6 W, tab6 H) = (tab6 fun a => W a + vw * wsM (cs.take 0) a, tab6 fun a => H a + vh * hsM (cs.take 0) a) := by simp [wsM, hsM, isum]
  have hend : (tab6 fun a => W a + vw * wsM cs a, tab6 fun a => H a + vh * hsM cs a) = (tab6 fun a => W a + vw * wsM (cs.take cs.length) a, tab6 fun a => H a + vh * hsM (cs.take cs.length) a) := by simp
  rw [hend]
  refine lpO_st (fun j => (tab6 fun a => W a + vw * wsM (cs.take j) a, tab6 fun a => H a + vh * hsM (cs.take j) a)) hs0 fun j hj => ?_
  have hok := hc _ (gx_mem hj)
  obtain ⟨c1, c2, c3, c4, c5, c6, c7⟩ := cellOk_spec hok
  have tl : (cs.take j).length ≤ 16 := by simp; omega
  have bw : ∀ a, a < 6 → 0 ≤ W a + vw * wsM (cs.take j) a ∧ W a + vw * wsM (cs.take j) a ≤ M + B * 32 := fun a ha => by
    obtain ⟨b1, b2⟩ := ws_bound tl a
    have := mul_b w0 w1 b1 b2
    have := hW a ha
    omega
  have bh : ∀ a, a < 6 → 0 ≤ H a + vh * hsM (cs.take j) a ∧ H a + vh * hsM (cs.take j) a ≤ M + B * 32 := fun a ha => by
    obtain ⟨b1, b2⟩ := hs_bound tl a
    have := mul_b h0 h1 b1 b2
    have := hH a ha
    omega
  have sw : ∀ a : Nat, wsM (cs.take (j + 1)) a = wsM (cs.take j) a + wcM a (gx cs j) := fun a => by
    unfold wsM
    rw [List.take_succ_eq_append_getElem hj, List.map_append, isum_append, ← gx_lt hj]; simp [isum]
  have sh : ∀ a : Nat, hsM (cs.take (j + 1)) a = hsM (cs.take j) a + hcM a (gx cs j) := fun a => by
    unfold hsM
    rw [List.take_succ_eq_append_getElem hj, List.map_append, isum_append, ← gx_lt hj]; simp [isum]
  rw [h j _ _ hj (tab6_len _) (tab6_len _) (fun a ha => by rw [tab6_gx _ ha]; have := bw a ha; omega) (fun a ha => by rw [tab6_gx _ ha]; have := bh a ha; omega)]
  congr 2
  have hA : (gx cs j).A.toNat < 6 := by omega
  have hB' : (gx cs j).B.toNat < 6 := by omega
  cases hsp : (gx cs j).Split == 0
  · have hne : (gx cs j).A ≠ (gx cs j).B := fun e => by
      have := c7.2 e
      rw [this] at hsp; cases hsp
    simp only [cond_false]
    rw [tab6_gx _ hA, tab6_gx _ hB', tab6_set, tab6_set]
    congr 1
    · exact tab6_congr fun a ha => by rw [sw]; simp [wcM, hsp]
    · exact tab6_congr fun a ha => by
        rw [sh]
        unfold hcM
        rw [hsp, nat_toNat_beq c3, nat_toNat_beq c5]
        simp only [cond_false]
        cases hb : (gx cs j).B == (a : Int)
        · cases hx : (gx cs j).A == (a : Int)
          · simp
          · have e : (gx cs j).A.toNat = a := by have := eq_of_beq hx; omega
            simp only [cond_true, cond_false, e, Int.mul_add]; omega
        · have e : (gx cs j).B.toNat = a := by have := eq_of_beq hb; omega
          have hx : ((gx cs j).A == (a : Int)) = false := by
            rw [beq_eq_false_iff_ne]
            have := eq_of_beq hb
            omega
          simp only [cond_true, cond_false, e, hx, Int.mul_add]; omega
  · simp only [cond_true]
    rw [tab6_gx _ hA, tab6_set]
    congr 1
    · exact tab6_congr fun a ha => by
        rw [sw]
        unfold wcM
        rw [hsp, nat_toNat_beq c3]
        simp only [cond_true]
        cases hx : (gx cs j).A == (a : Int)
        · simp
        · have e : (gx cs j).A.toNat = a := by have := eq_of_beq hx; omega
          simp only [cond_true, e, Int.mul_add]; omega
    · exact tab6_congr fun a ha => by rw [sh]; simp [hcM, hsp]

def usedM (b : GBlock) (a : Int) : Bool := b.Cells.any fun c => c.A == a || c.B == a
theorem isum_nonneg {α : Type} {f : α → Int} : ∀ {xs : List α}, (∀ x ∈ xs, 0 ≤ f x) → 0 ≤ isum (xs.map f)
  | [], _ => by simp [isum]
  | x :: r, h => by
    have := isum_nonneg (xs := r) fun y hy => h y (by simp [hy])
    have := h x (by simp)
    simp only [List.map_cons, isum]; omega
theorem isum_pos_iff {α : Type} {f : α → Int} : ∀ {xs : List α}, (∀ x ∈ xs, 0 ≤ f x) → (0 < isum (xs.map f) ↔ ∃ x, x ∈ xs ∧ 0 < f x)
  | [], _ => by simp [isum]
  | x :: r, h => by
    have ih := isum_pos_iff (xs := r) fun y hy => h y (by simp [hy])
    have h0 := h x (by simp)
    have hr := isum_nonneg (xs := r) (f := f) fun y hy => h y (by simp [hy])
    simp only [List.map_cons, isum]
    constructor
    · intro hp
      by_cases hx : 0 < f x
      · exact ⟨x, by simp, hx⟩
      · obtain ⟨y, hy, hp⟩ := ih.1 (by omega)
        exact ⟨y, by simp [hy], hp⟩
    · rintro ⟨y, hy, hp⟩
      simp only [List.mem_cons] at hy
      rcases hy with rfl | hy
      · omega
      · have := ih.2 ⟨y, hy, hp⟩; omega
theorem area_pos {b : GBlock} (h : BlockOkM b = true) (a : Int) : decide (AreaM b a > 0) = usedM b a := by
  rw [Bool.eq_iff_iff, decide_eq_true_iff]
  unfold AreaM usedM
  rw [h, cond_true, List.any_eq_true]
  refine (isum_pos_iff fun c _ => (ar_bound a c).1).trans ?_
  constructor
  · rintro ⟨c, hc, hp⟩
    refine ⟨c, hc, ?_⟩
    unfold arM at hp
    cases h1 : c.A == a
    · cases h2 : c.B == a
      · rw [h1, h2] at hp; simp at hp
      · rfl
    · rfl
  · rintro ⟨c, hc, hp⟩
    refine ⟨c, hc, ?_⟩
    unfold arM
    cases h1 : c.A == a
    · cases h2 : c.B == a
      · rw [h1, h2] at hp; simp at hp
      · simp
    · cases h2 : c.B == a <;> simp
def colsM (b : GBlock) : List Int := ((List.range 6).filter fun a : Nat => usedM b (a : Int)).map fun a : Nat => (a : Int)
def ColorsM (b : GBlock) : List Int := bif BlockOkM b then colsM b else []
theorem mem_cols {b : GBlock} {x : Int} : x ∈ colsM b ↔ (0 ≤ x ∧ x ≤ 5) ∧ usedM b x = true := by
  simp only [colsM, List.mem_map, List.mem_filter, List.mem_range]
  constructor
  · rintro ⟨a, ⟨h1, h2⟩, rfl⟩
    exact ⟨⟨by omega, by omega⟩, h2⟩
  · rintro ⟨⟨h1, h2⟩, h3⟩
    obtain ⟨a, rfl⟩ := Int.eq_ofNat_of_zero_le h1
    exact ⟨a, ⟨by omega, h3⟩, rfl⟩
theorem cols_nodup (b : GBlock) : (colsM b).Nodup := by
  have h : ((List.range 6).filter fun a : Nat => usedM b (a : Int)).Nodup := List.Pairwise.filter _ List.nodup_range
  exact List.Pairwise.map _ (fun a b hab e => hab (by omega)) h
theorem cols_len (b : GBlock) : (colsM b).length ≤ 6 := by
  have := List.length_filter_le (fun a : Nat => usedM b (a : Int)) (List.range 6)
  simpa [colsM] using this
theorem cols_pos {b : GBlock} (h : BlockOkM b = true) : 0 < (colsM b).length := by
  obtain ⟨n, hn, h1, h2, hl, hc⟩ := blockOk_spec h
  have hnn : 1 * 1 ≤ n * n := Nat.mul_le_mul h1 h1
  have hm : gx b.Cells 0 ∈ b.Cells := gx_mem (by omega)
  obtain ⟨_, _, a1, a2, _⟩ := cellOk_spec (hc _ hm)
  apply List.length_pos_of_mem (a := (gx b.Cells 0).A)
  refine mem_cols.2 ⟨⟨a1, a2⟩, ?_⟩
  unfold usedM
  rw [List.any_eq_true]
  exact ⟨_, hm, by simp⟩

def ColorAtM (c : GCell) (s : Nat) : Int := bif s == 0 || (c.Split == 1 && s == 1) || (c.Split == 2 && s == 3) then c.A else c.B
theorem colorAt_mem (c : GCell) (s : Nat) : ColorAtM c s = c.A ∨ ColorAtM c s = c.B := by
  unfold ColorAtM
  cases (s == 0 || (c.Split == 1 && s == 1) || (c.Split == 2 && s == 3)) <;> simp
theorem colorAt_in {c : GCell} (h : CellOkM c = true) (s : Nat) : 0 ≤ ColorAtM c s ∧ ColorAtM c s ≤ 5 := by
  obtain ⟨_, _, h1, h2, h3, h4, _⟩ := cellOk_spec h
  rcases colorAt_mem c s with e | e <;> rw [e] <;> omega

def cellLikeM (c d : GCell) : Int := sumN 4 fun s => bif ColorAtM c s == ColorAtM d s then 1 else 0
theorem cellLike_bound (c d : GCell) : 0 ≤ cellLikeM c d ∧ cellLikeM c d ≤ 4 := by
  have := sumN_bound (m := 4) (F := fun s => bif ColorAtM c s == ColorAtM d s then 1 else 0) (B := 1) fun s _ => by cases ColorAtM c s == ColorAtM d s <;> simp
  unfold cellLikeM; omega
def LikeM (b d : GBlock) : Int := sumN b.Cells.length fun i => cellLikeM (gx b.Cells i) (gx d.Cells i)
def pairM (b d : GBlock) : Bool := BlockOkM b && BlockOkM d && (b.Size == d.Size)
theorem pair_len {b d : GBlock} (h : pairM b d = true) : BlockOkM b = true ∧ BlockOkM d = true ∧ b.Cells.length = d.Cells.length ∧ b.Cells.length ≤ 16 := by
  simp only [pairM, Bool.and_eq_true, beq_iff_eq] at h
  obtain ⟨⟨h1, h2⟩, h3⟩ := h
  obtain ⟨n, hn, n1, n2, nl, _⟩ := blockOk_spec h1
  obtain ⟨m, hm, m1, m2, ml, _⟩ := blockOk_spec h2
  have e : n = m := by omega
  have hnn : n * n ≤ 4 * 4 := Nat.mul_le_mul n2 n2
  exact ⟨h1, h2, by rw [nl, ml, e], by omega⟩

/-- Exchanged colors, side by side. -/
theorem colorAt_exchange {c : GCell} {l : List Int} (hc : CellOkM c = true) (hl : ListOkM l = true) (s : Nat) : ColorAtM (ExchangeCellM c l) s = gx l (ColorAtM c s).toNat := by
  obtain ⟨h1, h2, h3, h4, h5, h6, h7⟩ := cellOk_spec hc
  obtain ⟨g1, g2⟩ := listOk_spec hl
  obtain ⟨a0, a1⟩ := g2 _ (gx_mem (show c.A.toNat < l.length by omega))
  obtain ⟨b0, b1⟩ := g2 _ (gx_mem (show c.B.toNat < l.length by omega))
  unfold ExchangeCellM SplitCellM
  rw [hc, hl]
  simp only [Bool.and_self, cond_true]
  cases he : gx l c.A.toNat == gx l c.B.toNat
  · have hne : gx l c.A.toNat ≠ gx l c.B.toNat := by simpa using he
    have hab : c.A ≠ c.B := fun e => hne (by rw [e])
    have hok : CellOkM ⟨c.Split, gx l c.A.toNat, gx l c.B.toNat⟩ = true := cellOk_of h1 h2 a0 a1 b0 b1 ⟨fun e => absurd (h7.1 e) hab, fun e => absurd e hne⟩
    rw [hok]
    simp only [cond_false, cond_true]
    unfold ColorAtM
    simp only
    cases (s == 0 || (c.Split == 1 && s == 1) || (c.Split == 2 && s == 3)) <;> rfl
  · have e : gx l c.A.toNat = gx l c.B.toNat := by simpa using he
    have hi : inR (gx l c.A.toNat) 0 5 = true := inR_iff.2 ⟨a0, a1⟩
    unfold WholeCellM
    rw [hi]
    simp only [cond_true]
    rcases colorAt_mem c s with q | q <;> rw [q]
    · rcases colorAt_mem ⟨0, gx l c.A.toNat, gx l c.A.toNat⟩ s with r | r <;> exact r
    · rw [← e]
      rcases colorAt_mem ⟨0, gx l c.A.toNat, gx l c.A.toNat⟩ s with r | r <;> exact r
theorem turn_exchange {c : GCell} {l : List Int} (hc : CellOkM c = true) (hl : ListOkM l = true) : TurnCellM (ExchangeCellM c l) = ExchangeCellM (TurnCellM c) l := by
  obtain ⟨h1, h2, h3, h4, h5, h6, h7⟩ := cellOk_spec hc
  obtain ⟨g1, g2⟩ := listOk_spec hl
  obtain ⟨a0, a1⟩ := g2 _ (gx_mem (show c.A.toNat < l.length by omega))
  obtain ⟨b0, b1⟩ := g2 _ (gx_mem (show c.B.toNat < l.length by omega))
  have ht := turnCell_ok hc
  have hs : c.Split = 0 ∨ c.Split = 1 ∨ c.Split = 2 := by omega
  have hia : inR (gx l c.A.toNat) 0 5 = true := inR_iff.2 ⟨a0, a1⟩
  have hib : inR (gx l c.B.toNat) 0 5 = true := inR_iff.2 ⟨b0, b1⟩
  obtain ⟨cs, ca, cb⟩ := c
  simp only at h1 h2 h3 h4 h5 h6 h7 hs hia hib a0 a1 b0 b1
  rcases hs with rfl | rfl | rfl
  · have e := h7.1 rfl
    subst e
    have ew : CellOkM ⟨0, gx l ca.toNat, gx l ca.toNat⟩ = true := cellOk_of (by simp) (by simp) a0 a1 a0 a1 (by simp)
    have e1 : ExchangeCellM ⟨0, ca, ca⟩ l = ⟨0, gx l ca.toNat, gx l ca.toNat⟩ := by simp [ExchangeCellM, hc, hl, SplitCellM, WholeCellM, hia]
    have e2 : TurnCellM ⟨0, ca, ca⟩ = ⟨0, ca, ca⟩ := by simp [TurnCellM, hc]
    rw [e1, e2, e1]
    simp [TurnCellM, ew]
  · have e2 : TurnCellM ⟨1, ca, cb⟩ = ⟨2, cb, ca⟩ := by simp [TurnCellM, hc]
    rw [e2] at ht ⊢
    unfold ExchangeCellM SplitCellM
    rw [hc, ht, hl]
    simp only [Bool.and_self, cond_true]
    cases he : gx l ca.toNat == gx l cb.toNat
    · have hne : gx l ca.toNat ≠ gx l cb.toNat := by simpa using he
      have he' : (gx l cb.toNat == gx l ca.toNat) = false := by simpa using fun e => hne e.symm
      have o1 : CellOkM ⟨1, gx l ca.toNat, gx l cb.toNat⟩ = true := cellOk_of (by simp) (by simp) a0 a1 b0 b1 ⟨fun e => by simp at e, fun e => absurd e hne⟩
      have o2 : CellOkM ⟨2, gx l cb.toNat, gx l ca.toNat⟩ = true := cellOk_of (by simp) (by simp) b0 b1 a0 a1 ⟨fun e => by simp at e, fun e => absurd e.symm hne⟩
      rw [he', o1, o2]
      simp [TurnCellM, o1]
    · have e : gx l ca.toNat = gx l cb.toNat := by simpa using he
      have he' : (gx l cb.toNat == gx l ca.toNat) = true := by simp [e]
      rw [he']
      have ew : CellOkM ⟨0, gx l cb.toNat, gx l cb.toNat⟩ = true := cellOk_of (by simp) (by simp) b0 b1 b0 b1 (by simp)
      simp [WholeCellM, e, hib, TurnCellM, ew]
  · have e2 : TurnCellM ⟨2, ca, cb⟩ = ⟨1, ca, cb⟩ := by simp [TurnCellM, hc]
    rw [e2] at ht ⊢
    unfold ExchangeCellM SplitCellM
    rw [hc, ht, hl]
    simp only [Bool.and_self, cond_true]
    cases he : gx l ca.toNat == gx l cb.toNat
    · have hne : gx l ca.toNat ≠ gx l cb.toNat := by simpa using he
      have o1 : CellOkM ⟨2, gx l ca.toNat, gx l cb.toNat⟩ = true := cellOk_of (by simp) (by simp) a0 a1 b0 b1 ⟨fun e => by simp at e, fun e => absurd e hne⟩
      have o2 : CellOkM ⟨1, gx l ca.toNat, gx l cb.toNat⟩ = true := cellOk_of (by simp) (by simp) a0 a1 b0 b1 ⟨fun e => by simp at e, fun e => absurd e hne⟩
      rw [o1, o2]
      simp [TurnCellM, o1]
    · have e : gx l ca.toNat = gx l cb.toNat := by simpa using he
      have ew : CellOkM ⟨0, gx l cb.toNat, gx l cb.toNat⟩ = true := cellOk_of (by simp) (by simp) b0 b1 b0 b1 (by simp)
      simp [WholeCellM, e, hib, TurnCellM, ew]
theorem mirror_exchange {c : GCell} {l : List Int} (hc : CellOkM c = true) (hl : ListOkM l = true) : MirrorCellM (ExchangeCellM c l) = ExchangeCellM (MirrorCellM c) l := by
  obtain ⟨h1, h2, h3, h4, h5, h6, h7⟩ := cellOk_spec hc
  obtain ⟨g1, g2⟩ := listOk_spec hl
  obtain ⟨a0, a1⟩ := g2 _ (gx_mem (show c.A.toNat < l.length by omega))
  obtain ⟨b0, b1⟩ := g2 _ (gx_mem (show c.B.toNat < l.length by omega))
  have ht := mirrorCell_ok hc
  have hs : c.Split = 0 ∨ c.Split = 1 ∨ c.Split = 2 := by omega
  have hia : inR (gx l c.A.toNat) 0 5 = true := inR_iff.2 ⟨a0, a1⟩
  have hib : inR (gx l c.B.toNat) 0 5 = true := inR_iff.2 ⟨b0, b1⟩
  obtain ⟨cs, ca, cb⟩ := c
  simp only at h1 h2 h3 h4 h5 h6 h7 hs hia hib a0 a1 b0 b1
  rcases hs with rfl | rfl | rfl
  · have e := h7.1 rfl
    subst e
    have ew : CellOkM ⟨0, gx l ca.toNat, gx l ca.toNat⟩ = true := cellOk_of (by simp) (by simp) a0 a1 a0 a1 (by simp)
    have e1 : ExchangeCellM ⟨0, ca, ca⟩ l = ⟨0, gx l ca.toNat, gx l ca.toNat⟩ := by simp [ExchangeCellM, hc, hl, SplitCellM, WholeCellM, hia]
    have e2 : MirrorCellM ⟨0, ca, ca⟩ = ⟨0, ca, ca⟩ := by simp [MirrorCellM, hc]
    rw [e1, e2, e1]
    simp [MirrorCellM, ew]
  · have e2 : MirrorCellM ⟨1, ca, cb⟩ = ⟨2, cb, ca⟩ := by simp [MirrorCellM, hc]
    rw [e2] at ht ⊢
    unfold ExchangeCellM SplitCellM
    rw [hc, ht, hl]
    simp only [Bool.and_self, cond_true]
    cases he : gx l ca.toNat == gx l cb.toNat
    · have hne : gx l ca.toNat ≠ gx l cb.toNat := by simpa using he
      have he' : (gx l cb.toNat == gx l ca.toNat) = false := by simpa using fun e => hne e.symm
      have o1 : CellOkM ⟨1, gx l ca.toNat, gx l cb.toNat⟩ = true := cellOk_of (by simp) (by simp) a0 a1 b0 b1 ⟨fun e => by simp at e, fun e => absurd e hne⟩
      have o2 : CellOkM ⟨2, gx l cb.toNat, gx l ca.toNat⟩ = true := cellOk_of (by simp) (by simp) b0 b1 a0 a1 ⟨fun e => by simp at e, fun e => absurd e.symm hne⟩
      rw [he', o1, o2]
      simp [MirrorCellM, o1]
    · have e : gx l ca.toNat = gx l cb.toNat := by simpa using he
      have he' : (gx l cb.toNat == gx l ca.toNat) = true := by simp [e]
      rw [he']
      have ew : CellOkM ⟨0, gx l cb.toNat, gx l cb.toNat⟩ = true := cellOk_of (by simp) (by simp) b0 b1 b0 b1 (by simp)
      simp [WholeCellM, e, hib, MirrorCellM, ew]
  · have e2 : MirrorCellM ⟨2, ca, cb⟩ = ⟨1, cb, ca⟩ := by simp [MirrorCellM, hc]
    rw [e2] at ht ⊢
    unfold ExchangeCellM SplitCellM
    rw [hc, ht, hl]
    simp only [Bool.and_self, cond_true]
    cases he : gx l ca.toNat == gx l cb.toNat
    · have hne : gx l ca.toNat ≠ gx l cb.toNat := by simpa using he
      have he' : (gx l cb.toNat == gx l ca.toNat) = false := by simpa using fun e => hne e.symm
      have o1 : CellOkM ⟨2, gx l ca.toNat, gx l cb.toNat⟩ = true := cellOk_of (by simp) (by simp) a0 a1 b0 b1 ⟨fun e => by simp at e, fun e => absurd e hne⟩
      have o2 : CellOkM ⟨1, gx l cb.toNat, gx l ca.toNat⟩ = true := cellOk_of (by simp) (by simp) b0 b1 a0 a1 ⟨fun e => by simp at e, fun e => absurd e.symm hne⟩
      rw [he', o1, o2]
      simp [MirrorCellM, o1]
    · have e : gx l ca.toNat = gx l cb.toNat := by simpa using he
      have he' : (gx l cb.toNat == gx l ca.toNat) = true := by simp [e]
      rw [he']
      have ew : CellOkM ⟨0, gx l cb.toNat, gx l cb.toNat⟩ = true := cellOk_of (by simp) (by simp) b0 b1 b0 b1 (by simp)
      simp [WholeCellM, e, hib, MirrorCellM, ew]
theorem cellsM_map {α β : Type} (g : α → β) (h w : Nat) (F : Nat → Nat → α) : (cellsM h w F).map g = cellsM h w fun y x => g (F y x) := by
  simp [cellsM, List.map_flatMap]
  rfl
theorem cellsM_congr {α : Type} {h w : Nat} {F G : Nat → Nat → α} (H : ∀ y x, y < h → x < w → F y x = G y x) : cellsM h w F = cellsM h w G := by
  induction h with
  | zero => rfl
  | succ h ih =>
    rw [cellsM_succ, cellsM_succ, ih fun y x hy hx => H y x (by omega) hx]
    congr 1
    exact List.map_congr_left fun x hx => H h x (by omega) (by simpa using hx)
def exB (l : List Int) (b : GBlock) : GBlock := ⟨b.Size, b.Cells.map fun c => ExchangeCellM c l⟩
theorem exB_ok {b : GBlock} (h : BlockOkM b = true) (l : List Int) : BlockOkM (exB l b) = true := by
  obtain ⟨n, hn, h1, h2, hl, hcs⟩ := blockOk_spec h
  unfold exB
  rw [hn]
  exact blockOk_of h1 h2 (by simpa using hl) (fun c hm => by
    simp only [List.mem_map] at hm
    obtain ⟨d, _, rfl⟩ := hm
    exact exchangeCell_ok d l)
theorem exB_eq {b : GBlock} (h : BlockOkM b = true) {l : List Int} (hl : ListOkM l = true) : ExchangeM b l = (exB l b, true) := by simp [ExchangeM, h, hl, exB]
theorem turnB_exchange {b : GBlock} (h : BlockOkM b = true) {l : List Int} (hl : ListOkM l = true) : TurnBlockM (exB l b) = exB l (TurnBlockM b) := by
  obtain ⟨n, hn, h1, h2, hlen, hcs⟩ := blockOk_spec h
  have ho := exB_ok h l
  unfold TurnBlockM
  rw [ho, h]
  unfold exB
  simp only [cond_true, hn, Int.toNat_natCast]
  rw [cellsM_map]
  congr 1
  refine cellsM_congr fun y x hy hx => ?_
  have hi : (n - 1 - x) * n + y < b.Cells.length := by rw [hlen]; exact idx_lt (by omega) hy
  rw [gx_map _ hi, turn_exchange (hcs _ (gx_mem hi)) hl]
theorem mirrorB_exchange {b : GBlock} (h : BlockOkM b = true) {l : List Int} (hl : ListOkM l = true) : MirrorBlockM (exB l b) = exB l (MirrorBlockM b) := by
  obtain ⟨n, hn, h1, h2, hlen, hcs⟩ := blockOk_spec h
  have ho := exB_ok h l
  unfold MirrorBlockM
  rw [ho, h]
  unfold exB
  simp only [cond_true, hn, Int.toNat_natCast]
  rw [cellsM_map]
  congr 1
  refine cellsM_congr fun y x hy hx => ?_
  have hi : y * n + (n - 1 - x) < b.Cells.length := by rw [hlen]; exact idx_lt hy (by omega)
  rw [gx_map _ hi, mirror_exchange (hcs _ (gx_mem hi)) hl]
theorem seen_exchange {b : GBlock} (h : BlockOkM b = true) {l : List Int} (hl : ListOkM l = true) {k : Nat} (hk : k < 8) : SeenM (exB l b) (k : Int) = exB l (SeenM b (k : Int)) := by
  have turns : ∀ (b0 : GBlock), BlockOkM b0 = true → ∀ j, turnsM j (exB l b0) = exB l (turnsM j b0) := fun b0 h0 j => by
    induction j with
    | zero => rfl
    | succ j ih => rw [turnsM, ih, turnB_exchange (turns_ok h0 j).1 hl]; rfl
  have hi : inR (k : Int) 0 7 = true := inR_iff.2 ⟨by omega, by omega⟩
  unfold SeenM
  rw [h, exB_ok h l, hi]
  cases decide ((k : Int) ≥ 4)
  · exact turns b h _
  · simp only [Bool.and_self, cond_true]
    rw [mirrorB_exchange h hl, turns _ (mirrorBlock_ok h)]
/-- The colors of a view are the block's. -/
theorem seen_colors {b : GBlock} (h : BlockOkM b = true) {k : Nat} (hk : k < 8) {i : Nat} (hi : i < (SeenM b (k : Int)).Cells.length) (s : Nat) : ColorAtM (gx (SeenM b (k : Int)).Cells i) s ∈ colsM b := by
  have hi7 : inR (k : Int) 0 7 = true := inR_iff.2 ⟨by omega, by omega⟩
  have hv := (seen_ok h hi7).1
  obtain ⟨_, _, _, _, _, hcs⟩ := blockOk_spec hv
  have hm := gx_mem hi
  refine mem_cols.2 ⟨colorAt_in (hcs _ hm) s, ?_⟩
  rw [← area_pos h, ← area_seen _ h hi7, area_pos hv]
  unfold usedM
  rw [List.any_eq_true]
  refine ⟨_, hm, ?_⟩
  rcases colorAt_mem (gx (SeenM b (k : Int)).Cells i) s with e | e <;> rw [e] <;> simp

def cnt1 (u v c d : Int) : Int := bif c == u && d == v then 1 else 0
def sumP (ps : List (Int × Int)) (f : Int → Int → Int) : Int := isum (ps.map fun p => f p.1 p.2)
theorem sumP_cons (p : Int × Int) (ps : List (Int × Int)) (f : Int → Int → Int) : sumP (p :: ps) f = f p.1 p.2 + sumP ps f := rfl
theorem pick_none (c d : Int) : ∀ {ps : List (Int × Int)}, (∀ p ∈ ps, p.1 ≠ c) → sumP ps (fun u v => cnt1 u v c d) = 0
  | [], _ => rfl
  | p :: ps, h => by
    have hp := h p (by simp)
    have hb : (c == p.1) = false := by simpa using fun e : c = p.1 => hp e.symm
    rw [sumP_cons, pick_none c d fun q hq => h q (by simp [hq])]
    simp [cnt1, hb]
theorem pick_one {g : Int → Int} {c d : Int} : ∀ {ps : List (Int × Int)}, (ps.map Prod.fst).Nodup → c ∈ ps.map Prod.fst → (∀ p ∈ ps, g p.1 = p.2) → sumP ps (fun u v => cnt1 u v c d) = bif d == g c then 1 else 0
  | [], _, hm, _ => by simp at hm
  | p :: ps, hn, hm, hg => by
    rw [List.map_cons, List.nodup_cons] at hn
    rw [sumP_cons]
    have hgp := hg p (by simp)
    by_cases e : c = p.1
    · have hz : ∀ q ∈ ps, q.1 ≠ c := fun q hq h => hn.1 (by rw [← e, ← h]; exact List.mem_map_of_mem hq)
      rw [pick_none c d hz, e, hgp]
      simp [cnt1]
    · have hm' : c ∈ ps.map Prod.fst := by
        rw [List.map_cons, List.mem_cons] at hm
        rcases hm with h | h
        · exact absurd h e
        · exact h
      have hb : (c == p.1) = false := by simpa using e
      rw [pick_one hn.2 hm' fun q hq => hg q (by simp [hq])]
      simp [cnt1, hb]
theorem sumP_swap (m : Nat) (f : Nat → Int → Int → Int) : ∀ ps : List (Int × Int), sumP ps (fun u v => sumN m fun i => f i u v) = sumN m fun i => sumP ps (f i)
  | [] => by
    have : sumN m (fun i => sumP [] (f i)) = sumN m fun _ => 0 := sumN_congr fun _ _ => rfl
    rw [this, sumN_nil]; rfl
  | p :: ps => by
    rw [sumP_cons, sumP_swap m f ps, ← sumN_add]
    rfl
/-- At how many sides the one block has the color v and the other one u. -/
def TM (b d : GBlock) (u v : Int) : Int := sumN b.Cells.length fun i => sumN 4 fun s => cnt1 u v (ColorAtM (gx d.Cells i) s) (ColorAtM (gx b.Cells i) s)
theorem like_exchange {b d : GBlock} (h : pairM b d = true) {l : List Int} (hl : ListOkM l = true) {ps : List (Int × Int)} (hn : (ps.map Prod.fst).Nodup) (hc : ∀ i, i < d.Cells.length → ∀ s, ColorAtM (gx d.Cells i) s ∈ ps.map Prod.fst) (hg : ∀ p ∈ ps, gx l p.1.toNat = p.2) : LikeM b (exB l d) = sumP ps (TM b d) := by
  obtain ⟨h1, h2, h3, h4⟩ := pair_len h
  obtain ⟨_, _, _, _, _, c2⟩ := blockOk_spec h2
  have e : sumP ps (TM b d) = sumN b.Cells.length fun i => sumN 4 fun s => sumP ps fun u v => cnt1 u v (ColorAtM (gx d.Cells i) s) (ColorAtM (gx b.Cells i) s) := by
    unfold TM
    rw [sumP_swap]
    refine sumN_congr fun i _ => ?_
    rw [sumP_swap]
  rw [e]
  unfold LikeM
  refine sumN_congr fun i hi => ?_
  unfold cellLikeM
  refine sumN_congr fun s hs => ?_
  have hx : gx (exB l d).Cells i = ExchangeCellM (gx d.Cells i) l := gx_map _ (by omega)
  rw [hx, colorAt_exchange (c2 _ (gx_mem (by omega))) hl, pick_one (g := fun x => gx l x.toNat) hn (hc i (by omega) s) hg]

theorem rng_set {α : Type} [Rep α] {m : Nat} (G : Nat → α) (u : Nat) (y : α) : ((List.range m).map G).set u y = (List.range m).map fun i => bif i == u then y else G i := by
  apply gx_ext
  · simp
  · intro k hk
    have hk' : k < m := by simpa using hk
    rw [gx_range _ hk']
    by_cases e : k = u
    · subst e
      rw [gx_set (by simpa using hk')]; simp
    · rw [gx_set_ne e, gx_range _ hk', beq_eq_false_iff_ne.2 e, cond_false]
def tab66 (f : Nat → Nat → Int) : List (List Int) := (List.range 6).map fun u => tab6 (f u)
theorem tab66_len (f : Nat → Nat → Int) : (tab66 f).length = 6 := by simp [tab66]
theorem tab66_gx (f : Nat → Nat → Int) {u : Nat} (hu : u < 6) : gx (tab66 f) u = tab6 (f u) := gx_range _ hu
theorem tab66_congr {f g : Nat → Nat → Int} (h : ∀ u v, u < 6 → v < 6 → f u v = g u v) : tab66 f = tab66 g := List.map_congr_left fun u hu => tab6_congr fun v hv => h u v (by simpa using hu) hv
theorem tab66_set (f : Nat → Nat → Int) {u : Nat} (hu : u < 6) (v : Nat) (x : Int) : (tab66 f).set u ((gx (tab66 f) u).set v x) = tab66 fun i j => bif i == u && j == v then x else f i j := by
  rw [tab66_gx _ hu, tab6_set]
  unfold tab66
  rw [rng_set]
  refine List.map_congr_left fun i _ => ?_
  cases h : i == u
  · simp only [cond_false, h, Bool.false_and]
  · have e : i = u := by simpa using h
    subst e
    simp
theorem cnt1_bound (u v c d : Int) : 0 ≤ cnt1 u v c d ∧ cnt1 u v c d ≤ 1 := by unfold cnt1; cases c == u && d == v <;> simp
theorem TM_bound {b d : GBlock} (hl : b.Cells.length ≤ 16) (u v : Int) : 0 ≤ TM b d u v ∧ TM b d u v ≤ 64 := by
  have := sumN_bound (m := b.Cells.length) (F := fun i => sumN 4 fun s => cnt1 u v (ColorAtM (gx d.Cells i) s) (ColorAtM (gx b.Cells i) s)) (B := 4) fun i _ => by
    have := sumN_bound (m := 4) (F := fun s => cnt1 u v (ColorAtM (gx d.Cells i) s) (ColorAtM (gx b.Cells i) s)) (B := 1) fun s _ => cnt1_bound _ _ _ _
    omega
  unfold TM; omega

/-- The colors that an index picks. -/
def pkM : List Nat → Nat → List Int → List Int
  | [], _, _ => []
  | r :: rs, i, left => gx left (i / r) :: pkM rs (i % r) (left.take (i / r) ++ left.drop (i / r + 1))
theorem pk1_ok : ∀ i, i < 6 → (pkM [1] i six).Nodup ∧ ∀ x ∈ pkM [1] i six, 0 ≤ x ∧ x ≤ 5 := by decide +kernel
theorem pk2_ok : ∀ i, i < 30 → (pkM [5, 1] i six).Nodup ∧ ∀ x ∈ pkM [5, 1] i six, 0 ≤ x ∧ x ≤ 5 := by decide +kernel
theorem pk3_ok : ∀ i, i < 120 → (pkM [20, 4, 1] i six).Nodup ∧ ∀ x ∈ pkM [20, 4, 1] i six, 0 ≤ x ∧ x ≤ 5 := by decide +kernel
def inv2 (a b : Nat) : Nat := 5 * a + (b - bif decide (a < b) then 1 else 0)
def inv3 (a b c : Nat) : Nat := 20 * a + 4 * (b - bif decide (a < b) then 1 else 0) + (c - (bif decide (a < c) then 1 else 0) - (bif decide (b < c) then 1 else 0))
theorem pk1_inv : ∀ a, a < 6 → pkM [1] a six = [(a : Int)] := by decide +kernel
theorem pk2_inv : ∀ a, a < 6 → ∀ b, b < 6 → a ≠ b → inv2 a b < 30 ∧ pkM [5, 1] (inv2 a b) six = [(a : Int), (b : Int)] := by decide +kernel
def chk3 : Bool := (List.range 6).all fun a => (List.range 6).all fun b => (List.range 6).all fun c => (a == b || a == c || b == c) || (decide (inv3 a b c < 120) && (pkM [20, 4, 1] (inv3 a b c) six == [(a : Int), (b : Int), (c : Int)]))
theorem chk3_ok : chk3 = true := by decide +kernel
theorem pk3_inv (a : Nat) (ha : a < 6) (b : Nat) (hb : b < 6) (c : Nat) (hc : c < 6) (hab : a ≠ b) (hac : a ≠ c) (hbc : b ≠ c) : inv3 a b c < 120 ∧ pkM [20, 4, 1] (inv3 a b c) six = [(a : Int), (b : Int), (c : Int)] := by
  have h := chk3_ok
  unfold chk3 at h
  rw [List.all_eq_true] at h
  have h := h a (by simpa using ha)
  rw [List.all_eq_true] at h
  have h := h b (by simpa using hb)
  rw [List.all_eq_true] at h
  have h := h c (by simpa using hc)
  have e1 : (a == b) = false := by simpa using hab
  have e2 : (a == c) = false := by simpa using hac
  have e3 : (b == c) = false := by simpa using hbc
  rw [e1, e2, e3] at h
  simp only [Bool.or_self, Bool.false_or, Bool.and_eq_true, decide_eq_true_iff, beq_iff_eq] at h
  exact h
def asgM : List Int → List Int → List Int → List Int
  | u :: L, v :: p, acc => asgM L p (acc.set u.toNat v)
  | _, _, acc => acc
theorem asg_len : ∀ (L p acc : List Int), (asgM L p acc).length = acc.length
  | [], _, _ => by simp [asgM]
  | _ :: _, [], _ => by simp [asgM]
  | u :: L, v :: p, acc => by rw [asgM, asg_len L p]; simp
theorem asg_other : ∀ (L p acc : List Int) {x : Nat}, (∀ u ∈ L, u.toNat ≠ x) → gx (asgM L p acc) x = gx acc x
  | [], _, _, _, _ => by simp [asgM]
  | _ :: _, [], _, _, _ => by simp [asgM]
  | u :: L, v :: p, acc, x, h => by
    rw [asgM, asg_other L p _ fun w hw => h w (by simp [hw]), gx_set_ne (Ne.symm (h u (by simp)))]
theorem asg_gx : ∀ (L p acc : List Int), acc.length = 6 → L.Nodup → (∀ u ∈ L, 0 ≤ u ∧ u ≤ 5) → ∀ q ∈ L.zip p, gx (asgM L p acc) q.1.toNat = q.2
  | [], _, _, _, _, _, q, hq => by simp at hq
  | _ :: _, [], _, _, _, _, q, hq => by simp at hq
  | u :: L, v :: p, acc, hl, hn, hr, q, hq => by
    rw [List.nodup_cons] at hn
    rw [List.zip_cons_cons, List.mem_cons] at hq
    have hu := hr u (by simp)
    rw [asgM]
    rcases hq with rfl | hq
    · rw [asg_other L p _ fun w hw e => hn.1 (by
        have := hr w (by simp [hw])
        have : w = u := by simp only at e; omega
        rw [← this]; exact hw), gx_set (by rw [hl]; omega)]
    · exact asg_gx L p _ (by simpa using hl) hn.2 (fun w hw => hr w (by simp [hw])) q hq
theorem asg_in : ∀ (L p acc : List Int), (∀ x ∈ acc, 0 ≤ x ∧ x ≤ 5) → (∀ x ∈ p, 0 ≤ x ∧ x ≤ 5) → ∀ x ∈ asgM L p acc, 0 ≤ x ∧ x ≤ 5
  | [], _, _, h, _, x, hx => h x (by simpa [asgM] using hx)
  | _ :: _, [], _, h, _, x, hx => h x (by simpa [asgM] using hx)
  | u :: L, v :: p, acc, h, hp, x, hx => by
    rw [asgM] at hx
    refine asg_in L p _ (fun y hy => ?_) (fun y hy => hp y (by simp [hy])) x hx
    rcases List.mem_or_eq_of_mem_set hy with hm | rfl
    · exact h y hm
    · exact hp _ (by simp)
def zeros6 : List Int := List.replicate 6 0
def wayM (L p : List Int) : List Int := asgM L p zeros6
theorem way_ok {L p : List Int} (hp : ∀ x ∈ p, 0 ≤ x ∧ x ≤ 5) : ListOkM (wayM L p) = true :=
  listOk_of (by unfold wayM; rw [asg_len]; rfl) (asg_in L p _ (by intro x hx; simp [zeros6] at hx; omega) hp)
def ratesM : Nat → List Nat
  | 1 => [1]
  | 2 => [5, 1]
  | 3 => [20, 4, 1]
  | _ => []
def chsM : Nat → Nat
  | 1 => 6
  | 2 => 30
  | 3 => 120
  | _ => 1
theorem pk_ok {n i : Nat} (h1 : 1 ≤ n) (h3 : n ≤ 3) (hi : i < chsM n) : (pkM (ratesM n) i six).length = n ∧ (pkM (ratesM n) i six).Nodup ∧ ∀ x ∈ pkM (ratesM n) i six, 0 ≤ x ∧ x ≤ 5 := by
  have hn : n = 1 ∨ n = 2 ∨ n = 3 := by omega
  rcases hn with rfl | rfl | rfl
  · exact ⟨rfl, pk1_ok i hi⟩
  · exact ⟨rfl, pk2_ok i hi⟩
  · exact ⟨rfl, pk3_ok i hi⟩
theorem pk_surj {p : List Int} (h1 : 1 ≤ p.length) (h3 : p.length ≤ 3) (hr : ∀ x ∈ p, 0 ≤ x ∧ x ≤ 5) (hn : p.Nodup) : ∃ i, i < chsM p.length ∧ pkM (ratesM p.length) i six = p := by
  match p, h1, h3, hr, hn with
  | [x], _, _, hr, _ =>
    obtain ⟨a, rfl⟩ := Int.eq_ofNat_of_zero_le (hr x (by simp)).1
    have := (hr _ (List.mem_singleton.2 rfl)).2
    exact ⟨a, by simp only [chsM, List.length_cons, List.length_nil]; omega, pk1_inv a (by omega)⟩
  | [x, y], _, _, hr, hn =>
    have hx := hr x (by simp)
    have hy := hr y (by simp)
    obtain ⟨a, rfl⟩ := Int.eq_ofNat_of_zero_le hx.1
    obtain ⟨b, rfl⟩ := Int.eq_ofNat_of_zero_le hy.1
    have hab : a ≠ b := fun e => by subst e; simp at hn
    obtain ⟨g1, g2⟩ := pk2_inv a (by omega) b (by omega) hab
    exact ⟨inv2 a b, g1, g2⟩
  | [x, y, z], _, _, hr, hn =>
    have hx := hr x (by simp)
    have hy := hr y (by simp)
    have hz := hr z (by simp)
    obtain ⟨a, rfl⟩ := Int.eq_ofNat_of_zero_le hx.1
    obtain ⟨b, rfl⟩ := Int.eq_ofNat_of_zero_le hy.1
    obtain ⟨c, rfl⟩ := Int.eq_ofNat_of_zero_le hz.1
    have hab : a ≠ b := fun e => by subst e; simp at hn
    have hac : a ≠ c := fun e => by subst e; simp at hn
    have hbc : b ≠ c := fun e => by subst e; simp at hn
    obtain ⟨g1, g2⟩ := pk3_inv a (by omega) b (by omega) c (by omega) hab hac hbc
    exact ⟨inv3 a b c, g1, g2⟩
  | _ :: _ :: _ :: _ :: _, _, h3, _, _ => simp at h3

theorem bytesLess_irrefl : ∀ l : List UInt8, Op.bytesLess l l = false
  | [] => rfl
  | x :: l => by
    have := bytesLess_irrefl l
    simp [Op.bytesLess, this]
theorem slt_irrefl (s : Str) : slt s s = false := bytesLess_irrefl _
def lstM (F : Nat → GBlock) : Nat → GBlock
  | 0 => F 0
  | n + 1 => bif slt (textM (F (n + 1))) (textM (lstM F n)) then F (n + 1) else lstM F n
def ixM (F : Nat → GBlock) : Nat → Nat
  | 0 => 0
  | k + 1 => bif slt (textM (F k)) (textM (F (ixM F k))) then k else ixM F k
theorem ix_lst (F : Nat → GBlock) : ∀ k, F (ixM F (k + 1)) = lstM F k
  | 0 => by
    have : slt (textM (F 0)) (textM (F 0)) = false := slt_irrefl _
    simp [ixM, lstM, this]
  | k + 1 => by
    have ih := ix_lst F k
    rw [ixM, lstM, ih]
    cases slt (textM (F (k + 1))) (textM (lstM F k))
    · exact ih
    · rfl
theorem ixM_le (F : Nat → GBlock) : ∀ k, ixM F k ≤ k
  | 0 => Nat.le_refl _
  | k + 1 => by
    have := ixM_le F k
    unfold ixM
    cases slt (textM (F k)) (textM (F (ixM F k))) <;> simp <;> omega
theorem lst_congr {F G : Nat → GBlock} : ∀ {n : Nat}, (∀ k, k ≤ n → F k = G k) → lstM F n = lstM G n
  | 0, h => h 0 (Nat.le_refl _)
  | n + 1, h => by rw [lstM, lstM, lst_congr (n := n) fun k hk => h k (by omega), h (n + 1) (Nat.le_refl _)]
theorem lst_in (F : Nat → GBlock) : ∀ n, ∃ k, k ≤ n ∧ lstM F n = F k
  | 0 => ⟨0, Nat.le_refl _, rfl⟩
  | n + 1 => by
    obtain ⟨k, hk, e⟩ := lst_in F n
    unfold lstM
    cases slt (textM (F (n + 1))) (textM (lstM F n))
    · exact ⟨k, by omega, e⟩
    · exact ⟨n + 1, Nat.le_refl _, rfl⟩

def FormM (b : GBlock) : GBlock := bif BlockOkM b then lstM (fun k => SeenM b (k : Int)) 7 else ⟨0, []⟩
theorem seen_zero {b : GBlock} (h : BlockOkM b = true) : SeenM b ((0 : Nat) : Int) = b := by
  unfold SeenM
  rw [h]
  rfl
theorem form_ok {b : GBlock} (h : BlockOkM b = true) : BlockOkM (FormM b) = true ∧ (FormM b).Size = b.Size := by
  unfold FormM
  rw [h, cond_true]
  obtain ⟨k, hk, e⟩ := lst_in (fun k => SeenM b (k : Int)) 7
  rw [e]
  exact view_ok h (by omega)

def PattM (b : GBlock) : GBlock := bif BlockOkM b then lstM (fun k => PlainM (SeenM b (k : Int))) 7 else ⟨0, []⟩
theorem patt_ok {b : GBlock} (h : BlockOkM b = true) : BlockOkM (PattM b) = true ∧ (PattM b).Size = b.Size := by
  unfold PattM
  rw [h, cond_true]
  obtain ⟨k, hk, e⟩ := lst_in (fun k => PlainM (SeenM b (k : Int))) 7
  rw [e]
  obtain ⟨v1, v2⟩ := view_ok h (k := k) (by omega)
  obtain ⟨p1, p2⟩ := plain_ok v1
  exact ⟨p1, by rw [p2, v2]⟩

theorem grid_filter {α : Type} (w : Nat) (hw : 0 < w) (p : Nat → Nat → Bool) (F : Nat → Nat → α) : ∀ h, ((List.range (h * w)).filter fun i => p (i / w) (i % w)).map (fun i => F (i / w) (i % w)) = (List.range h).flatMap fun y => ((List.range w).filter (p y)).map (F y)
  | 0 => by simp
  | h + 1 => by
    have hd : ∀ i, i < w → (h * w + i) / w = h := fun i hi => by rw [Nat.mul_comm, Nat.mul_add_div hw, Nat.div_eq_of_lt hi]; rfl
    have hm : ∀ i, i < w → (h * w + i) % w = i := fun i hi => by rw [Nat.mul_comm, Nat.mul_add_mod, Nat.mod_eq_of_lt hi]
    rw [Nat.add_mul, Nat.one_mul, List.range_add, List.filter_append, List.map_append, grid_filter w hw p F h, List.range_succ, List.flatMap_append]
    congr 1
    simp only [List.flatMap_cons, List.flatMap_nil, List.append_nil, List.filter_map, List.map_map]
    have e1 : (List.range w).filter ((fun i => p (i / w) (i % w)) ∘ fun x => h * w + x) = (List.range w).filter (p h) := List.filter_congr fun i hi => by
      have hi' : i < w := by simpa using hi
      simp only [Function.comp, hd i hi', hm i hi']
    rw [e1]
    refine List.map_congr_left fun i hi => ?_
    have hi' : i < w := by
      have := (List.mem_filter.1 hi).1
      simpa using this
    simp only [Function.comp, hd i hi', hm i hi']

def txsM (F : Nat → GBlock) : Nat → List Str
  | 0 => []
  | n + 1 => putS (txsM F n) (textM (F n))
def newM (F : Nat → GBlock) (k : Nat) : Bool := (List.range k).all fun j => !SameBlockM (F j) (F k)
def frmM (F : Nat → GBlock) : Nat → Nat
  | 0 => 0
  | n + 1 => frmM F n + (bif newM F n then 1 else 0)
theorem seq_comm (s t : Str) : seq s t = seq t s := by simp only [seq, Bool.beq_comm]
theorem seq_iff {s t : Str} : seq s t = true ↔ s = t := by
  obtain ⟨a⟩ := s
  obtain ⟨b⟩ := t
  simp [seq]
theorem any_put (ks : List Str) (t u : Str) : (putS ks u).any (seq t) = (ks.any (seq t) || seq t u) := by
  unfold putS
  cases h : ks.any (seq u)
  · simp
  · rw [cond_true]
    cases h2 : seq t u
    · simp
    · obtain rfl := seq_iff.1 h2
      simp [h]
theorem any_txs {F : Nat → GBlock} (t : Str) : ∀ n, (txsM F n).any (seq t) = (List.range n).any fun j => seq t (textM (F j))
  | 0 => rfl
  | n + 1 => by rw [txsM, any_put, any_txs t n, List.range_succ, List.any_append]; simp
theorem txs_len {F : Nat → GBlock} (hF : ∀ k, k < 8 → BlockOkM (F k) = true) : ∀ n, n ≤ 8 → (txsM F n).length = frmM F n
  | 0, _ => rfl
  | n + 1, hn => by
    have ih := txs_len hF n (by omega)
    have e : newM F n = !(txsM F n).any (seq (textM (F n))) := by
      rw [any_txs, newM, List.not_any_eq_all_not]
      refine Bool.eq_iff_iff.2 ?_
      simp only [List.all_eq_true, List.mem_range]
      constructor
      · intro h j hj
        have := h j hj
        rw [← text_seq (hF j (by omega)) (hF n (by omega)), seq_comm] at this
        exact this
      · intro h j hj
        rw [← text_seq (hF j (by omega)) (hF n (by omega)), seq_comm]
        exact h j hj
    rw [txsM, frmM, e, putS, ← ih]
    cases (txsM F n).any (seq (textM (F n))) <;> simp
theorem frm_le (F : Nat → GBlock) : ∀ n, frmM F n ≤ n
  | 0 => Nat.le_refl _
  | n + 1 => by
    have := frm_le F n
    rw [frmM]
    cases newM F n <;> simp <;> omega
theorem txs_le (F : Nat → GBlock) : ∀ n, (txsM F n).length ≤ n
  | 0 => Nat.le_refl _
  | n + 1 => by
    have := txs_le F n
    rw [txsM, putS]
    cases (txsM F n).any (seq (textM (F n))) <;> simp <;> omega

/-- How many are not used below n. -/
def freeN (used : List Bool) : Nat → Nat
  | 0 => 0
  | n + 1 => freeN used n + (bif gx used n then 0 else 1)
theorem freeN_mono (used : List Bool) {a : Nat} : ∀ {b : Nat}, a ≤ b → freeN used a ≤ freeN used b
  | 0, h => by
    have : a = 0 := by omega
    rw [this]; exact Nat.le_refl _
  | b + 1, h => by
    rcases Nat.lt_or_ge a (b + 1) with h1 | h1
    · exact Nat.le_trans (freeN_mono used (b := b) (by omega)) (by rw [freeN]; omega)
    · have : a = b + 1 := by omega
      rw [this]; exact Nat.le_refl _
theorem freeN_le (used : List Bool) : ∀ n, freeN used n ≤ n
  | 0 => Nat.le_refl _
  | n + 1 => by
    have := freeN_le used n
    rw [freeN]
    cases gx used n <;> simp <;> omega

def nof : List Bool := List.replicate 6 false
/-- The picks by marks are the picks by cutting. -/
def chkB1 : Bool := (List.range 6).all fun i => freeN nof i == i && gx nof i == false && pkM [1] i six == [(i : Int)]
def secB (a b : Nat) : Nat := bif decide (b < a) then b else b + 1
def chkB2 : Bool := (List.range 30).all fun i => freeN nof (i / 5) == i / 5 && gx nof (i / 5) == false && freeN (nof.set (i / 5) true) (secB (i / 5) (i % 5)) == i % 5 && gx (nof.set (i / 5) true) (secB (i / 5) (i % 5)) == false && pkM [5, 1] i six == [((i / 5 : Nat) : Int), ((secB (i / 5) (i % 5) : Nat) : Int)] && decide (secB (i / 5) (i % 5) < 6)
def u3 (i : Nat) : List Bool := nof.set (i / 20) true
def s3 (i : Nat) : Nat := secB (i / 20) (i % 20 / 4)
def v3 (i : Nat) : List Bool := (u3 i).set (s3 i) true
def t3 (i : Nat) : Nat := (pkM [20, 4, 1] i six)[2]!.toNat
def chkB3 : Bool := (List.range 120).all fun i => freeN nof (i / 20) == i / 20 && gx nof (i / 20) == false && freeN (u3 i) (s3 i) == i % 20 / 4 && gx (u3 i) (s3 i) == false && freeN (v3 i) (t3 i) == i % 20 % 4 && gx (v3 i) (t3 i) == false && pkM [20, 4, 1] i six == [((i / 20 : Nat) : Int), ((s3 i : Nat) : Int), ((t3 i : Nat) : Int)] && decide (s3 i < 6) && decide (t3 i < 6)
theorem chkB1_ok : chkB1 = true := by decide +kernel
theorem chkB2_ok : chkB2 = true := by decide +kernel
theorem chkB3_ok : chkB3 = true := by decide +kernel

theorem forO_tot {S C : Type} {f : Nat → S → Option (Res S C)} (I : S → Prop) : ∀ (m k : Nat) (s : S), I s → (∀ j s, k ≤ j → j < k + m → I s → ∃ s', I s' ∧ (f j s = some (.next s') ∨ f j s = some (.brk s'))) → ∃ s', I s' ∧ forO f m k s = some (.inl s')
  | 0, _, s, hs, _ => ⟨s, hs, rfl⟩
  | m + 1, k, s, hs, h => by
    obtain ⟨s', hs', h1 | h1⟩ := h k s (Nat.le_refl _) (by omega) hs
    · obtain ⟨s2, h2, e2⟩ := forO_tot I m (k + 1) s' hs' fun j s hj hj2 => h j s (by omega) (by omega)
      exact ⟨s2, h2, by rw [forO, h1]; exact e2⟩
    · exact ⟨s', hs', by rw [forO, h1]; rfl⟩
theorem lpO_tot {S : Type} {f : Nat → S → Option (Res S Empty)} (I : S → Prop) {N : Nat} {s0 : S} (h0 : I s0) (h : ∀ j s, j < N → I s → ∃ s', I s' ∧ (f j s = some (.next s') ∨ f j s = some (.brk s'))) : ∃ s', I s' ∧ lpO f N s0 = some s' := by
  obtain ⟨s', h1, h2⟩ := forO_tot I N 0 s0 h0 fun j s _ hj => h j s (by omega)
  exact ⟨s', h1, by unfold lpO; rw [h2]; rfl⟩

/-- The cursor stands in the code. -/
def CurOk (c : List UInt8) (i : Int) : Prop := c.length ≤ 1048576 ∧ 0 ≤ i ∧ i ≤ c.length
theorem andI_255 (x : Int) : 0 ≤ andI x 255 ∧ andI x 255 ≤ 255 := by
  have h : (BitVec.ofInt 64 x &&& BitVec.ofInt 64 255).toNat ≤ 255 := by
    rw [BitVec.toNat_and]
    exact Nat.le_trans Nat.and_le_right (by decide)
  unfold andI
  rw [wr_of (by omega) (by omega)]
  omega
theorem u8_range (x : UInt8) : 0 ≤ (x.toNat : Int) ∧ (x.toNat : Int) ≤ 255 := by
  have := x.toNat_lt
  omega

theorem draw_New {c : List UInt8} (h : c.length ≤ 1048576) : ∃ g, spec_l01New c = some (0, g) ∧ CurOk c 0 := by
  obtain ⟨g, _, e⟩ := lpO_tot (f := spec_l01New_L1 c) (N := c.length) (s0 := wr (33041 + ((c.length : Nat) : Int))) (fun _ => True) trivial fun j s _ _ => by
    unfold spec_l01New_L1
    cases decide (((j : Nat) : Int) < 4000)
    · exact ⟨s, trivial, .inr rfl⟩
    · exact ⟨_, trivial, .inl rfl⟩
  refine ⟨g, ?_, h, by omega, by omega⟩
  unfold spec_l01New
  rw [gd_pos (by omega), e]
  rfl

theorem draw_Byte {c : List UInt8} {i g : Int} (h : CurOk c i) : ∃ x i' g', spec_l01Byte c i g = some (x, i', g') ∧ CurOk c i' ∧ 0 ≤ x ∧ x ≤ 255 := by
  obtain ⟨h0, h1, h2⟩ := h
  unfold spec_l01Byte
  by_cases hi : i < c.length
  · have e : decide (i < ((c.length : Nat) : Int)) = true := decide_eq_true hi
    simp only [e, cond_true]
    rw [gd_pos ⟨h1, hi⟩]
    have ew : wr (i + 1) = i + 1 := wr_of (by omega) (by omega)
    refine ⟨_, _, _, rfl, ⟨h0, ?_, ?_⟩, (andI_255 _).1, (andI_255 _).2⟩ <;> simp only [ew] <;> omega
  · have e : decide (i < ((c.length : Nat) : Int)) = false := decide_eq_false hi
    simp only [e, cond_false]
    exact ⟨_, _, _, rfl, ⟨h0, h1, h2⟩, (andI_255 _).1, (andI_255 _).2⟩

theorem draw_Below {c : List UInt8} {i g n : Int} (h : CurOk c i) (hn : n ≤ 1048576) : ∃ x i' g', spec_l01Below c i g n = some (x, i', g') ∧ CurOk c i' ∧ 0 ≤ x ∧ (0 < n → x < n) ∧ (n ≤ 0 → x = 0) := by
  unfold spec_l01Below
  by_cases h0 : n ≤ 0
  · rw [decide_eq_true h0, cond_true]
    exact ⟨0, i, g, rfl, h, by omega, by omega, fun _ => rfl⟩
  rw [decide_eq_false h0, cond_false]
  by_cases h1 : n ≤ 256
  · obtain ⟨x, i1, g1, e, hc, x0, x1⟩ := draw_Byte (g := g) h
    rw [decide_eq_true h1, cond_true, e]
    simp only [Option.bind_some]
    rw [gd_pos (by omega)]
    have hr := Int.tmod_lt_of_pos x (show 0 < n by omega)
    have hr0 := Int.tmod_nonneg n x0
    exact ⟨_, _, _, rfl, hc, hr0, fun _ => hr, fun hh => absurd hh (by omega)⟩
  · obtain ⟨x, i1, g1, e1, c1, x0, x1⟩ := draw_Byte (g := g) h
    obtain ⟨y, i2, g2, e2, c2, y0, y1⟩ := draw_Byte (g := g1) c1
    obtain ⟨z, i3, g3, e3, c3, z0, z1⟩ := draw_Byte (g := g2) c2
    obtain ⟨u, i4, g4, e4, c4, u0, u1⟩ := draw_Byte (g := g3) c3
    rw [decide_eq_false h1, cond_false, e1]
    simp only [Option.bind_some, e2, e3, e4]
    rw [gd_pos (by omega)]
    have w1 : wr (x * 16777216) = x * 16777216 := wr_of (by omega) (by omega)
    have w2 : wr (y * 65536) = y * 65536 := wr_of (by omega) (by omega)
    have w3 : wr (z * 256) = z * 256 := wr_of (by omega) (by omega)
    have w4 : wr (x * 16777216 + y * 65536) = x * 16777216 + y * 65536 := wr_of (by omega) (by omega)
    have w5 : wr (x * 16777216 + y * 65536 + z * 256) = x * 16777216 + y * 65536 + z * 256 := wr_of (by omega) (by omega)
    have w6 : wr (x * 16777216 + y * 65536 + z * 256 + u) = x * 16777216 + y * 65536 + z * 256 + u := wr_of (by omega) (by omega)
    have hr := Int.tmod_lt_of_pos (x * 16777216 + y * 65536 + z * 256 + u) (show 0 < n by omega)
    have hr0 := Int.tmod_nonneg n (show 0 ≤ x * 16777216 + y * 65536 + z * 256 + u by omega)
    refine ⟨_, _, _, rfl, c4, ?_, fun _ => ?_, fun hh => absurd hh (by omega)⟩
    · simp only [w1, w2, w3, w4, w5, w6]; exact hr0
    · simp only [w1, w2, w3, w4, w5, w6]; exact hr

theorem forO_inv {S C : Type} {f : Nat → S → Option (Res S C)} (I : Nat → S → Prop) : ∀ (m k : Nat) (s : S), I k s → (∀ j s, k ≤ j → j < k + m → I j s → ∃ s', I (j + 1) s' ∧ f j s = some (.next s')) → ∃ s', I (k + m) s' ∧ forO f m k s = some (.inl s')
  | 0, _, s, hs, _ => ⟨s, hs, rfl⟩
  | m + 1, k, s, hs, h => by
    obtain ⟨s', hs', h1⟩ := h k s (Nat.le_refl _) (by omega) hs
    obtain ⟨s2, h2, e2⟩ := forO_inv I m (k + 1) s' hs' fun j s hj hj2 => h j s (by omega) (by omega)
    exact ⟨s2, by rw [show k + (m + 1) = k + 1 + m by omega]; exact h2, by rw [forO, h1]; exact e2⟩
theorem lpO_inv2 {S : Type} {f : Nat → S → Option (Res S Empty)} (I : Nat → S → Prop) {N : Nat} {s0 : S} (h0 : I 0 s0) (h : ∀ j s, j < N → I j s → ∃ s', I (j + 1) s' ∧ f j s = some (.next s')) : ∃ s', I N s' ∧ lpO f N s0 = some s' := by
  obtain ⟨s', h1, h2⟩ := forO_inv I N 0 s0 h0 fun j s _ hj => h j s (by omega)
  exact ⟨s', by rw [Nat.zero_add] at h1; exact h1, by unfold lpO; rw [h2]; rfl⟩

theorem draw_Cell {c : List UInt8} {i g : Int} (h : CurOk c i) : ∃ x i' g', spec_l02Cell c i g = some (x, i', g') ∧ CurOk c i' ∧ CellOkM x = true := by
  obtain ⟨x, i1, g1, e1, c1, _⟩ := draw_Below (g := g) (n := 3) h (by omega)
  obtain ⟨y, i2, g2, e2, c2, _⟩ := draw_Below (g := g1) (n := 3) c1 (by omega)
  obtain ⟨z, i3, g3, e3, c3, _⟩ := draw_Below (g := g2) (n := 3) c2 (by omega)
  unfold spec_l02Cell
  rw [e1]
  simp only [Option.bind_some, e2, e3, spec_SplitCell_eq]
  exact ⟨_, _, _, rfl, c3, splitCell_ok _ _ _⟩

theorem draw_at {c : List UInt8} (h : c.length ≤ 1048576) {i : Int} (h0 : 0 ≤ i) (h1 : i ≤ 1000) : ∃ x, laws_at c i = some x ∧ 0 ≤ x ∧ x ≤ 255 := by
  unfold laws_at
  cases hc : ((c.length : Nat) : Int) == 0
  · have hne : ((c.length : Nat) : Int) ≠ 0 := by simpa using hc
    have e1 : wr (i * 5) = i * 5 := wr_of (by omega) (by omega)
    have e2 : wr (i * 5 + 1) = i * 5 + 1 := wr_of (by omega) (by omega)
    have r0 := Int.tmod_nonneg ((c.length : Nat) : Int) (show 0 ≤ i * 5 + 1 by omega)
    have r1 := Int.tmod_lt_of_pos (i * 5 + 1) (show 0 < ((c.length : Nat) : Int) by omega)
    simp only [cond_false, e1, e2]
    rw [gd_pos hne, gd_pos ⟨r0, r1⟩]
    exact ⟨_, rfl, (u8_range _).1, (u8_range _).2⟩
  · exact ⟨0, rfl, by omega, by omega⟩

/-- A valid list that gives different colors for different colors. -/
def InjM (l : List Int) : Prop := ListOkM l = true ∧ l.Nodup
theorem list_gx {l : List Int} (h : ListOkM l = true) {x : Int} (h0 : 0 ≤ x) (h1 : x ≤ 5) : 0 ≤ gx l x.toNat ∧ gx l x.toNat ≤ 5 := by
  obtain ⟨hl, hr⟩ := listOk_spec h
  exact hr _ (gx_mem (by omega))
theorem inj_gx {l : List Int} (h : InjM l) {x y : Int} (hx0 : 0 ≤ x) (hx1 : x ≤ 5) (hy0 : 0 ≤ y) (hy1 : y ≤ 5) : (gx l x.toNat == gx l y.toNat) = (x == y) := by
  obtain ⟨hl, hr⟩ := listOk_spec h.1
  rw [Bool.eq_iff_iff, beq_iff_eq, beq_iff_eq]
  constructor
  · intro e
    rw [gx_lt (by omega), gx_lt (by omega)] at e
    have := (List.getElem_inj h.2).1 e
    omega
  · rintro rfl; rfl
/-- A cell under a list that gives different colors for different colors. -/
theorem exCell_inj {c : GCell} (hc : CellOkM c = true) {l : List Int} (h : InjM l) : ExchangeCellM c l = ⟨c.Split, gx l c.A.toNat, gx l c.B.toNat⟩ := by
  obtain ⟨c1, c2, c3, c4, c5, c6, c7⟩ := cellOk_spec hc
  have hA := list_gx h.1 c3 c4
  have hB := list_gx h.1 c5 c6
  have he := inj_gx h c3 c4 c5 c6
  unfold ExchangeCellM
  rw [hc, h.1]
  simp only [Bool.and_self, cond_true]
  unfold SplitCellM
  rw [he]
  cases hab : c.A == c.B
  · have hne : c.A ≠ c.B := by simpa using hab
    have h2 : CellOkM ⟨c.Split, gx l c.A.toNat, gx l c.B.toNat⟩ = true := cellOk_of c1 c2 hA.1 hA.2 hB.1 hB.2 (by
      have : gx l c.A.toNat ≠ gx l c.B.toNat := by
        rw [hab] at he
        simpa using he
      constructor
      · intro h0; exact absurd (c7.1 h0) hne
      · intro h0; exact absurd h0 this)
    rw [cond_false, h2]; rfl
  · have heq : c.A = c.B := by simpa using hab
    have h0 := c7.2 heq
    rw [cond_true, WholeCellM, inR_iff.2 ⟨hA.1, hA.2⟩, cond_true, h0, heq]

theorem exB_inj_cells {b : GBlock} (hb : BlockOkM b = true) {l : List Int} (h : InjM l) : (exB l b).Cells = b.Cells.map fun c => ⟨c.Split, gx l c.A.toNat, gx l c.B.toNat⟩ := by
  obtain ⟨n, hn, h1, h2, hl, hc⟩ := blockOk_spec hb
  exact List.map_congr_left fun c hm => exCell_inj (hc c hm) h
/-- What an exchange and another undo. -/
theorem exB_undo {b : GBlock} (hb : BlockOkM b = true) {l m : List Int} (hl : InjM l) (hm : InjM m) (h : ∀ x : Int, 0 ≤ x → x ≤ 5 → gx m (gx l x.toNat).toNat = x) : exB m (exB l b) = b := by
  obtain ⟨n, hn, h1, h2, hlen, hc⟩ := blockOk_spec hb
  have e1 := exB_inj_cells hb hl
  have e2 := exB_inj_cells (exB_ok hb l) hm
  have e3 : (exB m (exB l b)).Cells = b.Cells := by
    rw [e2, e1, List.map_map]
    have : ∀ c ∈ b.Cells, ((fun c : GCell => (⟨c.Split, gx m c.A.toNat, gx m c.B.toNat⟩ : GCell)) ∘ fun c : GCell => (⟨c.Split, gx l c.A.toNat, gx l c.B.toNat⟩ : GCell)) c = c := fun c hcm => by
      obtain ⟨c1, c2, c3, c4, c5, c6, c7⟩ := cellOk_spec (hc c hcm)
      simp only [Function.comp, h c.A c3 c4, h c.B c5 c6]
    rw [List.map_congr_left this, List.map_id']
  have e4 : (exB m (exB l b)).Size = b.Size := rfl
  calc exB m (exB l b) = ⟨(exB m (exB l b)).Size, (exB m (exB l b)).Cells⟩ := rfl
    _ = ⟨b.Size, b.Cells⟩ := by rw [e3, e4]
    _ = b := rfl
/-- The area of a color behind an exchange. -/
theorem area_exB {b : GBlock} (hb : BlockOkM b = true) {l : List Int} (hl : InjM l) {x : Int} (h0 : 0 ≤ x) (h1 : x ≤ 5) : AreaM (exB l b) (gx l x.toNat) = AreaM b x := by
  obtain ⟨n, hn, n1, n2, hlen, hc⟩ := blockOk_spec hb
  unfold AreaM
  rw [exB_ok hb l, hb, cond_true, cond_true, exB_inj_cells hb hl, List.map_map]
  congr 1
  refine List.map_congr_left fun c hcm => ?_
  obtain ⟨c1, c2, c3, c4, c5, c6, c7⟩ := cellOk_spec (hc c hcm)
  simp only [Function.comp, arM, inj_gx hl c3 c4 h0 h1, inj_gx hl c5 c6 h0 h1]

/-- The colors of a block by their first uses. -/
def firstsM (b : GBlock) : List Int := (useSeq b).foldl addU []
theorem ord6_eq (b : GBlock) : ord6 b = six.foldl addU (firstsM b) := by unfold ord6 firstsM; rw [List.foldl_append]
theorem firsts_nodup (b : GBlock) : (firstsM b).Nodup := (fold_addU (useSeq b) [] (by simp)).1
theorem mem_firsts {b : GBlock} {x : Int} : x ∈ firstsM b ↔ x ∈ useSeq b := by
  unfold firstsM
  rw [(fold_addU (useSeq b) [] (by simp)).2]
  simp
theorem useSeq_in {b : GBlock} (h : BlockOkM b = true) {x : Int} (hx : x ∈ useSeq b) : 0 ≤ x ∧ x ≤ 5 := by
  obtain ⟨n, hn, h1, h2, hl, hc⟩ := blockOk_spec h
  obtain ⟨c, hm, e⟩ := mem_useSeq.1 hx
  obtain ⟨c1, c2, c3, c4, c5, c6, _⟩ := cellOk_spec (hc c hm)
  rcases e with rfl | rfl <;> omega
/-- What is added stands behind what was there. -/
theorem fold_addU_pre : ∀ (l acc : List Int), ∃ r, l.foldl addU acc = acc ++ r
  | [], acc => ⟨[], by simp⟩
  | a :: l, acc => by
    obtain ⟨r, hr⟩ := fold_addU_pre l (addU acc a)
    rw [List.foldl_cons, hr]
    unfold addU
    cases acc.contains a
    · exact ⟨a :: r, by simp⟩
    · exact ⟨r, rfl⟩
theorem fold_addU_map {F : Int → Int} (S : Int → Prop) (hF : ∀ x y, S x → S y → F x = F y → x = y) : ∀ (l acc : List Int), (∀ x ∈ l, S x) → (∀ x ∈ acc, S x) → (l.map F).foldl addU (acc.map F) = (l.foldl addU acc).map F
  | [], acc, _, _ => rfl
  | a :: l, acc, hl, ha => by
    have e : addU (acc.map F) (F a) = (addU acc a).map F := by
      have hc : (acc.map F).contains (F a) = acc.contains a := by
        rw [Bool.eq_iff_iff, List.contains_iff_mem, List.contains_iff_mem, List.mem_map]
        constructor
        · rintro ⟨x, hx, he⟩
          rw [← hF x a (ha x hx) (hl a (by simp)) he]; exact hx
        · intro h; exact ⟨a, h, rfl⟩
      unfold addU
      rw [hc]
      cases acc.contains a <;> simp
    rw [List.map_cons, List.foldl_cons, List.foldl_cons, e]
    refine fold_addU_map S hF l _ (fun x hx => hl x (by simp [hx])) fun x hx => ?_
    rcases addU_mem.1 hx with h | rfl
    · exact ha x h
    · exact hl _ (by simp)

theorem firstUse_gx {b : GBlock} (h : BlockOkM b = true) {x : Int} (h0 : 0 ≤ x) (h1 : x ≤ 5) : gx (FirstUseM b) x.toNat = idxM (ord6 b) x := by
  have e : FirstUseM b = (List.range 6).map fun a : Nat => idxM (ord6 b) (a : Int) := by simp [FirstUseM, h]
  rw [e, gx_range _ (by omega)]
  congr 1
  omega
theorem firstUse_used {b : GBlock} (h : BlockOkM b = true) {x : Int} (hx : x ∈ useSeq b) : gx (FirstUseM b) x.toNat = idxM (firstsM b) x := by
  obtain ⟨r0, r1⟩ := useSeq_in h hx
  obtain ⟨r, hr⟩ := fold_addU_pre six (firstsM b)
  have hn := (ord6_ok h).1
  rw [firstUse_gx h r0 r1]
  rw [ord6_eq, hr] at hn ⊢
  exact idxM_append r hn (mem_firsts.2 hx)
theorem firstUse_inj {b : GBlock} (h : BlockOkM b = true) : InjM (FirstUseM b) := by
  refine ⟨firstUse_ok h, ?_⟩
  obtain ⟨g1, g2, g3⟩ := ord6_ok h
  have e : FirstUseM b = (List.range 6).map fun a : Nat => idxM (ord6 b) (a : Int) := by simp [FirstUseM, h]
  rw [e]
  unfold List.Nodup
  rw [List.pairwise_map]
  refine List.Pairwise.imp_of_mem (fun {x y} hx hy hne hxy => hne ?_) (List.nodup_range (n := 6))
  have hx6 : x < 6 := by simpa using hx
  have hy6 : y < 6 := by simpa using hy
  rcases idxM_cases (ord6 b) (x : Int) with ⟨k1, _⟩ | ⟨k, k1, k2, k3⟩
  · exact absurd ((g2 _).2 ⟨by omega, by omega⟩) k1
  rcases idxM_cases (ord6 b) (y : Int) with ⟨m1, _⟩ | ⟨m, m1, m2, m3⟩
  · exact absurd ((g2 _).2 ⟨by omega, by omega⟩) m1
  have : k = m := by omega
  subst this
  omega

theorem useSeq_exB {b : GBlock} (hb : BlockOkM b = true) {l : List Int} (hl : InjM l) : useSeq (exB l b) = (useSeq b).map fun x => gx l x.toNat := by
  unfold useSeq
  rw [exB_inj_cells hb hl, List.flatMap_map, List.map_flatMap]
  rfl
theorem firsts_exB {b : GBlock} (hb : BlockOkM b = true) {l : List Int} (hl : InjM l) : firstsM (exB l b) = (firstsM b).map fun x => gx l x.toNat := by
  unfold firstsM
  rw [useSeq_exB hb hl]
  exact fold_addU_map (F := fun x => gx l x.toNat) (fun x => 0 ≤ x ∧ x ≤ 5) (fun x y hx hy e => by
    have := inj_gx hl hx.1 hx.2 hy.1 hy.2
    have e2 : (gx l x.toNat == gx l y.toNat) = true := by simpa using e
    rw [e2] at this
    simpa using this.symm) (useSeq b) [] (fun x hx => useSeq_in hb hx) (by simp)

/-- The plain block of an exchanged block is that of the block. -/
theorem plain_exB {b : GBlock} (hb : BlockOkM b = true) {l : List Int} (hl : InjM l) : exB (FirstUseM (exB l b)) (exB l b) = exB (FirstUseM b) b := by
  have hx := exB_ok hb l
  have hs : (exB (FirstUseM (exB l b)) (exB l b)).Size = (exB (FirstUseM b) b).Size := rfl
  have hc : (exB (FirstUseM (exB l b)) (exB l b)).Cells = (exB (FirstUseM b) b).Cells := by
    rw [exB_inj_cells hx (firstUse_inj hx), exB_inj_cells hb (firstUse_inj hb), exB_inj_cells hb hl, List.map_map]
    have key : ∀ x, x ∈ useSeq b → gx (FirstUseM (exB l b)) (gx l x.toNat).toNat = gx (FirstUseM b) x.toNat := fun x hu => by
      have hu' : gx l x.toNat ∈ useSeq (exB l b) := by rw [useSeq_exB hb hl]; exact List.mem_map.2 ⟨x, hu, rfl⟩
      rw [firstUse_used hx hu', firstUse_used hb hu, firsts_exB hb hl]
      rcases idxM_cases (firstsM b) x with ⟨k1, _⟩ | ⟨k, k1, k2, k3⟩
      · exact absurd (mem_firsts.2 hu) k1
      have hn : ((firstsM b).map fun x => gx l x.toNat).Nodup := by rw [← firsts_exB hb hl]; exact firsts_nodup _
      have := idxM_of hn (k := k) (by simpa using k1)
      have e : gx ((firstsM b).map fun x => gx l x.toNat) k = gx l x.toNat := by
        rw [gx_lt (by simpa using k1), List.getElem_map, ← gx_lt k1, k3]
      rw [e] at this
      rw [this, k2]
    refine List.map_congr_left fun c hm => ?_
    simp only [Function.comp]
    rw [key c.A (mem_useSeq.2 ⟨c, hm, .inl rfl⟩), key c.B (mem_useSeq.2 ⟨c, hm, .inr rfl⟩)]
  calc exB (FirstUseM (exB l b)) (exB l b) = ⟨(exB (FirstUseM (exB l b)) (exB l b)).Size, (exB (FirstUseM (exB l b)) (exB l b)).Cells⟩ := rfl
    _ = ⟨(exB (FirstUseM b) b).Size, (exB (FirstUseM b) b).Cells⟩ := by rw [hs, hc]
    _ = exB (FirstUseM b) b := rfl

theorem nodup_sub : ∀ (l m : List Int), l.Nodup → (∀ y ∈ l, y ∈ m) → l.length ≤ m.length
  | [], _, _, _ => by simp
  | a :: l, m, hn, h => by
    rw [List.nodup_cons] at hn
    have ha := h a (by simp)
    have := nodup_sub l (m.erase a) hn.2 fun y hy => (List.mem_erase_of_ne (fun e : y = a => hn.1 (by rw [← e]; exact hy))).2 (h y (by simp [hy]))
    have hpos := List.length_pos_of_mem ha
    rw [List.length_erase_of_mem ha] at this
    simp only [List.length_cons]
    omega
theorem mem_of_inj {l : List Int} (h : InjM l) (x : Int) : x ∈ l ↔ 0 ≤ x ∧ x ≤ 5 := by
  obtain ⟨hl, hr⟩ := listOk_spec h.1
  constructor
  · exact hr x
  · intro hx
    refine Classical.byContradiction fun hn => ?_
    have := nodup_sub (x :: l) six (List.nodup_cons.2 ⟨hn, h.2⟩) fun y hy => by
      rcases List.mem_cons.1 hy with rfl | hy
      · exact mem_six.2 hx
      · exact mem_six.2 (hr y hy)
    simp [hl, six] at this
def undoM (l : List Int) : List Int := (List.range 6).map fun a : Nat => idxM l (a : Int)
theorem undo_inj {l : List Int} (h : InjM l) : InjM (undoM l) ∧ ∀ x : Int, 0 ≤ x → x ≤ 5 → gx (undoM l) (gx l x.toNat).toNat = x := by
  obtain ⟨hl, hr⟩ := listOk_spec h.1
  have hmem := mem_of_inj h
  have hix : ∀ a : Nat, a < 6 → ∃ k : Nat, k < 6 ∧ idxM l (a : Int) = k ∧ gx l k = a := fun a ha => by
    rcases idxM_cases l (a : Int) with ⟨k1, _⟩ | ⟨k, k1, k2, k3⟩
    · exact absurd ((hmem _).2 ⟨by omega, by omega⟩) k1
    · exact ⟨k, by omega, k2, k3⟩
  refine ⟨⟨listOk_of (by simp [undoM]) fun a ha => ?_, ?_⟩, fun x h0 h1 => ?_⟩
  · simp only [undoM, List.mem_map, List.mem_range] at ha
    obtain ⟨y, hy, rfl⟩ := ha
    obtain ⟨k, k1, k2, _⟩ := hix y hy
    omega
  · unfold undoM List.Nodup
    rw [List.pairwise_map]
    refine List.Pairwise.imp_of_mem (fun {x y} hx hy hne hxy => hne ?_) (List.nodup_range (n := 6))
    obtain ⟨k, k1, k2, k3⟩ := hix x (by simpa using hx)
    obtain ⟨m, m1, m2, m3⟩ := hix y (by simpa using hy)
    have : k = m := by omega
    subst this
    omega
  · obtain ⟨g0, g1⟩ := list_gx h.1 h0 h1
    unfold undoM
    rw [gx_range _ (by omega)]
    have e : (((gx l x.toNat).toNat : Nat) : Int) = gx l x.toNat := by omega
    rw [e, idxM_of h.2 (by omega)]
    omega

/-- A valid block is its size and its cells at their places. -/
theorem block_ext {b d : GBlock} (hb : BlockOkM b = true) (hd : BlockOkM d = true) (hs : b.Size = d.Size) (h : ∀ n : Nat, b.Size = n → ∀ y x, y < n → x < n → gx b.Cells (y * n + x) = gx d.Cells (y * n + x)) : b = d := by
  obtain ⟨n, hn, h1, h2, hl, hc⟩ := blockOk_spec hb
  obtain ⟨m, hm, _, _, gl, gc⟩ := blockOk_spec hd
  have hnm : n = m := by omega
  subst hnm
  have hcells : b.Cells = d.Cells := by
    refine gx_ext (by rw [hl, gl]) fun k hk => ?_
    have hq : k / n < n := Nat.div_lt_of_lt_mul (by rw [hl] at hk; exact hk)
    have hr : k % n < n := Nat.mod_lt _ (by omega)
    have e : k / n * n + k % n = k := by rw [Nat.mul_comm]; exact Nat.div_add_mod k n
    have := h n hn (k / n) (k % n) hq hr
    rwa [e] at this
  cases b; cases d
  simp only at hs hcells
  rw [hs, hcells]
theorem turn_gx {b : GBlock} (hb : BlockOkM b = true) {n : Nat} (hn : b.Size = n) {y x : Nat} (hy : y < n) (hx : x < n) : gx (TurnBlockM b).Cells (y * n + x) = TurnCellM (gx b.Cells ((n - 1 - x) * n + y)) := by
  unfold TurnBlockM
  rw [hb, hn]
  simp only [cond_true, Int.toNat_natCast]
  exact cellsM_gx hy hx
theorem mirror_gx {b : GBlock} (hb : BlockOkM b = true) {n : Nat} (hn : b.Size = n) {y x : Nat} (hy : y < n) (hx : x < n) : gx (MirrorBlockM b).Cells (y * n + x) = MirrorCellM (gx b.Cells (y * n + (n - 1 - x))) := by
  unfold MirrorBlockM
  rw [hb, hn]
  simp only [cond_true, Int.toNat_natCast]
  exact cellsM_gx hy hx
theorem cell_gx {b : GBlock} (hb : BlockOkM b = true) {n : Nat} (hn : b.Size = n) {y x : Nat} (hy : y < n) (hx : x < n) : CellOkM (gx b.Cells (y * n + x)) = true := by
  obtain ⟨m, hm, _, _, hl, hc⟩ := blockOk_spec hb
  have : n = m := by omega
  subst this
  exact hc _ (gx_mem (by rw [hl]; exact idx_lt hy hx))

theorem split_cases {c : GCell} (h : CellOkM c = true) : c.Split = 0 ∨ c.Split = 1 ∨ c.Split = 2 := by
  obtain ⟨h1, h2, _⟩ := cellOk_spec h
  omega
theorem turn2_cell {c : GCell} (h : CellOkM c = true) : TurnCellM (TurnCellM c) = ⟨c.Split, c.B, c.A⟩ := by
  have ht := turnCell_ok h
  obtain ⟨_, _, _, _, _, _, h7⟩ := cellOk_spec h
  have e1 : TurnCellM c = (bif c.Split == 1 then ⟨2, c.B, c.A⟩ else bif c.Split == 2 then ⟨1, c.A, c.B⟩ else c) := by unfold TurnCellM; rw [h]; rfl
  rw [e1] at ht ⊢
  obtain ⟨s, a, b⟩ := c
  rcases split_cases h with e | e | e <;> simp only at e h7 <;> subst e
  · have := h7.1 rfl
    subst this
    show TurnCellM ⟨0, a, a⟩ = _
    unfold TurnCellM
    rw [h]; rfl
  · show TurnCellM ⟨2, b, a⟩ = _
    unfold TurnCellM
    rw [show CellOkM ⟨2, b, a⟩ = true from ht]; rfl
  · show TurnCellM ⟨1, a, b⟩ = _
    unfold TurnCellM
    rw [show CellOkM ⟨1, a, b⟩ = true from ht]; rfl
theorem turn4_cell {c : GCell} (h : CellOkM c = true) : TurnCellM (TurnCellM (TurnCellM (TurnCellM c))) = c := by
  have h2 := turnCell_ok (turnCell_ok h)
  rw [turn2_cell h2, turn2_cell h]
theorem mirror_cell {c : GCell} (h : CellOkM c = true) : MirrorCellM c = bif c.Split == 0 then c else ⟨3 - c.Split, c.B, c.A⟩ := by unfold MirrorCellM; rw [h]; rfl
theorem mirror2_cell {c : GCell} (h : CellOkM c = true) : MirrorCellM (MirrorCellM c) = c := by
  have hm := mirrorCell_ok h
  rw [mirror_cell hm, mirror_cell h]
  obtain ⟨s, a, b⟩ := c
  rcases split_cases h with e | e | e <;> simp only at e <;> subst e <;> rfl
theorem tmt_cell {c : GCell} (h : CellOkM c = true) : TurnCellM (MirrorCellM (TurnCellM c)) = MirrorCellM c := by
  have ht := turnCell_ok h
  have hm := mirrorCell_ok ht
  have e1 : TurnCellM c = (bif c.Split == 1 then ⟨2, c.B, c.A⟩ else bif c.Split == 2 then ⟨1, c.A, c.B⟩ else c) := by unfold TurnCellM; rw [h]; rfl
  rw [mirror_cell ht] at hm ⊢
  rw [mirror_cell h]
  unfold TurnCellM at hm ⊢
  rw [h] at hm ⊢
  simp only [cond_true] at hm ⊢
  rw [hm]
  obtain ⟨s, a, b⟩ := c
  rcases split_cases h with e | e | e <;> simp only at e <;> subst e <;> rfl

theorem turn4 {b : GBlock} (hb : BlockOkM b = true) : TurnBlockM (TurnBlockM (TurnBlockM (TurnBlockM b))) = b := by
  have o1 := turnBlock_ok hb
  have o2 := turnBlock_ok o1
  have o3 := turnBlock_ok o2
  have o4 := turnBlock_ok o3
  have s1 := turnBlock_size _ hb
  have s2 := turnBlock_size _ o1
  have s3 := turnBlock_size _ o2
  have s4 := turnBlock_size _ o3
  refine block_ext o4 hb (by rw [s4, s3, s2, s1]) fun n hn y x hy hx => ?_
  have n1 : (TurnBlockM (TurnBlockM (TurnBlockM b))).Size = n := by rw [← hn, s4]
  have n2 : (TurnBlockM (TurnBlockM b)).Size = n := by rw [← n1, s3]
  have n3 : (TurnBlockM b).Size = n := by rw [← n2, s2]
  have n4 : b.Size = n := by rw [← n3, s1]
  rw [turn_gx o3 n1 hy hx, turn_gx o2 n2 (by omega) hy, turn_gx o1 n3 (by omega) (by omega), turn_gx hb n4 (by omega) (by omega)]
  have ey : n - 1 - (n - 1 - y) = y := by omega
  have ex : n - 1 - (n - 1 - x) = x := by omega
  rw [ey, ex]
  exact turn4_cell (cell_gx hb n4 hy hx)
theorem mirror2 {b : GBlock} (hb : BlockOkM b = true) : MirrorBlockM (MirrorBlockM b) = b := by
  have o1 := mirrorBlock_ok hb
  have o2 := mirrorBlock_ok o1
  have s1 := mirrorBlock_size _ hb
  have s2 := mirrorBlock_size _ o1
  refine block_ext o2 hb (by rw [s2, s1]) fun n hn y x hy hx => ?_
  have n1 : (MirrorBlockM b).Size = n := by rw [← hn, s2]
  have n2 : b.Size = n := by rw [← n1, s1]
  rw [mirror_gx o1 n1 hy hx, mirror_gx hb n2 hy (by omega)]
  have ex : n - 1 - (n - 1 - x) = x := by omega
  rw [ex]
  exact mirror2_cell (cell_gx hb n2 hy hx)
theorem tmt {b : GBlock} (hb : BlockOkM b = true) : TurnBlockM (MirrorBlockM (TurnBlockM b)) = MirrorBlockM b := by
  have o1 := turnBlock_ok hb
  have o2 := mirrorBlock_ok o1
  have o3 := turnBlock_ok o2
  have s1 := turnBlock_size _ hb
  have s2 := mirrorBlock_size _ o1
  have s3 := turnBlock_size _ o2
  refine block_ext o3 (mirrorBlock_ok hb) (by rw [s3, s2, s1, mirrorBlock_size _ hb]) fun n hn y x hy hx => ?_
  have n1 : (MirrorBlockM (TurnBlockM b)).Size = n := by rw [← hn, s3]
  have n2 : (TurnBlockM b).Size = n := by rw [← n1, s2]
  have n3 : b.Size = n := by rw [← n2, s1]
  rw [turn_gx o2 n1 hy hx, mirror_gx o1 n2 (by omega) hy, turn_gx hb n3 (by omega) (by omega), mirror_gx hb n3 hy hx]
  have ey : n - 1 - (n - 1 - y) = y := by omega
  rw [ey]
  exact tmt_cell (cell_gx hb n3 hy (by omega))

theorem turns_add (b : GBlock) (j : Nat) : ∀ k, turnsM (j + k) b = turnsM k (turnsM j b)
  | 0 => rfl
  | k + 1 => by
    show TurnBlockM (turnsM (j + k) b) = TurnBlockM (turnsM k (turnsM j b))
    rw [turns_add b j k]
theorem turns_four {b : GBlock} (hb : BlockOkM b = true) : turnsM 4 b = b := turn4 hb
theorem turns_mul {b : GBlock} (hb : BlockOkM b = true) (r : Nat) : ∀ q, turnsM (4 * q + r) b = turnsM r b
  | 0 => by rw [show 4 * 0 + r = r by omega]
  | q + 1 => by
    rw [show 4 * (q + 1) + r = 4 + (4 * q + r) by omega, turns_add, turns_four hb]
    exact turns_mul hb r q
theorem turns_mod {b : GBlock} (hb : BlockOkM b = true) (k : Nat) : turnsM (k % 4) b = turnsM k b := by
  have := turns_mul hb (k % 4) (k / 4)
  rw [Nat.div_add_mod] at this
  exact this.symm
theorem mirror_turn {b : GBlock} (hb : BlockOkM b = true) : MirrorBlockM (TurnBlockM b) = turnsM 3 (MirrorBlockM b) := by
  have o := mirrorBlock_ok (turnBlock_ok hb)
  have h := turn4 o
  rw [tmt hb] at h
  exact h.symm
theorem mirror_turns {b : GBlock} (hb : BlockOkM b = true) : ∀ i, MirrorBlockM (turnsM i b) = turnsM (3 * i) (MirrorBlockM b)
  | 0 => rfl
  | i + 1 => by
    show MirrorBlockM (TurnBlockM (turnsM i b)) = _
    rw [mirror_turn (turns_ok hb i).1, mirror_turns hb i, ← turns_add]
    congr 1

theorem seen_low {b : GBlock} (hb : BlockOkM b = true) {i : Nat} (hi : i < 4) : SeenM b (i : Int) = turnsM i b := by
  have h7 : inR (i : Int) 0 7 = true := inR_iff.2 ⟨by omega, by omega⟩
  have e1 : ((i : Int).tmod 4).toNat = i := by
    rw [Int.tmod_eq_emod_of_nonneg (by omega)]; omega
  have e2 : decide ((i : Int) ≥ 4) = false := decide_eq_false (by omega)
  unfold SeenM
  rw [hb, h7, e1, e2]; rfl
theorem seen_high {b : GBlock} (hb : BlockOkM b = true) {i : Nat} (h4 : 4 ≤ i) (hi : i < 8) : SeenM b (i : Int) = turnsM (i - 4) (MirrorBlockM b) := by
  have h7 : inR (i : Int) 0 7 = true := inR_iff.2 ⟨by omega, by omega⟩
  have e1 : ((i : Int).tmod 4).toNat = i - 4 := by
    rw [Int.tmod_eq_emod_of_nonneg (by omega)]; omega
  have e2 : decide ((i : Int) ≥ 4) = true := decide_eq_true (by omega)
  unfold SeenM
  rw [hb, h7, e1, e2]; rfl
/-- The number of the view of a view. -/
def prodN (i k : Nat) : Nat := if i < 4 ∧ k < 4 then (i + k) % 4 else if k < 4 then 4 + (i + k) % 4 else if i < 4 then 4 + (k + 4 - i) % 4 else (k + 4 - i) % 4
theorem prod_lt {i k : Nat} : prodN i k < 8 := by unfold prodN; split <;> (try split) <;> (try split) <;> omega
theorem seen_seen {b : GBlock} (hb : BlockOkM b = true) {i k : Nat} (hi : i < 8) (hk : k < 8) : SeenM (SeenM b (i : Int)) (k : Int) = SeenM b ((prodN i k : Nat) : Int) := by
  have hv := (view_ok hb hi).1
  have hm := mirrorBlock_ok hb
  unfold prodN
  by_cases h1 : i < 4
  · by_cases h2 : k < 4
    · rw [if_pos ⟨h1, h2⟩, seen_low hv h2, seen_low hb h1, seen_low hb (by omega), ← turns_add, turns_mod hb]
    · rw [if_neg (by omega), if_neg h2, if_pos h1, seen_high hv (by omega) hk, seen_low hb h1, mirror_turns hb, ← turns_add, seen_high hb (by omega) (by omega), Nat.add_sub_cancel_left, ← turns_mod hm]
      congr 1
      omega
  · by_cases h2 : k < 4
    · rw [if_neg (by omega), if_pos h2, seen_low hv h2, seen_high hb (by omega) hi, ← turns_add, seen_high hb (by omega) (by omega), Nat.add_sub_cancel_left, ← turns_mod hm]
      congr 1
      omega
    · rw [if_neg (by omega), if_neg h2, if_neg h1, seen_high hv (by omega) hk, seen_high hb (by omega) hi, mirror_turns hm, mirror2 hb, ← turns_add, seen_low hb (by omega), ← turns_mod hb]
      congr 1
      omega

theorem prod_assoc : ∀ i, i < 8 → ∀ k, k < 8 → ∀ m, m < 8 → prodN (prodN i k) m = prodN i (prodN k m) := by decide +kernel
def invN (i : Nat) : Nat := if i < 4 then (4 - i) % 4 else i
theorem prod_inv : ∀ i, i < 8 → invN i < 8 ∧ prodN i (invN i) = 0 ∧ prodN (invN i) i = 0 ∧ prodN i 0 = i ∧ prodN 0 i = i := by decide +kernel

/-- The views that leave a block as it is. -/
def stabM (b : GBlock) (k : Nat) : Bool := SameBlockM (SeenM b (k : Int)) b
theorem stab_iff {b : GBlock} {k : Nat} : stabM b k = true ↔ SeenM b (k : Int) = b := sameBlock_iff
theorem stab_prod {b : GBlock} (hb : BlockOkM b = true) {i k : Nat} (hi : i < 8) (hk : k < 8) (h1 : stabM b i = true) (h2 : stabM b k = true) : stabM b (prodN i k) = true := by
  rw [stab_iff] at h1 h2 ⊢
  rw [← seen_seen hb hi hk, h1, h2]
theorem same_view {b : GBlock} (hb : BlockOkM b = true) {j k : Nat} (hj : j < 8) (hk : k < 8) : SameBlockM (SeenM b (j : Int)) (SeenM b (k : Int)) = stabM b (prodN j (invN k)) := by
  obtain ⟨v1, v2, v3, v4, v5⟩ := prod_inv k hk
  rw [Bool.eq_iff_iff, sameBlock_iff, stab_iff, ← seen_seen hb hj v1]
  have h0 : SeenM b ((0 : Nat) : Int) = b := seen_zero hb
  constructor
  · intro h; rw [h, seen_seen hb hk v1, v2, h0]
  · intro h
    have := congrArg (fun d => SeenM d (k : Int)) h
    have this : SeenM (SeenM (SeenM b (j : Int)) ((invN k : Nat) : Int)) (k : Int) = SeenM b (k : Int) := this
    rw [seen_seen (view_ok hb hj).1 v1 hk, v3] at this
    rw [← this]
    have hz : SeenM (SeenM b (j : Int)) ((0 : Nat) : Int) = SeenM b (j : Int) := seen_zero (view_ok hb hj).1
    exact hz.symm

/-- How many of the eight are in S; how many are not led to one before by S. -/
def sizeS (S : Nat → Bool) : Nat := ((List.range 8).filter S).length
def formsS (S : Nat → Bool) : Nat := ((List.range 8).filter fun k => (List.range k).all fun j => !S (prodN j (invN k))).length
def closedS (S : Nat → Bool) : Bool := S 0 && (List.range 8).all fun i => (List.range 8).all fun k => !(S i && S k) || S (prodN i k)
theorem orbits : ∀ v, v < 256 → closedS (fun k => v.testBit k) = true → sizeS (fun k => v.testBit k) * formsS (fun k => v.testBit k) = 8 := by decide +kernel

def viewsL (S : Nat → Bool) : List Int := ((List.range 8).filter S).map fun k : Nat => (k : Int)
theorem mem_viewsL {S : Nat → Bool} {x : Int} : x ∈ viewsL S ↔ ∃ k : Nat, k < 8 ∧ S k = true ∧ x = (k : Int) := by
  simp only [viewsL, List.mem_map, List.mem_filter, List.mem_range]
  constructor
  · rintro ⟨k, ⟨h1, h2⟩, rfl⟩; exact ⟨k, h1, h2, rfl⟩
  · rintro ⟨k, h1, h2, rfl⟩; exact ⟨k, ⟨h1, h2⟩, rfl⟩
theorem viewsL_len (S : Nat → Bool) : (viewsL S).length = sizeS S := by simp [viewsL, sizeS]
theorem sizeS_le (S : Nat → Bool) : sizeS S ≤ 8 := by
  have := List.length_filter_le S (List.range 8)
  simpa [sizeS] using this
theorem viewsL_strict (S : Nat → Bool) : (viewsL S).Pairwise (· < ·) := by
  unfold viewsL
  rw [List.pairwise_map]
  exact (List.Pairwise.filter S List.pairwise_lt_range).imp fun h => by omega

def colS (b : GBlock) (k : Nat) : Bool := SameBlockM (PlainM (SeenM b (k : Int))) (PlainM b)
theorem colorSym_views {b : GBlock} (hb : BlockOkM b = true) : ColorSymM b = viewsL (colS b) := by unfold ColorSymM; rw [hb]; rfl
theorem stab_col {b : GBlock} {k : Nat} (h : stabM b k = true) : colS b k = true := by
  unfold colS
  rw [stab_iff.1 h]
  exact sameBlock_refl _
theorem plain_view {b : GBlock} (hb : BlockOkM b = true) : PlainM b = exB (FirstUseM b) b := by
  unfold PlainM
  rw [exB_eq hb (firstUse_ok hb)]
theorem col_prod {b : GBlock} (hb : BlockOkM b = true) {i k : Nat} (hi : i < 8) (hk : k < 8) (h1 : colS b i = true) (h2 : colS b k = true) : colS b (prodN i k) = true := by
  have hv := (view_ok hb hi).1
  have hw := (view_ok hb hk).1
  unfold colS at h1 h2 ⊢
  rw [sameBlock_iff] at h1 h2 ⊢
  rw [plain_view hv, plain_view hb] at h1
  -- the view is an exchange of the block
  have hu := firstUse_inj hv
  have hf := firstUse_inj hb
  obtain ⟨hui, hun⟩ := undo_inj hu
  have he : SeenM b (i : Int) = exB (undoM (FirstUseM (SeenM b (i : Int)))) (exB (FirstUseM b) b) := by
    rw [← h1, exB_undo hv hu hui hun]
  have hpl := exB_ok hb (FirstUseM b)
  have hvk := (view_ok hpl hk).1
  have e1 : SeenM (SeenM b (i : Int)) (k : Int) = exB (undoM (FirstUseM (SeenM b (i : Int)))) (exB (FirstUseM b) (SeenM b (k : Int))) := by
    rw [he, seen_exchange hpl hui.1 hk, seen_exchange hb hf.1 hk, ← he]
  have hx1 := exB_ok hw (FirstUseM b)
  rw [← seen_seen hb hi hk, e1, plain_view (exB_ok hx1 _), plain_exB hx1 hui, plain_exB hw hf, ← plain_view hw, h2]
theorem col_closed {b : GBlock} (hb : BlockOkM b = true) : closedS (colS b) = true := by
  unfold closedS
  rw [stab_col (stab_iff.2 (seen_zero hb))]
  simp only [Bool.true_and, List.all_eq_true, List.mem_range]
  intro i hi k hk
  cases h1 : colS b i
  · rfl
  cases h2 : colS b k
  · rfl
  simp [col_prod hb hi hk h1 h2]

theorem bytesLess_trans : ∀ {a b c : List UInt8}, Op.bytesLess a b = true → Op.bytesLess b c = true → Op.bytesLess a c = true
  | [], [], _, h, _ => by simp [Op.bytesLess] at h
  | [], _ :: _, [], _, h => by simp [Op.bytesLess] at h
  | [], _ :: _, _ :: _, _, _ => rfl
  | _ :: _, [], _, h, _ => by simp [Op.bytesLess] at h
  | _ :: _, _ :: _, [], _, h => by simp [Op.bytesLess] at h
  | x :: a, y :: b, z :: c, h1, h2 => by
    simp only [Op.bytesLess, Bool.or_eq_true, Bool.and_eq_true, decide_eq_true_iff, beq_iff_eq] at h1 h2 ⊢
    rcases h1 with h1 | ⟨rfl, h1⟩
    · rcases h2 with h2 | ⟨rfl, h2⟩
      · exact Or.inl (UInt8.lt_trans h1 h2)
      · exact Or.inl h1
    · rcases h2 with h2 | ⟨rfl, h2⟩
      · exact Or.inl h2
      · exact Or.inr ⟨rfl, bytesLess_trans h1 h2⟩
theorem bytesLess_total : ∀ {a b : List UInt8}, Op.bytesLess a b = false → Op.bytesLess b a = false → a = b
  | [], [], _, _ => rfl
  | [], _ :: _, h, _ => by simp [Op.bytesLess] at h
  | _ :: _, [], _, h => by simp [Op.bytesLess] at h
  | x :: a, y :: b, h1, h2 => by
    simp only [Op.bytesLess, Bool.or_eq_false_iff, Bool.and_eq_false_iff, decide_eq_false_iff_not, beq_eq_false_iff_ne] at h1 h2
    have hxy : x = y := UInt8.le_antisymm (UInt8.not_lt.1 h2.1) (UInt8.not_lt.1 h1.1)
    subst hxy
    have e1 := h1.2.resolve_left (fun h => h rfl)
    have e2 := h2.2.resolve_left (fun h => h rfl)
    rw [bytesLess_total e1 e2]

theorem slt_trans {a b c : Str} (h1 : slt a b = true) (h2 : slt b c = true) : slt a c = true := bytesLess_trans h1 h2
theorem slt_total {a b : Str} (h1 : slt a b = false) (h2 : slt b a = false) : a = b := by
  have := bytesLess_total h1 h2
  cases a; cases b; simp only at this; rw [this]
/-- The least of blocks is not behind any of them. -/
theorem lst_least (F : Nat → GBlock) : ∀ n k, k ≤ n → slt (textM (F k)) (textM (lstM F n)) = false
  | 0, k, hk => by
    have : k = 0 := by omega
    subst this
    exact slt_irrefl _
  | n + 1, k, hk => by
    unfold lstM
    cases h : slt (textM (F (n + 1))) (textM (lstM F n))
    · rw [cond_false]
      rcases Nat.lt_or_ge k (n + 1) with h1 | h1
      · exact lst_least F n k (by omega)
      · have : k = n + 1 := by omega
        subst this; exact h
    · rw [cond_true]
      rcases Nat.lt_or_ge k (n + 1) with h1 | h1
      · have ih := lst_least F n k (by omega)
        rw [Bool.eq_false_iff]
        intro hk2
        have := slt_trans hk2 h
        rw [this] at ih; cases ih
      · have : k = n + 1 := by omega
        subst this; exact slt_irrefl _
/-- Two lists with the same valid blocks have the same least one. -/
theorem lst_same {F G : Nat → GBlock} {n : Nat} (hF : ∀ k, k ≤ n → BlockOkM (F k) = true) (hG : ∀ k, k ≤ n → BlockOkM (G k) = true) (h1 : ∀ k, k ≤ n → ∃ j, j ≤ n ∧ F k = G j) (h2 : ∀ k, k ≤ n → ∃ j, j ≤ n ∧ G k = F j) : lstM F n = lstM G n := by
  obtain ⟨i, hi, ei⟩ := lst_in F n
  obtain ⟨j, hj, ej⟩ := lst_in G n
  obtain ⟨a, ha, ea⟩ := h1 i hi
  obtain ⟨c, hc, ec⟩ := h2 j hj
  have l1 := lst_least G n a ha
  have l2 := lst_least F n c hc
  rw [← ea, ← ei] at l1
  rw [← ec, ← ej] at l2
  have := slt_total l1 l2
  refine text_inj ?_ ?_ this
  · rw [ei]; exact hF i hi
  · rw [ej]; exact hG j hj

/-- Every view of a block is a view of each of its views. -/
theorem view_back {b : GBlock} (hb : BlockOkM b = true) {i k : Nat} (hi : i < 8) (hk : k < 8) : ∃ j : Nat, j ≤ 7 ∧ SeenM b (k : Int) = SeenM (SeenM b (i : Int)) (j : Int) := by
  obtain ⟨v1, v2, v3, v4, v5⟩ := prod_inv i hi
  refine ⟨prodN (invN i) k, by have := prod_lt (i := invN i) (k := k); omega, ?_⟩
  rw [seen_seen hb hi prod_lt, ← prod_assoc i hi (invN i) v1 k hk, v2, (prod_inv k hk).2.2.2.2]
theorem form_view {b : GBlock} (hb : BlockOkM b = true) {i : Nat} (hi : i < 8) : FormM (SeenM b (i : Int)) = FormM b := by
  have hv := (view_ok hb hi).1
  unfold FormM
  rw [hb, hv, cond_true, cond_true]
  refine lst_same (fun k hk => (view_ok hv (by omega)).1) (fun k hk => (view_ok hb (by omega)).1) (fun k hk => ?_) (fun k hk => view_back hb hi (by omega))
  exact ⟨prodN i k, by have := prod_lt (i := i) (k := k); omega, seen_seen hb hi (by omega)⟩

theorem plain_exB' {b : GBlock} (hb : BlockOkM b = true) {l : List Int} (hl : InjM l) : PlainM (exB l b) = PlainM b := by
  rw [plain_view (exB_ok hb l), plain_view hb, plain_exB hb hl]
theorem patt_exB {b : GBlock} (hb : BlockOkM b = true) {l : List Int} (hl : InjM l) : PattM (exB l b) = PattM b := by
  unfold PattM
  rw [exB_ok hb l, hb, cond_true, cond_true]
  refine lst_congr fun k hk => ?_
  show PlainM (SeenM (exB l b) (k : Int)) = PlainM (SeenM b (k : Int))
  rw [seen_exchange hb hl.1 (by omega), plain_exB' (view_ok hb (by omega)).1 hl]
theorem patt_view {b : GBlock} (hb : BlockOkM b = true) {i : Nat} (hi : i < 8) : PattM (SeenM b (i : Int)) = PattM b := by
  have hv := (view_ok hb hi).1
  unfold PattM
  rw [hb, hv, cond_true, cond_true]
  refine lst_same (fun k hk => (plain_ok (view_ok hv (by omega)).1).1) (fun k hk => (plain_ok (view_ok hb (by omega)).1).1) (fun k hk => ?_) (fun k hk => ?_)
  · exact ⟨prodN i k, by have := prod_lt (i := i) (k := k); omega, by show PlainM (SeenM (SeenM b (i : Int)) (k : Int)) = _; rw [seen_seen hb hi (by omega)]⟩
  · obtain ⟨j, hj, e⟩ := view_back hb hi (k := k) (by omega)
    exact ⟨j, hj, by show PlainM (SeenM b (k : Int)) = _; rw [e]⟩

theorem form_is_view {b : GBlock} (hb : BlockOkM b = true) : ∃ k : Nat, k < 8 ∧ FormM b = SeenM b (k : Int) := by
  obtain ⟨k, hk, e⟩ := lst_in (fun k : Nat => SeenM b (k : Int)) 7
  refine ⟨k, by omega, ?_⟩
  unfold FormM
  rw [hb, cond_true, e]
theorem form_form {b : GBlock} (hb : BlockOkM b = true) : FormM (FormM b) = FormM b := by
  obtain ⟨k, hk, e⟩ := form_is_view hb
  rw [e, form_view hb hk]
  exact e
theorem form_first {b : GBlock} (hb : BlockOkM b = true) : (slt (textM (FormM b)) (textM b) || seq (textM (FormM b)) (textM b)) = true := by
  have h := lst_least (fun k : Nat => SeenM b (k : Int)) 7 0 (by omega)
  have h0 : SeenM b ((0 : Nat) : Int) = b := seen_zero hb
  have e : lstM (fun k : Nat => SeenM b (k : Int)) 7 = FormM b := by unfold FormM; rw [hb]; rfl
  rw [e] at h
  simp only [h0] at h
  cases h2 : slt (textM (FormM b)) (textM b)
  · rw [slt_total h2 h, Bool.false_or]
    simp [seq]
  · rfl
/-- Blocks of one form have one pattern. -/
theorem patt_of_form {b d : GBlock} (hb : BlockOkM b = true) (hd : BlockOkM d = true) (h : FormM b = FormM d) : PattM b = PattM d := by
  obtain ⟨i, hi, ei⟩ := form_is_view hb
  obtain ⟨k, hk, ek⟩ := form_is_view hd
  rw [← patt_view hb hi, ← patt_view hd hk, ← ei, ← ek, h]
theorem same_comm (b d : GBlock) : SameBlockM b d = SameBlockM d b := by
  rw [Bool.eq_iff_iff, sameBlock_iff, sameBlock_iff]
  exact eq_comm
theorem cellText_two (c : GCell) : 1 ≤ (cellTextM c).length := by
  unfold cellTextM
  cases c.Split == 1 <;> cases c.Split == 2 <;> simp
theorem cellsText_two : ∀ l : List GCell, 2 * l.length ≤ (cellsTextM l).length
  | [] => by simp
  | c :: l => by
    have h1 := cellText_two c
    have h2 := cellsText_two l
    simp only [cellsTextM, List.flatMap_cons, List.length_append, List.length_cons, List.length_nil] at h2 ⊢
    omega
theorem text_two {b : GBlock} (hb : BlockOkM b = true) : 2 * b.Cells.length ≤ (textM b).b.length := by
  unfold textM
  rw [hb]
  exact cellsText_two _

theorem seq_self (s : Str) : seq s s = true := by unfold seq; simp

theorem form_eq_view {b d : GBlock} (hb : BlockOkM b = true) (hd : BlockOkM d = true) (hf : FormM b = FormM d) : ∃ k : Nat, k < 8 ∧ SeenM d (k : Int) = b := by
  obtain ⟨i, hi, e1⟩ := form_is_view hb
  obtain ⟨j, hj, e2⟩ := form_is_view hd
  obtain ⟨v1, v2, _, _, _⟩ := prod_inv i hi
  have hz : SeenM b ((0 : Nat) : Int) = b := seen_zero hb
  exact ⟨prodN j (invN i), prod_lt, by rw [← seen_seen hd hj v1, ← e2, ← hf, e1, seen_seen hb hi v1, v2, hz]⟩
theorem filter_split (p : Nat → Bool) : ∀ I : List Nat, (I.filter p).length + (I.filter fun i => !p i).length = I.length
  | [] => rfl
  | i :: I => by
    have := filter_split p I
    cases h : p i <;> simp [h] <;> omega
theorem count_by {T : List Str} {txt : Nat → Str} {s : Nat} : ∀ {I : List Nat}, (∀ i ∈ I, T.any (seq (txt i)) = true) → (∀ t, (I.filter fun i => seq t (txt i)).length ≤ s) → I.length ≤ T.length * s := by
  induction T with
  | nil =>
    intro I h _
    cases I with
    | nil => simp
    | cons i I => have := h i (by simp); simp at this
  | cons t T ih =>
    intro I h hc
    have h1 := hc t
    have h2 := ih (I := I.filter fun i => !seq t (txt i)) (fun i hi => by
      obtain ⟨hi1, hi2⟩ := List.mem_filter.1 hi
      have := h i hi1
      rw [List.any_cons, Bool.or_eq_true] at this
      rcases this with e | e
      · rw [seq_comm, e] at hi2; cases hi2
      · exact e) (fun u => by
      have e : (I.filter fun i => !seq t (txt i)).filter (fun i => seq u (txt i)) = (I.filter fun i => seq u (txt i)).filter fun i => !seq t (txt i) := by
        rw [List.filter_filter, List.filter_filter]
        congr 1
        funext i
        exact Bool.and_comm _ _
      rw [e]
      exact Nat.le_trans (List.length_filter_le _ _) (hc u))
    have h3 := filter_split (fun i => seq t (txt i)) I
    rw [List.length_cons, Nat.add_mul, Nat.one_mul]
    omega
theorem put_pos (ks : List Str) (t : Str) : 1 ≤ (putS ks t).length := by
  have h := any_put ks t t
  have hs : seq t t = true := seq_self t
  rw [hs, Bool.or_true] at h
  cases hp : putS ks t with
  | nil => rw [hp] at h; cases h
  | cons _ _ => simp
theorem put_mono (ks : List Str) (t : Str) : 1 ≤ ks.length → 1 ≤ (putS ks t).length := fun _ => put_pos ks t
theorem txs_pos (F : Nat → GBlock) : ∀ n, 1 ≤ n → 1 ≤ (txsM F n).length
  | 0, h => absurd h (by omega)
  | n + 1, _ => put_pos _ _

/-- From spot i as far as from the first one to spot d. -/
def sft (w h d i : Nat) : Nat := tgtM w h (d % w) (d / w) i
theorem grid_div {w x y : Nat} (hx : x < w) : (y * w + x) / w = y := by
  rw [Nat.mul_comm, Nat.mul_add_div (by omega), Nat.div_eq_of_lt hx]; rfl
theorem grid_mod {w x y : Nat} (hx : x < w) : (y * w + x) % w = x := by
  rw [Nat.mul_comm, Nat.mul_add_mod, Nat.mod_eq_of_lt hx]
theorem tgt_div {w h a b i : Nat} (hw : 0 < w) : tgtM w h a b i / w = (i / w + b) % h := grid_div (Nat.mod_lt _ hw)
theorem tgt_mod {w h a b i : Nat} (hw : 0 < w) : tgtM w h a b i % w = (i % w + a) % w := grid_mod (Nat.mod_lt _ hw)
theorem tgt_tgt {w h a b c d i : Nat} (hw : 0 < w) : tgtM w h a b (tgtM w h c d i) = tgtM w h ((a + c) % w) ((b + d) % h) i := by
  have e1 := tgt_div (h := h) (a := c) (b := d) (i := i) hw
  have e2 := tgt_mod (h := h) (a := c) (b := d) (i := i) hw
  show (tgtM w h c d i / w + b) % h * w + (tgtM w h c d i % w + a) % w = (i / w + (b + d) % h) % h * w + (i % w + (a + c) % w) % w
  simp only [e1, e2, Nat.mod_add_mod, Nat.add_mod_mod]
  rw [show i / w + d + b = i / w + (b + d) by omega, show i + c + a = i + (a + c) by omega]
theorem sft_lt {w h d i : Nat} (hw : 0 < w) (hh : 0 < h) : sft w h d i < h * w := tgt_lt hw hh
theorem sft_comm {w h d i : Nat} : sft w h d i = sft w h i d := by
  unfold sft tgtM
  rw [Nat.add_comm (i / w), Nat.add_comm (i % w)]
theorem sft_assoc {w h a b i : Nat} (hw : 0 < w) : sft w h a (sft w h b i) = sft w h (sft w h a b) i := by
  unfold sft
  rw [tgt_tgt hw, tgt_div hw, tgt_mod hw, Nat.add_comm (b / w), Nat.add_comm (b % w)]
theorem sft_zero {w h i : Nat} (hw : 0 < w) (hi : i < h * w) : sft w h 0 i = i := by
  unfold sft tgtM
  have hy : i / w < h := (Nat.div_lt_iff_lt_mul hw).2 hi
  rw [Nat.zero_div, Nat.zero_mod, Nat.add_zero, Nat.add_zero, Nat.mod_eq_of_lt hy, Nat.mod_mod, Nat.mul_comm]
  exact Nat.div_add_mod i w
/-- As far the other way. -/
def ngt (w h d : Nat) : Nat := (h - d / w) % h * w + (w - d % w) % w
theorem ngt_lt {w h d : Nat} (hw : 0 < w) (hh : 0 < h) : ngt w h d < h * w := idx_lt2 (Nat.mod_lt _ hh) (Nat.mod_lt _ hw)
theorem sft_ngt {w h d : Nat} (hw : 0 < w) (hh : 0 < h) (hd : d < h * w) : sft w h d (ngt w h d) = 0 := by
  have hy : d / w < h := (Nat.div_lt_iff_lt_mul hw).2 hd
  have hx : d % w < w := Nat.mod_lt _ hw
  have e1 : ngt w h d / w = (h - d / w) % h := grid_div (Nat.mod_lt _ hw)
  have e2 : ngt w h d % w = (w - d % w) % w := grid_mod (Nat.mod_lt _ hw)
  show (ngt w h d / w + d / w) % h * w + (ngt w h d % w + d % w) % w = 0
  rw [e1, e2, Nat.mod_add_mod, Nat.mod_add_mod, show h - d / w + d / w = h by omega, show w - d % w + d % w = w by omega, Nat.mod_self, Nat.mod_self]
  simp

theorem nodup_subN : ∀ (l m : List Nat), l.Nodup → (∀ y ∈ l, y ∈ m) → l.length ≤ m.length
  | [], _, _, _ => by simp
  | a :: l, m, hn, h => by
    rw [List.nodup_cons] at hn
    have ha := h a (by simp)
    have := nodup_subN l (m.erase a) hn.2 fun y hy => (List.mem_erase_of_ne (fun e : y = a => hn.1 (by rw [← e]; exact hy))).2 (h y (by simp [hy]))
    have hpos := List.length_pos_of_mem ha
    rw [List.length_erase_of_mem ha] at this
    simp only [List.length_cons]
    omega
theorem nodup_mapN {l : List Nat} {f : Nat → Nat} (h : l.Nodup) (hf : ∀ x ∈ l, ∀ y ∈ l, f x = f y → x = y) : (l.map f).Nodup := by
  unfold List.Nodup at h ⊢
  rw [List.pairwise_map]
  exact List.Pairwise.imp_of_mem (fun {x y} hx hy hne hxy => hne (hf x hx y hy hxy)) h
/-- Sets that a group of shifts keeps have as many spots as some multiple of the shifts. -/
theorem lagrange {w h : Nat} (hw : 0 < w) (hh : 0 < h) {P : Nat → Bool} (p0 : P 0 = true) (pn : ∀ d, d < h * w → P d = true → P (ngt w h d) = true) (pa : ∀ a b, a < h * w → b < h * w → P a = true → P b = true → P (sft w h a b) = true) :
    ∀ (N : Nat) (I : List Nat), I.length = N → I.Nodup → (∀ i ∈ I, i < h * w) → (∀ i ∈ I, ∀ d, d < h * w → P d = true → sft w h d i ∈ I) → ∃ m, I.length = m * ((List.range (h * w)).filter P).length := by
  intro N
  induction N using Nat.strongRecOn with
  | _ N ih =>
    intro I hN hnd hlt hcl
    cases hI : I with
    | nil => exact ⟨0, by simp⟩
    | cons i r =>
      have hi : i ∈ I := by rw [hI]; simp
      have hil := hlt i hi
      have hng := ngt_lt (d := i) hw hh
      have inv1 : ∀ d, d < h * w → sft w h (sft w h d i) (ngt w h i) = d := fun d hd => by
        rw [← sft_assoc hw, sft_ngt hw hh hil, sft_comm, sft_zero hw hd]
      have inv2 : ∀ j, j < h * w → sft w h (sft w h j (ngt w h i)) i = j := fun j hj => by
        rw [← sft_assoc hw, sft_comm (d := ngt w h i), sft_ngt hw hh hil, sft_comm, sft_zero hw hj]
      have hP : ∀ d, d < h * w → sft w h d i < h * w := fun d _ => sft_lt hw hh
      have c1 : ((List.range (h * w)).filter P).length ≤ (I.filter fun j => P (sft w h j (ngt w h i))).length := by
        have := nodup_subN (((List.range (h * w)).filter P).map fun d => sft w h d i) (I.filter fun j => P (sft w h j (ngt w h i))) (nodup_mapN (List.Pairwise.filter _ List.nodup_range) fun x hx y hy e => by
          have hx' : x < h * w := by simpa using (List.mem_filter.1 hx).1
          have hy' : y < h * w := by simpa using (List.mem_filter.1 hy).1
          rw [← inv1 x hx', ← inv1 y hy', e]) (fun y hy => by
          obtain ⟨d, hd, rfl⟩ := List.mem_map.1 hy
          obtain ⟨d1, d2⟩ := List.mem_filter.1 hd
          have d1' : d < h * w := by simpa using d1
          exact List.mem_filter.2 ⟨hcl i hi d d1' d2, by rw [inv1 d d1']; exact d2⟩)
        rwa [List.length_map] at this
      have c2 : (I.filter fun j => P (sft w h j (ngt w h i))).length ≤ ((List.range (h * w)).filter P).length := by
        have := nodup_subN ((I.filter fun j => P (sft w h j (ngt w h i))).map fun j => sft w h j (ngt w h i)) ((List.range (h * w)).filter P) (nodup_mapN (List.Pairwise.filter _ hnd) fun x hx y hy e => by
          have hx' := hlt x (List.mem_filter.1 hx).1
          have hy' := hlt y (List.mem_filter.1 hy).1
          rw [← inv2 x hx', ← inv2 y hy', e]) (fun y hy => by
          obtain ⟨j, hj, rfl⟩ := List.mem_map.1 hy
          obtain ⟨_, j2⟩ := List.mem_filter.1 hj
          exact List.mem_filter.2 ⟨by simpa using sft_lt hw hh, j2⟩)
        rwa [List.length_map] at this
      have hs : 0 < ((List.range (h * w)).filter P).length := List.length_pos_of_mem (List.mem_filter.2 ⟨by simpa using (show 0 < h * w by omega), p0⟩)
      have hsp := filter_split (fun j => P (sft w h j (ngt w h i))) I
      obtain ⟨m, hm⟩ := ih (I.filter fun j => !P (sft w h j (ngt w h i))).length (by omega) _ rfl (List.Pairwise.filter _ hnd) (fun j hj => hlt j (List.mem_filter.1 hj).1) (fun j hj d hd hpd => by
        obtain ⟨j1, j2⟩ := List.mem_filter.1 hj
        refine List.mem_filter.2 ⟨hcl j j1 d hd hpd, ?_⟩
        cases hq : P (sft w h (sft w h d j) (ngt w h i)) with
        | false => rfl
        | true =>
          exfalso
          have h1 := pa (ngt w h d) (sft w h (sft w h d j) (ngt w h i)) (ngt_lt hw hh) (sft_lt hw hh) (pn d hd hpd) hq
          have h2 : sft w h (ngt w h d) (sft w h (sft w h d j) (ngt w h i)) = sft w h j (ngt w h i) := by
            rw [← sft_assoc hw (a := d), sft_assoc hw, sft_comm (d := ngt w h d), sft_ngt hw hh hd, sft_zero hw (sft_lt hw hh)]
          rw [h2] at h1
          rw [h1] at j2
          cases j2)
      rw [hI] at hsp hm c1 c2
      refine ⟨m + 1, ?_⟩
      rw [Nat.add_mul, Nat.one_mul]
      omega

theorem sameAt_iff {l : List GBlock} {w h a b : Nat} : sameAtM l w h a b = true ↔ ∀ i, i < h * w → gx l i = gx l (tgtM w h a b i) := by
  unfold sameAtM
  rw [List.all_eq_true]
  constructor
  · intro H i hi; exact sameBlock_iff.1 (H i (by simpa using hi))
  · intro H i hi; exact sameBlock_iff.2 (H i (by simpa using hi))
theorem same_add {l : List GBlock} {w h a b c d : Nat} (hw : 0 < w) (hh : 0 < h) (h1 : sameAtM l w h a b = true) (h2 : sameAtM l w h c d = true) : sameAtM l w h ((a + c) % w) ((b + d) % h) = true := by
  rw [sameAt_iff] at h1 h2 ⊢
  intro i hi
  rw [h2 i hi, h1 _ (tgt_lt hw hh), tgt_tgt hw]
def sameD (l : List GBlock) (w h d : Nat) : Bool := sameAtM l w h (d % w) (d / w)
theorem sameD_iff {l : List GBlock} {w h d : Nat} : sameD l w h d = true ↔ ∀ i, i < h * w → gx l i = gx l (sft w h d i) := sameAt_iff
theorem shifts_count (l : List GBlock) {w h : Nat} (hw : 0 < w) : (shiftsM l w h).length = ((List.range (h * w)).filter (sameD l w h)).length := by
  unfold shiftsM
  rw [← grid_filter w hw (fun y x => sameAtM l w h x y) (fun y x => [(x : Int), (y : Int)]) h, List.length_map]
  rfl
theorem shifts_div (l : List GBlock) {w h : Nat} (hw : 0 < w) (hh : 0 < h) : ∃ m, h * w = m * (shiftsM l w h).length := by
  have hz : sameD l w h 0 = true := by
    unfold sameD
    rw [Nat.zero_mod, Nat.zero_div]
    exact sameAt_zero l hw
  have := lagrange hw hh (P := sameD l w h) hz (fun d hd hp => by
    rw [sameD_iff] at hp ⊢
    intro i hi
    rw [hp _ (sft_lt hw hh), sft_assoc hw, sft_ngt hw hh hd, sft_zero hw hi]) (fun a b ha hb h1 h2 => by
    rw [sameD_iff] at h1 h2 ⊢
    intro i hi
    rw [← sft_assoc hw, ← h1 _ (sft_lt hw hh), ← h2 i hi]) (h * w) (List.range (h * w)) (by simp) List.nodup_range (fun i hi => by simpa using hi) (fun i _ d _ _ => by simpa using sft_lt hw hh)
  rw [shifts_count l hw]
  simpa using this
theorem mem_shifts {l : List GBlock} {w h : Nat} {x : List Int} (hx : x ∈ shiftsM l w h) : ∃ a b : Nat, a < w ∧ b < h ∧ x = [(a : Int), (b : Int)] ∧ sameAtM l w h a b = true := by
  simp only [shiftsM, List.mem_flatMap, List.mem_map, List.mem_filter, List.mem_range] at hx
  obtain ⟨b, hb, a, ⟨ha, hs⟩, e⟩ := hx
  exact ⟨a, b, ha, hb, e.symm, hs⟩

/-- The quilt seen from another corner. -/
def spotsD (q : GQuilt) (w h d : Nat) : List GSpot := (List.range (h * w)).map fun i => gx q.Spots (sft w h d i)
def shQ (q : GQuilt) (w h d : Nat) : GQuilt := ⟨q.Width, q.Height, spotsD q w h d⟩
theorem spotsD_gx {q : GQuilt} {w h d i : Nat} (hi : i < h * w) : gx (spotsD q w h d) i = gx q.Spots (sft w h d i) := gx_range _ hi
theorem shQ_ok {q : GQuilt} {bs : List GBlock} {w h d : Nat} (hq : QuiltOkM q bs = true) (hw : 0 < w) (hh : 0 < h) (hl : q.Spots.length = h * w) : QuiltOkM (shQ q w h d) bs = true := by
  have hsl : (spotsD q w h d).length = q.Spots.length := by simp [spotsD, hl]
  unfold QuiltOkM at hq ⊢
  simp only [Bool.and_eq_true, List.all_eq_true] at hq ⊢
  obtain ⟨⟨⟨⟨⟨a1, a2⟩, a3⟩, a4⟩, a5⟩, a6⟩ := hq
  refine ⟨⟨⟨⟨⟨a1, a2⟩, a3⟩, ?_⟩, a5⟩, fun s hs => ?_⟩
  · show (((spotsD q w h d).length : Int) == q.Width * q.Height) = true
    rw [hsl]; exact a4
  · have hs' : s ∈ spotsD q w h d := hs
    simp only [spotsD, List.mem_map] at hs'
    obtain ⟨i, _, rfl⟩ := hs'
    have hlt := sft_lt (d := d) (i := i) hw hh
    exact a6 _ (gx_mem (by omega))
theorem spotsD_spotsD {q : GQuilt} {w h d e : Nat} (hw : 0 < w) (hh : 0 < h) : spotsD (shQ q w h d) w h e = spotsD q w h (sft w h d e) := by
  unfold spotsD
  refine List.map_congr_left fun i _ => ?_
  show gx (spotsD q w h d) (sft w h e i) = _
  rw [spotsD_gx (sft_lt hw hh), sft_assoc hw]
theorem spotsD_zero {q : GQuilt} {w h : Nat} (hw : 0 < w) (hl : q.Spots.length = h * w) : spotsD q w h 0 = q.Spots := by
  refine gx_ext (by simp [spotsD, hl]) fun k hk => ?_
  have hk' : k < h * w := by simpa [spotsD] using hk
  rw [spotsD_gx hk', sft_zero hw hk']
theorem shown_sh {q : GQuilt} {bs : List GBlock} {w h d i : Nat} (hw : 0 < w) (hh : 0 < h) (hl : q.Spots.length = h * w) (hi : i < h * w) : gx (shownM (shQ q w h d) bs) i = gx (shownM q bs) (sft w h d i) := by
  have hlt := sft_lt (d := d) (i := i) hw hh
  unfold shownM
  rw [gx_map _ (show i < (shQ q w h d).Spots.length by simp [shQ, spotsD, hi]), gx_map _ (by omega)]
  show spotM bs (gx (spotsD q w h d) i) = _
  rw [spotsD_gx hi]
theorem sameD_sh {q : GQuilt} {bs : List GBlock} {w h d a b : Nat} (hw : 0 < w) (hh : 0 < h) (hl : q.Spots.length = h * w) (hd : d < h * w) : sameAtM (shownM (shQ q w h d) bs) w h a b = sameAtM (shownM q bs) w h a b := by
  rw [Bool.eq_iff_iff, sameAt_iff, sameAt_iff]
  have hc : ∀ i, sft w h d (tgtM w h a b i) = tgtM w h a b (sft w h d i) := fun i => by
    unfold sft
    rw [tgt_tgt hw, tgt_tgt hw, Nat.add_comm (d % w), Nat.add_comm (d / w)]
  constructor
  · intro H i hi
    have hi2 : sft w h d (sft w h (ngt w h d) i) = i := by rw [sft_assoc hw, sft_ngt hw hh hd, sft_zero hw hi]
    have := H (sft w h (ngt w h d) i) (sft_lt hw hh)
    rw [shown_sh hw hh hl (sft_lt hw hh), shown_sh hw hh hl (tgt_lt hw hh), hc, hi2] at this
    exact this
  · intro H i hi
    rw [shown_sh hw hh hl hi, shown_sh hw hh hl (tgt_lt hw hh), hc]
    exact H _ (sft_lt hw hh)
theorem shifts_sh {q : GQuilt} {bs : List GBlock} {w h d : Nat} (hw : 0 < w) (hh : 0 < h) (hl : q.Spots.length = h * w) (hd : d < h * w) : shiftsM (shownM (shQ q w h d) bs) w h = shiftsM (shownM q bs) w h := by
  unfold shiftsM
  congr 1
  funext dy
  congr 1
  exact List.filter_congr fun dx _ => sameD_sh hw hh hl hd

theorem impl_ShiftQuilt_eq {q : GQuilt} {bs : List GBlock} (hq : QuiltOkM q bs = true) {w h : Nat} (e1 : q.Width = w) (e2 : q.Height = h) (h1 : 1 ≤ w) (h2 : w ≤ 6) (h3 : 1 ≤ h) (h4 : h ≤ 6) (hl : q.Spots.length = h * w) {x y : Nat} (hx : x < w) (hy : y < h) : impl_ShiftQuilt q bs (x : Int) (y : Int) = some (shQ q w h (y * w + x), true) := by
  have hlen : h * w ≤ 6 * 6 := Nat.mul_le_mul h4 h2
  have i1 : inR (x : Int) 0 ((w : Int) - 1) = true := inR_iff.2 ⟨by omega, by omega⟩
  have i2 : inR (y : Int) 0 ((h : Int) - 1) = true := inR_iff.2 ⟨by omega, by omega⟩
  unfold impl_ShiftQuilt impl_Quilt_copied
  rw [gd_pos (by simp; omega)]
  simp only [Option.bind_some, List.nil_append]
  rw [impl_QuiltOk_eq, hq]
  simp only [Option.bind_some, Bool.not_true, cond_false]
  rw [impl_isShift_eq (inR_iff.2 ⟨by omega, by omega⟩) (inR_iff.2 ⟨by omega, by omega⟩), e1, e2, i1, i2]
  simp only [Option.bind_some, Bool.and_self, Bool.not_true, cond_false]
  rw [gd_pos (by omega), hl, lpO_st (f := impl_ShiftQuilt_L1 q x y) (s0 := q.Spots) (fun k => (List.range (h * w)).map fun i => bif decide (i < k) then gx q.Spots (tgtM w h x y i) else gx q.Spots i) (by
    refine gx_ext (by simp [hl]) fun k hk => ?_
    rw [gx_range _ (by omega)]; simp) (fun k hk => by
    have ht : tgtM w h x y k < h * w := tgt_lt (by omega) (by omega)
    unfold impl_ShiftQuilt_L1
    rw [impl_shifted_eq e1 e2 h1 h2 h3 h4 hk (by omega) (by omega)]
    simp only [Option.bind_some, Int.toNat_natCast]
    rw [gd_pos ⟨by omega, by omega⟩, gd_pos (by simp; omega), rng_set]
    congr 2
    refine List.map_congr_left fun i _ => ?_
    cases he : i == k
    · have hne : i ≠ k := by simpa using he
      have : decide (i < k) = decide (i < k + 1) := by simp; omega
      simp only [cond_false, this]
    · have e : i = k := by simpa using he
      subst e
      simp)]
  simp only [Option.bind_some]
  have hs : ((List.range (h * w)).map fun i => bif decide (i < h * w) then gx q.Spots (tgtM w h x y i) else gx q.Spots i) = spotsD q w h (y * w + x) := by
    unfold spotsD sft
    refine List.map_congr_left fun i hi => ?_
    have hi' : i < h * w := by simpa using hi
    rw [decide_eq_true hi', grid_div hx, grid_mod hx]; rfl
  rw [hs]
  unfold shQ
  rw [e1, e2]

def kk (s : GSpot) : Int := s.Block * 8 + s.Seen
def lexI : List Int → List Int → Bool
  | a :: r, b :: s => decide (a < b) || (a == b && lexI r s)
  | _, _ => false
theorem lexI_irrefl : ∀ a, lexI a a = false
  | [] => rfl
  | x :: r => by simp [lexI, lexI_irrefl r]
theorem lexI_trans : ∀ {a b c : List Int}, lexI a b = true → lexI b c = true → lexI a c = true
  | [], _, _, h, _ => by simp [lexI] at h
  | _ :: _, [], _, h, _ => by simp [lexI] at h
  | _ :: _, _ :: _, [], _, h => by simp [lexI] at h
  | x :: r, y :: s, z :: t, h1, h2 => by
    simp only [lexI, Bool.or_eq_true, Bool.and_eq_true, decide_eq_true_eq, beq_iff_eq] at h1 h2 ⊢
    rcases h1 with h1 | ⟨e1, h1⟩
    · rcases h2 with h2 | ⟨e2, _⟩
      · exact .inl (by omega)
      · exact .inl (by omega)
    · rcases h2 with h2 | ⟨e2, h2⟩
      · exact .inl (by omega)
      · exact .inr ⟨by omega, lexI_trans h1 h2⟩
theorem lexI_total : ∀ {a b : List Int}, a.length = b.length → lexI a b = false → lexI b a = false → a = b
  | [], [], _, _, _ => rfl
  | [], _ :: _, h, _, _ => by simp at h
  | _ :: _, [], h, _, _ => by simp at h
  | x :: r, y :: s, h, h1, h2 => by
    simp only [lexI, Bool.or_eq_false_iff, decide_eq_false_iff_not] at h1 h2
    have e : x = y := by omega
    subst e
    simp only [beq_self_eq_true, Bool.true_and] at h1 h2
    rw [lexI_total (by simpa using h) h1.2 h2.2]
def spotIn (s : GSpot) : Prop := 0 ≤ s.Seen ∧ s.Seen ≤ 7
theorem kk_inj {s t : GSpot} (hs : spotIn s) (ht : spotIn t) (h : kk s = kk t) : s = t := by
  unfold kk at h
  obtain ⟨a0, a1⟩ := hs
  obtain ⟨b0, b1⟩ := ht
  have e1 : s.Block = t.Block := by omega
  have e2 : s.Seen = t.Seen := by omega
  have : s = ⟨s.Block, s.Seen⟩ := rfl
  rw [this, e1, e2]
theorem impl_isLess_eq {a b : List GSpot} (hl : a.length = b.length) (hn : a.length ≤ 1000) (ha : ∀ s ∈ a, spotIn s) (hb : ∀ s ∈ b, spotIn s) : impl_isLess a b = some (lexI (a.map kk) (b.map kk)) := by
  have key : ∀ m k, k + m = a.length → sq (forO (impl_isLess_L1 a b) m k ()) (fun _ => some false) = some (lexI ((a.drop k).map kk) ((b.drop k).map kk)) := by
    intro m
    induction m with
    | zero =>
      intro k hk
      rw [List.drop_of_length_le (by omega)]
      rfl
    | succ m ih =>
      intro k hk
      have hka : k < a.length := by omega
      have hkb : k < b.length := by omega
      rw [List.drop_eq_getElem_cons hka, List.drop_eq_getElem_cons hkb, List.map_cons, List.map_cons, ← gx_lt hka, ← gx_lt hkb]
      have sa := ha _ (gx_mem hka)
      have sb := hb _ (gx_mem hkb)
      rw [forO]
      rw [show impl_isLess_L1 a b k () = (bif (!(beqs [(gx a k).Block, (gx a k).Seen] [(gx b k).Block, (gx b k).Seen])) then some (.ret ((decide ((gx a k).Block < (gx b k).Block)) || (((gx a k).Block == (gx b k).Block) && (decide ((gx a k).Seen < (gx b k).Seen))))) else some (.next ())) by
        unfold impl_isLess_L1
        rw [gd_pos hkb]]
      cases he : beqs [(gx a k).Block, (gx a k).Seen] [(gx b k).Block, (gx b k).Seen]
      · simp only [Bool.not_false, cond_true]
        show some _ = _
        congr 1
        have hne : ¬ kk (gx a k) = kk (gx b k) := fun e => by
          rw [kk_inj sa sb e] at he
          simp [beqs] at he
        have hb2 : (kk (gx a k) == kk (gx b k)) = false := by simpa using hne
        simp only [lexI, hb2, Bool.false_and, Bool.or_false]
        unfold kk
        obtain ⟨a0, a1⟩ := sa
        obtain ⟨b0, b1⟩ := sb
        rw [Bool.eq_iff_iff]
        simp only [Bool.or_eq_true, Bool.and_eq_true, decide_eq_true_eq, beq_iff_eq]
        omega
      · have hkk : kk (gx a k) = kk (gx b k) := by
          simp [beqs] at he
          unfold kk
          rw [he.1, he.2]
        simp only [Bool.not_true, cond_false, Option.bind_some]
        rw [ih (k + 1) (by omega)]
        congr 1
        simp [lexI, hkk]
  unfold impl_isLess
  rw [gd_pos (by omega)]
  have := key a.length 0 (by omega)
  simpa using this

theorem spotsD_in {q : GQuilt} {bs : List GBlock} {w h d : Nat} (hq : QuiltOkM q bs = true) (hw : 0 < w) (hh : 0 < h) (hl : q.Spots.length = h * w) : ∀ s ∈ spotsD q w h d, spotIn s := fun s hs => by
  obtain ⟨_, _, _, _, _, _, _, _, _, _, _, _, hsp⟩ := quiltOk_spec hq
  simp only [spotsD, List.mem_map] at hs
  obtain ⟨i, _, rfl⟩ := hs
  have hlt := sft_lt (d := d) (i := i) hw hh
  have := inR_iff.1 (hsp _ (gx_mem (xs := q.Spots) (k := sft w h d i) (by omega))).2.2
  exact ⟨this.1, this.2⟩
/-- The least of all shifts. -/
theorem impl_LeastShift_spec {q : GQuilt} {bs : List GBlock} (hq : QuiltOkM q bs = true) {w h : Nat} (e1 : q.Width = w) (e2 : q.Height = h) (h1 : 1 ≤ w) (h2 : w ≤ 6) (h3 : 1 ≤ h) (h4 : h ≤ 6) (hl : q.Spots.length = h * w) : ∃ d, d < h * w ∧ impl_LeastShift q bs = some (shQ q w h d) ∧ ∀ e, e < h * w → lexI ((spotsD q w h e).map kk) ((spotsD q w h d).map kk) = false := by
  have hlen : h * w ≤ 6 * 6 := Nat.mul_le_mul h4 h2
  have hpos : 0 < h * w := Nat.mul_pos (by omega) (by omega)
  have hdl : ∀ d, (spotsD q w h d).length = h * w := fun d => by simp [spotsD]
  -- one step: the least of one more
  have step : ∀ (D d : Nat) (L : Nat → Prop), d < h * w → D < h * w → (∀ e, L e → lexI ((spotsD q w h e).map kk) ((spotsD q w h d).map kk) = false) → ∃ d', d' < h * w ∧ (bif lexI ((spotsD q w h D).map kk) ((spotsD q w h d).map kk) then spotsD q w h D else spotsD q w h d) = spotsD q w h d' ∧ ∀ e, (L e ∨ e = D) → lexI ((spotsD q w h e).map kk) ((spotsD q w h d').map kk) = false := fun D d L hd hD hL => by
    cases hlx : lexI ((spotsD q w h D).map kk) ((spotsD q w h d).map kk)
    · refine ⟨d, hd, rfl, fun e he => ?_⟩
      rcases he with he | rfl
      · exact hL e he
      · exact hlx
    · refine ⟨D, hD, rfl, fun e he => ?_⟩
      rcases he with he | rfl
      · cases hc : lexI ((spotsD q w h e).map kk) ((spotsD q w h D).map kk) with
        | false => rfl
        | true => have h2 := hL e he; rw [lexI_trans hc hlx] at h2; cases h2
      · exact lexI_irrefl _
  obtain ⟨s, ⟨s1, s2, d, hd, s3, s4⟩, es⟩ := lpO_inv2 (f := impl_LeastShift_L1 q bs) (N := h) (s0 := (q.Width, q.Height, q.Spots)) (fun k s => s.1 = q.Width ∧ s.2.1 = q.Height ∧ ∃ d, d < h * w ∧ s.2.2 = spotsD q w h d ∧ ∀ e, e < k * w → lexI ((spotsD q w h e).map kk) ((spotsD q w h d).map kk) = false) ⟨rfl, rfl, 0, hpos, (spotsD_zero (by omega) hl).symm, fun e he => absurd he (by omega)⟩ fun y s hy hs => by
    obtain ⟨s1, s2, d, hd, s3, s4⟩ := hs
    obtain ⟨t, ⟨t1, t2, d2, hd2, t3, t4⟩, et⟩ := lpO_inv2 (f := impl_LeastShift_L2 q bs y) (N := w) (s0 := s) (fun k t => t.1 = q.Width ∧ t.2.1 = q.Height ∧ ∃ d, d < h * w ∧ t.2.2 = spotsD q w h d ∧ ∀ e, e < y * w + k → lexI ((spotsD q w h e).map kk) ((spotsD q w h d).map kk) = false) ⟨s1, s2, d, hd, s3, fun e he => s4 e (by omega)⟩ fun x t hx ht => by
      obtain ⟨t1, t2, d, hd, t3, t4⟩ := ht
      have hD : y * w + x < h * w := idx_lt2 hy hx
      obtain ⟨d', g1, g2, g3⟩ := step (y * w + x) d (fun e => e < y * w + x) hd hD t4
      have hlx : impl_isLess (shQ q w h (y * w + x)).Spots t.2.2 = some (lexI ((spotsD q w h (y * w + x)).map kk) ((spotsD q w h d).map kk)) := by
        rw [t3]
        exact impl_isLess_eq (by show (spotsD q w h (y * w + x)).length = _; rw [hdl, hdl]) (by show (spotsD q w h (y * w + x)).length ≤ _; rw [hdl]; omega) (spotsD_in hq (by omega) (by omega) hl) (spotsD_in hq (by omega) (by omega) hl)
      unfold impl_LeastShift_L2
      rw [impl_ShiftQuilt_eq hq e1 e2 h1 h2 h3 h4 hl hx hy]
      simp only [Option.bind_some]
      rw [hlx]
      simp only [Option.bind_some]
      refine ⟨_, ⟨?_, ?_, d', g1, ?_, fun e he => g3 e (by omega)⟩, rfl⟩
      · cases lexI ((spotsD q w h (y * w + x)).map kk) ((spotsD q w h d).map kk)
        · exact t1
        · rfl
      · cases lexI ((spotsD q w h (y * w + x)).map kk) ((spotsD q w h d).map kk)
        · exact t2
        · rfl
      · rw [← g2, ← t3]
        cases lexI ((spotsD q w h (y * w + x)).map kk) (t.2.2.map kk) <;> rfl
    unfold impl_LeastShift_L1
    rw [e1, Int.toNat_natCast, gd_pos (by omega), show (s.1, s.2.1, s.2.2) = s from rfl, et]
    exact ⟨(t.1, t.2.1, t.2.2), ⟨t1.trans e1, t2, d2, hd2, t3, fun e he => t4 e (by rw [Nat.add_mul, Nat.one_mul] at he; exact he)⟩, rfl⟩
  refine ⟨d, hd, ?_, s4⟩
  unfold impl_LeastShift impl_Quilt_copied
  rw [gd_pos (by simp; omega)]
  simp only [Option.bind_some, List.nil_append]
  rw [impl_QuiltOk_eq, hq]
  simp only [Option.bind_some, Bool.not_true, cond_false]
  rw [e2, Int.toNat_natCast, gd_pos (by omega), ← e2, es]
  simp only [Option.bind_some, s1, s2, s3]
  rfl

theorem impl_CountMotifs_ok {q : GQuilt} {bs : List GBlock} (hq : QuiltOkM q bs = true) (hp : 0 < (ShiftsM q bs).length) : impl_CountMotifs q bs = some (wr ((q.Spots.length : Int).tdiv ((ShiftsM q bs).length : Int))) := by
  unfold impl_CountMotifs
  simp only [impl_ShiftsOf_eq, impl_QuiltOk_eq, hq, Option.bind_some, Bool.not_true, cond_false]
  rw [gd_pos (by omega)]
end Go.Proofs.Ytkahnmhkfmjomae
