/-
  The plain laws: what the functions compute, in Lean alone.
-/
import Derived.Test.YtidkcdeddlnbdaaDoorPure
namespace Go.Proofs.YtidkcdeddlnbdaaDoor
open Go

theorem gd_pos {α : Type} {p : Prop} [Decidable p] (h : p) (t : Option α) : gd p t = t := by simp [gd, h]
@[simp] theorem sq_inl {J C : Type} (j : J) (k : J → Option C) : sq (some (.inl j)) k = k j := rfl
@[simp] theorem sq_inr {J C : Type} (c : C) (k : J → Option C) : sq (some (.inr c)) k = some c := rfl

section
variable {S C : Type} {f : Nat → S → Option (Res S C)} {N : Nat}
theorem forO_at (st : Nat → S) (h : ∀ k, k < N → f k (st k) = some (.next (st (k + 1)))) : ∀ m k, k + m = N → forO f m k (st k) = some (.inl (st N))
  | 0, k, e => by simp at e; subst e; rfl
  | m + 1, k, e => by
    rw [forO, h k (by omega)]
    exact forO_at st h m (k + 1) (by omega)
theorem forO_st (st : Nat → S) {s0 : S} (h0 : s0 = st 0) (h : ∀ k, k < N → f k (st k) = some (.next (st (k + 1)))) : forO f N 0 s0 = some (.inl (st N)) := by
  rw [h0]; exact forO_at st h N 0 (by omega)
theorem forO_upto (st : Nat → S) (K : Nat) (hK : K < N) (h : ∀ k, k < K → f k (st k) = some (.next (st (k + 1)))) : ∀ m k, k + m = N → k ≤ K → forO f m k (st k) = forO f (N - K) K (st K)
  | 0, k, e, hk => by omega
  | m + 1, k, e, hk => by
    rcases Nat.lt_or_ge k K with hlt | hge
    · rw [forO, h k hlt]
      exact forO_upto st K hK h m (k + 1) (by omega) (by omega)
    · have : k = K := by omega
      subst this
      rw [show N - k = m + 1 by omega]
theorem forO_retAt (st : Nat → S) {s0 : S} (h0 : s0 = st 0) (K : Nat) (hK : K < N) (h : ∀ k, k < K → f k (st k) = some (.next (st (k + 1)))) {c : C} (hr : f K (st K) = some (.ret c)) : forO f N 0 s0 = some (.inr c) := by
  rw [h0, forO_upto st K hK h N 0 (by omega) (by omega), show N - K = (N - K - 1) + 1 by omega, forO, hr]; rfl
theorem forO_brkAt (st : Nat → S) {s0 : S} (h0 : s0 = st 0) (K : Nat) (hK : K < N) (h : ∀ k, k < K → f k (st k) = some (.next (st (k + 1)))) {s' : S} (hr : f K (st K) = some (.brk s')) : forO f N 0 s0 = some (.inl s') := by
  rw [h0, forO_upto st K hK h N 0 (by omega) (by omega), show N - K = (N - K - 1) + 1 by omega, forO, hr]; rfl
/-- A loop that looks for the first place where p fails. -/
theorem forO_all (p : Nat → Bool) {s : S} {c : C} (h : ∀ k, k < N → f k s = some (bif p k then .next s else .ret c)) : forO f N 0 s = some (bif (List.range N).all p then .inl s else .inr c) := by
  cases ha : (List.range N).all p with
  | true =>
    rw [List.all_eq_true] at ha
    exact forO_st (fun _ => s) rfl fun k hk => by rw [h k hk, ha k (by simpa using hk)]; rfl
  | false =>
    have : ∃ k, k < N ∧ p k = false := by
      rw [List.all_eq_false] at ha
      obtain ⟨k, hk, hp⟩ := ha
      exact ⟨k, by simpa using hk, by simpa using hp⟩
    have hmin : ∃ k, k < N ∧ p k = false ∧ ∀ j, j < k → p j = true := by
      obtain ⟨k, hk, hp⟩ := this
      induction k using Nat.strongRecOn with
      | _ k ih =>
        by_cases hx : ∃ j, j < k ∧ p j = false
        · obtain ⟨j, hj, hpj⟩ := hx
          exact ih j hj (by omega) hpj
        · refine ⟨k, hk, hp, fun j hj => ?_⟩
          cases hpj : p j with
          | true => rfl
          | false => exact absurd ⟨j, hj, hpj⟩ hx
    obtain ⟨k, hk, hp, hall⟩ := hmin
    exact forO_retAt (fun _ => s) rfl k hk (fun j hj => by rw [h j (by omega), hall j hj]; rfl) (by rw [h k hk, hp]; rfl)
/-- A loop that returns at the first place where p holds. -/
theorem forO_find (p : Nat → Bool) {s : S} (c : Nat → C) (h : ∀ k, k < N → f k s = some (bif p k then .ret (c k) else .next s)) : forO f N 0 s = some (match (List.range N).find? p with | some k => .inr (c k) | none => .inl s) := by
  cases ha : (List.range N).find? p with
  | none =>
    rw [List.find?_eq_none] at ha
    exact forO_st (fun _ => s) rfl fun k hk => by
      rw [h k hk]
      have := ha k (by simpa using hk)
      simp at this
      rw [this]; rfl
  | some K =>
    have hp := List.find?_some ha
    have hK : K < N := by simpa using List.mem_of_find?_eq_some ha
    refine forO_retAt (fun _ => s) rfl K hK (fun j hj => ?_) (by rw [h K hK, hp]; rfl)
    rw [h j (by omega)]
    have : p j = false := by
      rw [List.find?_range_eq_some] at ha
      simpa using ha.2.2 j hj
    rw [this]; rfl
end
section
variable {S : Type} {f : Nat → S → Option (Res S Empty)} {N : Nat}
theorem lpO_st (st : Nat → S) {s0 : S} (h0 : s0 = st 0) (h : ∀ k, k < N → f k (st k) = some (.next (st (k + 1)))) : lpO f N s0 = some (st N) := by
  unfold lpO; rw [forO_st st h0 h]; rfl
/-- A state that each round turns by g. -/
def fold {S : Type} (g : Nat → S → S) (s0 : S) : Nat → S
  | 0 => s0
  | n + 1 => g n (fold g s0 n)
theorem lpO_fold (g : Nat → S → S) {s0 : S} (h : ∀ k, k < N → f k (fold g s0 k) = some (.next (g k (fold g s0 k)))) : lpO f N s0 = some (fold g s0 N) :=
  lpO_st (fold g s0) rfl h
end
section
variable {α : Type} {f : Nat → List α → Option (Res (List α) Empty)} {N : Nat}
theorem lpO_app (F : Nat → α) {xs : List α} (h : ∀ k s, k < N → s.length = xs.length + k → f k s = some (.next (s ++ [F k]))) : lpO f N xs = some (xs ++ (List.range N).map F) :=
  lpO_st (fun k => xs ++ (List.range k).map F) (by simp) fun k hk => by
    rw [h k _ hk (by simp)]
    simp [List.range_succ]
theorem lpO_filter (p : Nat → Bool) (F : Nat → α) {xs : List α} (h : ∀ k s, k < N → s.length ≤ xs.length + k → f k s = some (.next (bif p k then s ++ [F k] else s))) : lpO f N xs = some (xs ++ ((List.range N).filter p).map F) :=
  lpO_st (fun k => xs ++ ((List.range k).filter p).map F) (by simp) fun k hk => by
    rw [h k _ hk (by
      have := List.length_filter_le p (List.range k)
      simp at this ⊢; omega)]
    cases hp : p k <;> simp [List.range_succ, List.filter_append, hp]
theorem lpO_cat (F : Nat → List α) {xs : List α} (h : ∀ k s, k < N → s = xs ++ (List.range k).flatMap F → f k s = some (.next (s ++ F k))) : lpO f N xs = some (xs ++ (List.range N).flatMap F) :=
  lpO_st (fun k => xs ++ (List.range k).flatMap F) (by simp) fun k hk => by
    rw [h k _ hk rfl]
    simp [List.range_succ]
end
theorem map_gx {α β : Type} [Rep α] (F : α → β) (xs : List α) : (List.range xs.length).map (fun k => F (gx xs k)) = xs.map F := by
  apply List.ext_getElem
  · simp
  · intro i h1 h2
    simp at h1
    simp [gx, List.getD, h1]
theorem all_gx {α : Type} [Rep α] (F : α → Bool) (xs : List α) : (List.range xs.length).all (fun k => F (gx xs k)) = xs.all F := by
  have := map_gx F xs
  calc (List.range xs.length).all (fun k => F (gx xs k)) = ((List.range xs.length).map (fun k => F (gx xs k))).all id := by simp [List.all_map]
    _ = xs.all F := by rw [this]; simp [List.all_map]
theorem gx_lt {α : Type} [Rep α] {xs : List α} {k : Nat} (h : k < xs.length) : gx xs k = xs[k] := by simp [gx, List.getD, h]
theorem gx_mem {α : Type} [Rep α] {xs : List α} {k : Nat} (h : k < xs.length) : gx xs k ∈ xs := by rw [gx_lt h]; exact List.getElem_mem h
theorem wr_of {n : Int} (h1 : -4611686018427387904 ≤ n) (h2 : n ≤ 4611686018427387904) : wr n = n := wr_id (by omega) (by omega)

/-- What is small enough for all bounds. -/
class Sm (α : Type) where
  ok : α → Prop
instance : Sm Int := ⟨fun _ => True⟩
instance : Sm Bool := ⟨fun _ => True⟩
instance : Sm Str := ⟨fun s => s.b.length ≤ 1048576⟩
instance (α : Type) [Sm α] : Sm (List α) := ⟨fun xs => xs.length ≤ 1048576 ∧ ∀ x ∈ xs, Sm.ok x⟩
theorem sm_len {α : Type} [Sm α] {xs : List α} (h : Sm.ok xs) : xs.length ≤ 1048576 := h.1
theorem sm_gx {α : Type} [Sm α] [Rep α] {xs : List α} (h : Sm.ok xs) {k : Nat} (hk : k < xs.length) : Sm.ok (gx xs k) := h.2 _ (gx_mem hk)
theorem sm_ints {xs : List Int} (h : xs.length ≤ 1048576) : Sm.ok xs := ⟨h, fun _ _ => trivial⟩

theorem gx_set_ne {α : Type} [Rep α] {xs : List α} {k j : Nat} {e : α} (h : j ≠ k) : gx (xs.set k e) j = gx xs j := by
  simp [gx, List.getD, List.getElem?_set_ne (Ne.symm h)]
theorem gx_ext {α : Type} [Rep α] {xs ys : List α} (hl : xs.length = ys.length) (h : ∀ k, k < xs.length → gx xs k = gx ys k) : xs = ys := by
  apply List.ext_getElem hl
  intro i h1 h2
  have := h i h1
  rwa [gx_lt h1, gx_lt h2] at this

theorem to_list {α : Type} [Rep α] {f : Nat → List α → Option (Res (List α) Empty)} (a : List α) (z : α) (h : ∀ k s, k < a.length → s.length = a.length → f k s = some (.next (s.set k (gx a k)))) : lpO f a.length (List.replicate a.length z) = some a := by
  have := lpO_st (f := f) (N := a.length) (fun k => a.take k ++ List.replicate (a.length - k) z) (s0 := List.replicate a.length z) (by simp) fun k hk => by
    rw [h k _ hk (by simp; omega)]
    congr 2
    apply List.ext_getElem
    · simp; omega
    · intro i h1 h2
      rw [List.getElem_set]
      split
      · rename_i e; subst e
        rw [gx_lt hk, List.getElem_append_left (by simp; omega)]
        simp
      · rename_i hne
        rcases Nat.lt_or_ge i k with hi | hi
        · rw [List.getElem_append_left (by simp; omega), List.getElem_append_left (by simp; omega)]; simp
        · rw [List.getElem_append_right (by simp; omega), List.getElem_append_right (by simp; omega)]; simp
  simpa using this
theorem all_next {C : Type} {f : Nat → Unit → Option (Res Unit C)} {N : Nat} (h : ∀ k, k < N → f k () = some (.next ())) : forO f N 0 () = some (.inl ()) := forO_st (fun _ => ()) rfl h

theorem mark_list {α : Type} [Rep α] {f : Nat → List α × Int → Option (Res (List α × Int) Empty)} (a : List α) (j0 B M : Int) (R : α → Int → Int → Prop) (hB : 0 ≤ B) (hM : j0 + B * a.length ≤ M)
    (h : ∀ k s j, k < a.length → s.length = a.length → gx s k = gx a k → j0 ≤ j → j + B ≤ M → ∃ e j', f k (s, j) = some (.next (s.set k e, j')) ∧ j ≤ j' ∧ j' ≤ j + B ∧ R e j j') :
    ∃ (a' : List α) (js : Nat → Int), lpO f a.length (a, j0) = some (a', js a.length) ∧ a'.length = a.length ∧ js 0 = j0 ∧ j0 ≤ js a.length ∧ js a.length ≤ j0 + B * a.length ∧ ∀ k, k < a.length → R (gx a' k) (js k) (js (k + 1)) ∧ j0 ≤ js k := by
  have key : ∀ m k (s : List α) (j : Int), k + m = a.length → s.length = a.length → (∀ i, k ≤ i → i < a.length → gx s i = gx a i) → j0 ≤ j → j ≤ j0 + B * k →
      ∃ (a' : List α) (js : Nat → Int), forO f m k (s, j) = some (.inl (a', js a.length)) ∧ a'.length = a.length ∧ js k = j ∧ j ≤ js a.length ∧ js a.length ≤ j0 + B * a.length ∧ (∀ i, i < k → gx a' i = gx s i) ∧ ∀ i, k ≤ i → i < a.length → R (gx a' i) (js i) (js (i + 1)) ∧ j ≤ js i := by
    intro m
    induction m with
    | zero =>
      intro k s j hk hl _ h0 h1
      have e : k = a.length := by omega
      subst e
      exact ⟨s, fun _ => j, rfl, hl, rfl, Int.le_refl _, h1, fun _ _ => rfl, fun i h1 h2 => by omega⟩
    | succ m ih =>
      intro k s j hk hl hs h0 h1
      have hle : B * (k : Int) + B ≤ B * a.length := by
        have : (k : Int) + 1 ≤ a.length := by omega
        have := Int.mul_le_mul_of_nonneg_left this hB
        rw [Int.mul_add, Int.mul_one] at this
        exact this
      obtain ⟨e, j', hf, g1, g2, hR⟩ := h k s j (by omega) hl (hs k (Nat.le_refl _) (by omega)) h0 (by omega)
      obtain ⟨a', js, i1, i2, i3, i3', i4, i5, i6⟩ := ih (k + 1) (s.set k e) j' (by omega) (by simpa using hl) (fun i h1 h2 => by rw [gx_set_ne (by omega)]; exact hs i (by omega) h2) (by omega) (by
        have e1 : B * ((k + 1 : Nat) : Int) = B * k + B := by rw [Int.natCast_add, Int.mul_add]; simp
        rw [e1]; omega)
      refine ⟨a', fun i => if i = k then j else js i, ?_, i2, by simp, ?_, ?_, fun i hi => ?_, fun i h1 h2 => ?_⟩
      · rw [forO, hf]
        have hne : a.length ≠ k := by omega
        simp only [Option.bind_some, hne, if_false]
        exact i1
      · have hne : a.length ≠ k := by omega
        simp only [hne, if_false]
        omega
      · have hne : a.length ≠ k := by omega
        simp only [hne, if_false]
        exact i4
      · rw [i5 i (by omega), gx_set_ne (by omega)]
      · rcases Nat.eq_or_lt_of_le h1 with e1 | e1
        · subst e1
          have hne : k + 1 ≠ k := by omega
          simp only [if_true, hne, if_false]
          rw [i3, i5 k (by omega), gx_set (by omega)]
          exact ⟨hR, Int.le_refl _⟩
        · have n1 : i ≠ k := by omega
          have n2 : i + 1 ≠ k := by omega
          simp only [n1, n2, if_false]
          obtain ⟨q1, q2⟩ := i6 i (by omega) h2
          exact ⟨q1, by omega⟩
  obtain ⟨a', js, i1, i2, i3, i3', i4, _, i6⟩ := key a.length 0 a j0 (by omega) rfl (fun _ _ _ => rfl) (Int.le_refl _) (by simp)
  refine ⟨a', js, ?_, i2, i3, i3', i4, fun k hk => i6 k (Nat.zero_le _) hk⟩
  unfold lpO
  rw [i1]; rfl
theorem held_list {C : Type} {f : Nat → Int → Option (Res Int C)} {N : Nat} (js : Nat → Int) {j0 : Int} (h0 : js 0 = j0) (h : ∀ k, k < N → f k (js k) = some (.next (js (k + 1)))) : forO f N 0 j0 = some (.inl (js N)) := forO_st js h0.symm h
/-- Sizes: each round takes off what an element has, or ends. -/
theorem size_list {f : Nat → Int → Option (Res Int Int)} {N : Nat} (P : Nat → Prop) (l : Int) (h : ∀ k j, k < N → 0 ≤ j → j ≤ l → (f k j = some (.ret (-1))) ∨ ∃ j', f k j = some (.next j') ∧ 0 ≤ j' ∧ j' ≤ j ∧ P k) (hl : 0 ≤ l) :
    forO f N 0 l = some (.inr (-1)) ∨ ∃ j, forO f N 0 l = some (.inl j) ∧ 0 ≤ j ∧ j ≤ l ∧ ∀ k, k < N → P k := by
  have key : ∀ m k j, k + m = N → 0 ≤ j → j ≤ l → (∀ i, i < k → P i) → forO f m k j = some (.inr (-1)) ∨ ∃ j', forO f m k j = some (.inl j') ∧ 0 ≤ j' ∧ j' ≤ l ∧ ∀ i, i < N → P i := by
    intro m
    induction m with
    | zero => intro k j hk h0 h1 hP; exact .inr ⟨j, rfl, h0, h1, fun i hi => hP i (by omega)⟩
    | succ m ih =>
      intro k j hk h0 h1 hP
      rcases h k j (by omega) h0 h1 with hr | ⟨j', hr, g1, g2, g3⟩
      · left; rw [forO, hr]; rfl
      · rw [forO, hr]
        exact ih (k + 1) j' (by omega) g1 (by omega) (fun i hi => by
          rcases Nat.lt_or_ge i k with h | h
          · exact hP i h
          · have : i = k := by omega
            subst this; exact g3)
  exact key N 0 l (by omega) hl (Int.le_refl _) (fun i hi => by omega)
theorem all_of_gx {α : Type} [Rep α] {xs : List α} {P : α → Prop} (h : ∀ k, k < xs.length → P (gx xs k)) : ∀ x ∈ xs, P x := fun x hx => by
  obtain ⟨i, hi, rfl⟩ := List.getElem_of_mem hx
  have := h i hi
  rwa [gx_lt hi] at this

-- type GAct
instance : Sm GAct := ⟨fun _ => True⟩

@[simp] theorem eq_Act (a : GAct) : laws_eqAct a a = some true := by simp [laws_eqAct]

def inR (x a b : Int) : Bool := decide (x ≥ a) && decide (x ≤ b)
theorem inR_iff {x a b : Int} : inR x a b = true ↔ a ≤ x ∧ x ≤ b := by simp [inR]
theorem inR_not {x a b : Int} : inR x a b = false ↔ ¬(a ≤ x ∧ x ≤ b) := by rw [← inR_iff]; simp

@[simp] theorem l01In_eq (x a b : Int) : spec_l01In x a b = some (inR x a b) := rfl

@[simp] theorem within_eq (x a b : Int) : impl_within x a b = some (inR x a b) := rfl

theorem forO_allSt {S C : Type} {f : Nat → S → Option (Res S C)} {N : Nat} (p : Nat → Bool) (st : Nat → S) {s0 : S} (h0 : s0 = st 0) {c : C} (h : ∀ k, k < N → (∀ j, j < k → p j = true) → f k (st k) = some (bif p k then .next (st (k + 1)) else .ret c)) : forO f N 0 s0 = some (bif (List.range N).all p then .inl (st N) else .inr c) := by
  have hmin : ∀ n, (∀ j, j < n → p j = true) ∨ ∃ k, k < n ∧ p k = false ∧ ∀ j, j < k → p j = true := by
    intro n
    induction n with
    | zero => left; intro j hj; omega
    | succ n ih =>
      rcases ih with ih | ⟨k, h1, h2, h3⟩
      · cases hp : p n with
        | true => left; intro j hj; rcases Nat.lt_or_ge j n with hlt | hge
                  · exact ih j hlt
                  · rw [show j = n by omega]; exact hp
        | false => right; exact ⟨n, by omega, hp, ih⟩
      · right; exact ⟨k, by omega, h2, h3⟩
  rcases hmin N with hall | ⟨K, hK, hp, hlt⟩
  · have : (List.range N).all p = true := by
      rw [List.all_eq_true]; intro k hk; exact hall k (by simpa using hk)
    rw [this]
    exact forO_st st h0 fun k hk => by rw [h k hk (fun j hj => hall j (by omega)), hall k hk]; rfl
  · have : (List.range N).all p = false := by
      rw [List.all_eq_false]; exact ⟨K, by simpa using hK, by simp [hp]⟩
    rw [this]
    exact forO_retAt st h0 K hK (fun k hk => by rw [h k (by omega) (fun j hj => hlt j (by omega)), hlt k hk]; rfl) (by rw [h K hK hlt, hp]; rfl)

def ActOkM (a : GAct) : Bool := bif a.Kind == 1 then inR a.A 1 999 && (a.B == 0) else bif a.Kind == 2 then inR a.A 1 999 && inR a.B 0 9 else bif a.Kind == 3 || a.Kind == 6 then inR a.A 0 9 && (a.B == 0) else bif a.Kind == 4 || a.Kind == 5 then (a.A == 0) && (a.B == 0) else false

theorem spec_ActOk_eq (a : GAct) : spec_ActOk a = some (ActOkM a) := by
  unfold spec_ActOk ActOkM
  simp only [l01In_eq, Option.bind_some]
  cases a.Kind == 1
  · cases a.Kind == 2
    · cases a.Kind == 3 || a.Kind == 6
      · cases a.Kind == 4 || a.Kind == 5 <;> rfl
      · cases inR a.A 0 9 <;> rfl
    · cases inR a.A 1 999 <;> rfl
  · cases inR a.A 1 999 <;> rfl

theorem impl_ActOk_eq (a : GAct) : impl_ActOk a = some (ActOkM a) := by
  unfold impl_ActOk ActOkM
  simp only [within_eq, Option.bind_some]
  cases a.Kind == 1
  · cases a.Kind == 2
    · cases a.Kind == 3 || a.Kind == 6
      · cases a.Kind == 4 <;> cases a.Kind == 5 <;> rfl
      · cases inR a.A 0 9 <;> rfl
    · cases inR a.A 1 999 <;> rfl
  · cases inR a.A 1 999 <;> rfl

theorem seq_self (s : Str) : seq s s = true := by unfold seq; simp

theorem dec_len : ∀ (k u : Nat), u < 10 ^ (k + 1) → (Lib.decDigits u).length ≤ k + 1
  | 0, u, h => by rw [Lib.decDigits, dif_pos (by simpa using h)]; simp
  | k + 1, u, h => by
    by_cases hu : u < 10
    · rw [Lib.decDigits, dif_pos hu]; simp
    · rw [Nat.pow_succ] at h
      rw [Lib.decDigits, dif_neg hu, List.length_append]
      have := dec_len k (u / 10) (by omega)
      simp; omega
theorem itoa_nat {n : Int} (h0 : 0 ≤ n) : Lib.itoa n = Lib.decDigits n.toNat := by
  unfold Lib.itoa
  rw [if_neg (by omega)]
theorem itoa_len {n : Int} (h0 : 0 ≤ n) (h1 : n ≤ 1000000000) : (Lib.itoa n).length ≤ 10 := by
  rw [itoa_nat h0]
  exact dec_len 9 _ (by have : (10 : Nat) ^ (9 + 1) = 10000000000 := by decide
                        omega)

theorem impl_FormatInt_b_eq {n : Int} (h0 : 0 ≤ n) (h1 : n ≤ 1000000000) : impl_FormatInt_b n = some ⟨Lib.itoa n⟩ := by
  unfold impl_FormatInt_b strconv_Itoa_b
  rw [gd_pos ⟨by omega, by omega⟩]
  rfl

theorem spec_figure {m : Nat} (h : m < 10) : spec_l01Figure ((m : Nat) : Int) = some (UInt8.ofNat (48 + m)) := by
  unfold spec_l01Figure u8of
  rw [decide_eq_true (show ((m : Nat) : Int) < 10 by omega), cond_true, wr_of (by omega) (by omega)]
  have : ((48 + (m : Int)) % 256).toNat = 48 + m := by omega
  rw [this]
theorem spec_digits : ∀ (k m : Nat), m ≤ k → 0 < m → m ≤ 1000000000 → ∀ (s : Str) (fuel : Nat), s.b.length + m ≤ 2000000000 → m + 1 < fuel → whO spec_FormatInt_L1 fuel ((m : Int), s) = some (.inl (0, ⟨Lib.decDigits m ++ s.b⟩))
  | 0, m, hk, hm, _, _, _, _, _ => absurd hm (by omega)
  | k + 1, m, hk, hm, hb, s, fuel, hs, hf => by
    obtain ⟨fuel, rfl⟩ : ∃ q, fuel = q + 1 := ⟨fuel - 1, by omega⟩
    have hstep : spec_FormatInt_L1 ((m : Int), s) = some (.next (((m / 10 : Nat) : Int), ⟨UInt8.ofNat (48 + m % 10) :: s.b⟩)) := by
      unfold spec_FormatInt_L1
      have h1 : (((m : Int) != 0)) = true := by simp; omega
      have h2 : (m : Int).tmod 10 = ((m % 10 : Nat) : Int) := rfl
      have h3 : (m : Int).tdiv 10 = ((m / 10 : Nat) : Int) := rfl
      simp only [h1, cond_true, h2, h3]
      rw [decide_eq_false (show ¬ ((m % 10 : Nat) : Int) < 0 by omega), cond_false, spec_figure (by omega)]
      simp only [Option.bind_some, List.length_cons, List.length_nil]
      rw [gd_pos (by omega), wr_of (by omega) (by omega)]
      rfl
    rw [whO, hstep]
    simp only [Option.bind_some]
    by_cases h10 : m < 10
    · obtain ⟨fuel, rfl⟩ : ∃ q, fuel = q + 1 := ⟨fuel - 1, by omega⟩
      have e0 : m / 10 = 0 := by omega
      have e1 : m % 10 = m := by omega
      rw [e0, e1, Lib.decDigits, dif_pos h10, whO]
      rfl
    · rw [spec_digits k (m / 10) (by omega) (by omega) (by omega) _ fuel (by simp only [List.length_cons]; omega) (by omega)]
      rw [show Lib.decDigits m = Lib.decDigits (m / 10) ++ [UInt8.ofNat (48 + m % 10)] by rw [Lib.decDigits, dif_neg h10]]
      simp
theorem spec_FormatInt_all {n : Int} (h0 : 0 ≤ n) (h1 : n ≤ 1000000000) : spec_FormatInt n = some ⟨Lib.itoa n⟩ := by
  obtain ⟨m, rfl⟩ := Int.eq_ofNat_of_zero_le h0
  rw [itoa_nat h0, Int.toNat_natCast]
  unfold spec_FormatInt
  by_cases hz : m = 0
  · subst hz
    rw [Lib.decDigits]
    rfl
  · have hb : (((m : Nat) : Int) == 0) = false := by simpa using hz
    rw [hb, cond_false]
    have := spec_digits m m (Nat.le_refl _) (by omega) (by omega) ⟨[]⟩ 18446744073709551616 (by simp only [List.length_nil]; omega) (by omega)
    unfold wlO
    rw [this]
    simp only [Option.map_some, lpk, Option.bind_some]
    rw [decide_eq_false (show ¬ ((m : Nat) : Int) < 0 by omega)]
    simp

/-- Numbers behind blanks. -/
def numsL (ns : List Int) : List UInt8 := (ns.map fun n => 32 :: Lib.itoa n).flatten
def lineL (word : List UInt8) (ns : List Int) : List UInt8 := word ++ numsL ns
theorem numsL_len : ∀ {ns : List Int}, (∀ n ∈ ns, 0 ≤ n ∧ n ≤ 1000000000) → (numsL ns).length ≤ 11 * ns.length
  | [], _ => by simp [numsL]
  | n :: ns, h => by
    have h1 := numsL_len (ns := ns) fun x hx => h x (by simp [hx])
    have h2 := itoa_len (h n (by simp)).1 (h n (by simp)).2
    unfold numsL at h1 ⊢
    simp only [List.map_cons, List.flatten_cons, List.length_append, List.length_cons]
    omega
theorem lineL_len {word : List UInt8} {ns : List Int} (hw : word.length ≤ 100) (h : ∀ n ∈ ns, 0 ≤ n ∧ n ≤ 1000000000) (hl : ns.length ≤ 100) : (lineL word ns).length ≤ 1200 := by
  have := numsL_len h
  unfold lineL
  rw [List.length_append]; omega

theorem impl_lineOf_eq {word : Str} {ns : List Int} (hw : word.b.length ≤ 100) (h : ∀ n ∈ ns, 0 ≤ n ∧ n ≤ 1000000000) (hl : ns.length ≤ 100) : impl_lineOf word ns = some ⟨lineL word.b ns⟩ := by
  have hlen := lineL_len hw h hl
  unfold impl_lineOf
  rw [gd_pos (by omega), lpO_app (f := impl_lineOf_L1 ns) (xs := [word]) (fun k => (⟨Lib.itoa (gx ns k)⟩ : Str)) (fun k s hk hs => by
    have hn := h _ (gx_mem hk)
    unfold impl_lineOf_L1
    rw [impl_FormatInt_b_eq hn.1 hn.2]
    simp only [Option.bind_some]
    rw [gd_pos (by simp at hs; omega)])]
  simp only [Option.bind_some]
  rw [map_gx (fun n => (⟨Lib.itoa n⟩ : Str)) ns]
  have hj : Lib.join ((([word] : List Str) ++ ns.map fun n => (⟨Lib.itoa n⟩ : Str)).map Str.b) [32] = lineL word.b ns := by
    rw [List.singleton_append, List.map_cons, List.map_map, Lib.join_cons]
    unfold lineL numsL Lib.joinTail
    rw [List.map_map]
    rfl
  unfold strings_Join
  simp only [hj]
  rw [gd_pos ⟨by simp; omega, by omega⟩]
  rfl

/-- A loop that writes numbers behind a word. -/
theorem line_loop {f : Nat → Str → Option (Res Str Empty)} {N : Nat} {x : Nat → Int} (word : Str) (hw : word.b.length ≤ 100) (hx : ∀ k, k < N → 0 ≤ x k ∧ x k ≤ 1000000000) (hN : N ≤ 100) (h : ∀ k s, k < N → s.b.length ≤ 1200 → f k s = some (.next (sadd (sadd s ⟨[32]⟩) ⟨Lib.itoa (x k)⟩))) : lpO f N word = some ⟨lineL word.b ((List.range N).map x)⟩ :=
  lpO_st (fun k => (⟨lineL word.b ((List.range k).map x)⟩ : Str)) (by simp [lineL, numsL]) fun k hk => by
    have hlen : (lineL word.b ((List.range k).map x)).length ≤ 1200 := lineL_len hw (fun n hn => by
      obtain ⟨j, hj, rfl⟩ := List.mem_map.1 hn
      have hj' : j < k := by simpa using hj
      exact hx j (by omega)) (by simp; omega)
    rw [h k ⟨lineL word.b ((List.range k).map x)⟩ hk hlen]
    simp [List.range_succ, lineL, numsL, sadd]

def actWord (k : Int) : List UInt8 := bif k == 1 then [97, 100, 109, 105, 116] else bif k == 2 then [115, 117, 98, 109, 105, 116] else bif k == 3 then [115, 101, 119] else bif k == 6 then [108, 97, 99, 107] else bif k == 4 then [114, 111, 117, 110, 100] else [121, 101, 97, 114]
def actArgs (a : GAct) : List Int := bif a.Kind == 2 then [a.A, a.B] else bif a.Kind == 4 || a.Kind == 5 then [] else [a.A]
def actL (a : GAct) : Str := ⟨lineL (actWord a.Kind) (actArgs a)⟩
def FormatActM (a : GAct) : Str × Bool := bif ActOkM a then (actL a, true) else (⟨[]⟩, false)
theorem actOk_cases {a : GAct} (h : ActOkM a = true) : (a.Kind = 1 ∨ a.Kind = 2 ∨ a.Kind = 3 ∨ a.Kind = 4 ∨ a.Kind = 5 ∨ a.Kind = 6) ∧ 0 ≤ a.A ∧ a.A ≤ 999 ∧ 0 ≤ a.B ∧ a.B ≤ 9 := by
  unfold ActOkM at h
  cases k1 : a.Kind == 1
  · cases k2 : a.Kind == 2
    · cases k3 : a.Kind == 3
      · cases k6 : a.Kind == 6
        · cases k4 : a.Kind == 4
          · cases k5 : a.Kind == 5
            · rw [k1, k2, k3, k4, k5, k6] at h; cases h
            · rw [k1, k2, k3, k4, k5, k6] at h
              simp at h k5
              exact ⟨by omega, by omega, by omega, by omega, by omega⟩
          · rw [k1, k2, k3, k4, k6] at h
            simp at h k4
            exact ⟨by omega, by omega, by omega, by omega, by omega⟩
        · rw [k1, k2, k3, k6] at h
          simp [inR] at h k6
          exact ⟨by omega, by omega, by omega, by omega, by omega⟩
      · rw [k1, k2, k3] at h
        simp [inR] at h k3
        exact ⟨by omega, by omega, by omega, by omega, by omega⟩
    · rw [k1, k2] at h
      simp [inR] at h k2
      exact ⟨by omega, by omega, by omega, by omega, by omega⟩
  · rw [k1] at h
    simp [inR] at h k1
    exact ⟨by omega, by omega, by omega, by omega, by omega⟩

theorem impl_FormatAct_eq (a : GAct) : impl_FormatAct a = some (FormatActM a) := by
  unfold impl_FormatAct FormatActM
  rw [impl_ActOk_eq]
  simp only [Option.bind_some]
  cases h : ActOkM a
  · rfl
  obtain ⟨hk, a0, a1, b0, b1⟩ := actOk_cases h
  have one : ∀ n ∈ ([a.A] : List Int), 0 ≤ n ∧ n ≤ 1000000000 := fun n hn => by
    rw [List.mem_singleton.1 hn]; omega
  have two : ∀ n ∈ ([a.A, a.B] : List Int), 0 ≤ n ∧ n ≤ 1000000000 := fun n hn => by
    simp only [List.mem_cons, List.not_mem_nil, or_false] at hn
    rcases hn with rfl | rfl <;> omega
  simp only [Bool.not_true, cond_false, cond_true]
  rw [impl_lineOf_eq (by simp) one (by simp), impl_lineOf_eq (by simp) two (by simp), impl_lineOf_eq (by simp) one (by simp), impl_lineOf_eq (by simp) one (by simp)]
  unfold actL actWord actArgs
  rcases hk with k | k | k | k | k | k <;> rw [k] <;> rfl

theorem spec_FormatAct_eq (a : GAct) : spec_FormatAct a = some (FormatActM a) := by
  unfold spec_FormatAct FormatActM
  rw [spec_ActOk_eq]
  simp only [Option.bind_some]
  cases h : ActOkM a
  · rfl
  obtain ⟨hk, a0, a1, b0, b1⟩ := actOk_cases h
  have hx : ∀ k : Nat, k < 2 → 0 ≤ gx ([a.A, a.B] : List Int) k ∧ gx ([a.A, a.B] : List Int) k ≤ 1000000000 := fun k hk => by
    have h2 : k = 0 ∨ k = 1 := by omega
    rcases h2 with rfl | rfl
    · show 0 ≤ a.A ∧ a.A ≤ 1000000000; omega
    · show 0 ≤ a.B ∧ a.B ≤ 1000000000; omega
  have lp : ∀ (N : Nat) (word : Str), N ≤ 2 → word.b.length ≤ 100 → lpO (spec_FormatAct_L1 a) N word = some ⟨lineL word.b ((List.range N).map fun k => gx ([a.A, a.B] : List Int) k)⟩ := fun N word hN hw => line_loop word hw (fun k hk => hx k (by omega)) (by omega) fun k s hk hs => by
    have h1 := hx k (by omega)
    have h2 := itoa_len h1.1 h1.2
    unfold spec_FormatAct_L1
    rw [gd_pos (by simp only [List.length_cons, List.length_nil]; omega), gd_pos (by simp only [List.length_cons, List.length_nil]; omega), spec_FormatInt_all h1.1 h1.2]
    simp only [Option.bind_some, sadd, List.length_append, List.length_cons, List.length_nil]
    rw [gd_pos (by omega)]
  simp only [Bool.not_true, cond_false, cond_true]
  have hkr : 1 ≤ a.Kind ∧ a.Kind ≤ 6 := by omega
  rw [gd_pos ⟨by omega, by simp only [List.length_cons, List.length_nil]; omega⟩, gd_pos ⟨by omega, by simp only [List.length_cons, List.length_nil]; omega⟩]
  unfold actL actWord actArgs
  rcases hk with k | k | k | k | k | k <;> rw [k]
  · rw [show (gx ([0, 1, 2, 1, 0, 0, 1] : List Int) (1 : Int).toNat).toNat = 1 from rfl, gd_pos (by omega), lp 1 _ (by omega) (by decide)]; rfl
  · rw [show (gx ([0, 1, 2, 1, 0, 0, 1] : List Int) (2 : Int).toNat).toNat = 2 from rfl, gd_pos (by omega), lp 2 _ (by omega) (by decide)]; rfl
  · rw [show (gx ([0, 1, 2, 1, 0, 0, 1] : List Int) (3 : Int).toNat).toNat = 1 from rfl, gd_pos (by omega), lp 1 _ (by omega) (by decide)]; rfl
  · rw [show (gx ([0, 1, 2, 1, 0, 0, 1] : List Int) (4 : Int).toNat).toNat = 0 from rfl, gd_pos (by omega), lp 0 _ (by omega) (by decide)]; rfl
  · rw [show (gx ([0, 1, 2, 1, 0, 0, 1] : List Int) (5 : Int).toNat).toNat = 0 from rfl, gd_pos (by omega), lp 0 _ (by omega) (by decide)]; rfl
  · rw [show (gx ([0, 1, 2, 1, 0, 0, 1] : List Int) (6 : Int).toNat).toNat = 1 from rfl, gd_pos (by omega), lp 1 _ (by omega) (by decide)]; rfl

theorem decFrom_snoc {l : List UInt8} {b : UInt8} {n d : Nat} (h : Lib.decFrom 0 l = some n) (hd : Lib.digitVal b = some d) : Lib.decFrom 0 (l ++ [b]) = some (n * 10 + d) := by
  have := Lib.decFrom_take (l ++ [b]) l.length 0 n b d (by simpa using h) (by simp) hd
  rwa [List.take_of_length_le (by simp)] at this
theorem fig_nat {m : Nat} (h : m < 10) : (UInt8.ofNat (48 + m)).toNat = 48 + m := by
  rw [UInt8.toNat_ofNat']
  omega
theorem fig_val {m : Nat} (h : m < 10) : Lib.digitVal (UInt8.ofNat (48 + m)) = some m := by
  unfold Lib.digitVal
  rw [fig_nat h, if_pos (by omega)]
  congr 1; omega
theorem dec_val : ∀ (k m : Nat), m ≤ k → Lib.decFrom 0 (Lib.decDigits m) = some m
  | 0, m, h => by
    have e : m = 0 := by omega
    subst e
    rw [Lib.decDigits, dif_pos (by omega)]; rfl
  | k + 1, m, h => by
    by_cases h10 : m < 10
    · rw [Lib.decDigits, dif_pos h10]
      have := decFrom_snoc (l := []) (n := 0) rfl (fig_val h10)
      simpa using this
    · rw [Lib.decDigits, dif_neg h10, decFrom_snoc (dec_val k (m / 10) (by omega)) (fig_val (by omega))]
      congr 1; omega
theorem dec_bytes {m : Nat} {b : UInt8} (hb : b ∈ Lib.decDigits m) : 48 ≤ b.toNat ∧ b.toNat ≤ 57 := by
  obtain ⟨i, hi⟩ := List.mem_iff_getElem?.1 hb
  obtain ⟨d, hd⟩ := Lib.digit_of_decFrom _ _ _ (dec_val m m (Nat.le_refl _)) i b hi
  have := Lib.digitVal_eq hd
  omega
theorem dec_ne {m : Nat} : Lib.decDigits m ≠ [] := by
  rw [Lib.decDigits]
  split <;> simp
theorem atoi_dec (m : Nat) : Lib.atoi (Lib.decDigits m) = some (m : Int) := by
  have hv := dec_val m m (Nat.le_refl _)
  cases hd : Lib.decDigits m with
  | nil => exact absurd hd dec_ne
  | cons b r =>
    have hb := dec_bytes (m := m) (b := b) (by rw [hd]; simp)
    rw [hd] at hv
    have h1 : (b == 45) = false := by
      rw [beq_eq_false_iff_ne]
      intro e; subst e
      have : (45 : UInt8).toNat = 45 := rfl
      omega
    have h2 : (b == 43) = false := by
      rw [beq_eq_false_iff_ne]
      intro e; subst e
      have : (43 : UInt8).toNat = 43 := rfl
      omega
    simp [Lib.atoi, h1, h2, Lib.decNat, hv]
theorem itoa_inj {n m : Int} (h0 : 0 ≤ n) (h1 : 0 ≤ m) (h : Lib.itoa n = Lib.itoa m) : n = m := by
  rw [itoa_nat h0, itoa_nat h1] at h
  have a := atoi_dec n.toNat
  have b := atoi_dec m.toNat
  rw [h, b] at a
  have := Option.some.inj a
  omega
theorem itoa_bytes {n : Int} (h0 : 0 ≤ n) {b : UInt8} (hb : b ∈ Lib.itoa n) : 48 ≤ b.toNat ∧ b.toNat ≤ 57 := by
  rw [itoa_nat h0] at hb
  exact dec_bytes hb
theorem itoa_ne {n : Int} (h0 : 0 ≤ n) : Lib.itoa n ≠ [] := by
  rw [itoa_nat h0]
  exact dec_ne

theorem impl_within_b (n a b : Int) : impl_within n a b = some (decide (n ≥ a) && decide (n ≤ b)) := rfl
theorem impl_ParseUint_yes {n : Int} (h0 : 0 ≤ n) (h1 : n ≤ 1000000000) : impl_ParseUint ⟨Lib.itoa n⟩ = some (n, true) := by
  have hl := itoa_len h0 h1
  unfold impl_ParseUint
  rw [decide_eq_false (show ¬ (((Lib.itoa n).length : Nat) : Int) > 10 by omega), cond_false]
  unfold strconv_Atoi
  rw [gd_pos (show (Lib.itoa n).length ≤ 18 by omega)]
  have ha : Lib.atoi (Lib.itoa n) = some n := by
    rw [itoa_nat h0, atoi_dec]
    congr 1; omega
  simp only [ha, Option.bind_some, impl_within_b, cond_false]
  rw [decide_eq_true (show n ≥ 0 from h0), decide_eq_true (show n ≤ 1000000000 from h1)]
  simp only [Bool.and_self, Bool.not_true, cond_false]
  rw [impl_FormatInt_b_eq h0 h1]
  simp only [Option.bind_some, seq_self, Bool.not_true, cond_false]
theorem impl_ParseUint_no {s : Str} (h : ∀ n : Int, 0 ≤ n → n ≤ 1000000000 → s.b ≠ Lib.itoa n) : impl_ParseUint s = some (0, false) := by
  unfold impl_ParseUint
  cases hd : decide (((s.b.length : Nat) : Int) > 10)
  · have hl : s.b.length ≤ 10 := by simp at hd; omega
    simp only [cond_false]
    unfold strconv_Atoi
    rw [gd_pos (show s.b.length ≤ 18 by omega)]
    cases ha : Lib.atoi s.b with
    | none => simp only [Option.bind_some, cond_true]
    | some n =>
      simp only [Option.bind_some, impl_within_b, cond_false]
      cases hw : decide (n ≥ 0) && decide (n ≤ 1000000000)
      · simp only [Bool.not_false, cond_true, Option.bind_some]
      · simp only [Bool.and_eq_true, decide_eq_true_eq] at hw
        simp only [Bool.not_true, cond_false]
        rw [impl_FormatInt_b_eq hw.1 hw.2]
        have hs : seq ⟨Lib.itoa n⟩ s = false := by
          unfold seq
          rw [beq_eq_false_iff_ne]
          exact fun e => h n hw.1 hw.2 e.symm
        simp only [Option.bind_some, hs, Bool.not_false, cond_true]
  · simp only [cond_true]

/-- The number that digits spell. -/
def dval : List UInt8 → Nat → Nat
  | [], n => n
  | b :: r, n => dval r (10 * n + (b.toNat - 48))
theorem dval_snoc : ∀ (l : List UInt8) (b : UInt8) (n : Nat), dval (l ++ [b]) n = 10 * dval l n + (b.toNat - 48)
  | [], _, _ => rfl
  | _ :: r, b, _ => dval_snoc r b _
theorem dval_dec : ∀ (k m : Nat), m ≤ k → dval (Lib.decDigits m) 0 = m
  | 0, m, h => by
    have e : m = 0 := by omega
    subst e
    rw [Lib.decDigits, dif_pos (by omega)]; rfl
  | k + 1, m, h => by
    by_cases h10 : m < 10
    · rw [Lib.decDigits, dif_pos h10]
      have := dval_snoc [] (UInt8.ofNat (48 + m)) 0
      rw [List.nil_append] at this
      rw [this, fig_nat h10]
      show 10 * 0 + (48 + m - 48) = m
      omega
    · rw [Lib.decDigits, dif_neg h10, dval_snoc, dval_dec k (m / 10) (by omega), fig_nat (by omega)]
      omega
def isDg (b : UInt8) : Bool := !(decide ((b.toNat : Int) < 48) || decide ((b.toNat : Int) > 57))
theorem isDg_iff {b : UInt8} : isDg b = true ↔ 48 ≤ b.toNat ∧ b.toNat ≤ 57 := by
  unfold isDg
  simp
  omega
theorem dval_take_lt {l : List UInt8} : ∀ k, k ≤ l.length → (∀ j, j < k → isDg (l.getD j 0) = true) → dval (l.take k) 0 < 10 ^ k
  | 0, _, _ => by simp [dval]
  | k + 1, hk, h => by
    have h1 := dval_take_lt k (by omega) fun j hj => h j (by omega)
    have h2 := isDg_iff.1 (h k (by omega))
    have hx : l[k]? = some l[k] := List.getElem?_eq_getElem (by omega)
    have hg : l.getD k 0 = l[k] := by simp [List.getD, hx]
    rw [hg] at h2
    rw [List.take_add_one, hx]
    simp only [Option.toList]
    rw [dval_snoc, Nat.pow_succ]
    omega

theorem spec_ParseUint_loop {s : Str} (hl : s.b.length ≤ 10) : forO (spec_ParseUint_L1 s) s.b.length 0 0 = some (bif (List.range s.b.length).all (fun k => isDg (s.b.getD k 0)) then .inl ((dval s.b 0 : Nat) : Int) else .inr ((0 : Int), false)) := by
  rw [forO_allSt (f := spec_ParseUint_L1 s) (N := s.b.length) (s0 := 0) (c := ((0 : Int), false)) (fun k => isDg (s.b.getD k 0)) (fun k => ((dval (s.b.take k) 0 : Nat) : Int)) (by simp [dval]) (fun k hk hp => by
    unfold spec_ParseUint_L1 sat_
    have hlt := dval_take_lt (l := s.b) k (by omega) hp
    have hpw : (10 : Nat) ^ k ≤ 10 ^ 10 := Nat.pow_le_pow_right (by decide) (by omega)
    have e10 : (10 : Nat) ^ 10 = 10000000000 := by decide
    have hx : s.b[k]? = some s.b[k] := List.getElem?_eq_getElem (by omega)
    have hg : s.b.getD k 0 = s.b[k] := by simp [List.getD, hx]
    have hb := s.b[k].toNat_lt
    rw [hg]
    cases hd : isDg s.b[k]
    · have : (decide ((s.b[k].toNat : Int) < 48) || decide ((s.b[k].toNat : Int) > 57)) = true := by simpa only [isDg, Bool.not_eq_eq_eq_not, Bool.not_false] using hd
      rw [this]; rfl
    · have : (decide ((s.b[k].toNat : Int) < 48) || decide ((s.b[k].toNat : Int) > 57)) = false := by simpa only [isDg, Bool.not_eq_eq_eq_not, Bool.not_true] using hd
      rw [this, cond_false, cond_true]
      have h2 := isDg_iff.1 hd
      rw [List.take_add_one, hx]
      simp only [Option.toList]
      rw [dval_snoc, wr_of (n := 10 * _) (by omega) (by omega), wr_of (n := _ + _) (by omega) (by omega), wr_of (by omega) (by omega)]
      congr 2; omega)]
  simp
theorem spec_ParseUint_yes {n : Int} (h0 : 0 ≤ n) (h1 : n ≤ 1000000000) : spec_ParseUint ⟨Lib.itoa n⟩ = some (n, true) := by
  have hl := itoa_len h0 h1
  unfold spec_ParseUint
  rw [decide_eq_false (show ¬ (((Lib.itoa n).length : Nat) : Int) > 10 by omega), cond_false, gd_pos (show (Lib.itoa n).length ≤ 4611686018427387904 by omega), spec_ParseUint_loop (s := ⟨Lib.itoa n⟩) hl]
  have ha : (List.range (Lib.itoa n).length).all (fun k => isDg ((Lib.itoa n).getD k 0)) = true := by
    rw [List.all_eq_true]
    intro k hk
    have hk' : k < (Lib.itoa n).length := by simpa using hk
    have hg : (Lib.itoa n).getD k 0 = (Lib.itoa n)[k] := by simp [List.getD, hk']
    rw [hg]
    exact isDg_iff.2 (itoa_bytes h0 (List.getElem_mem hk'))
  have hv : ((dval (Lib.itoa n) 0 : Nat) : Int) = n := by
    rw [itoa_nat h0, dval_dec _ _ (Nat.le_refl _)]; omega
  simp only [ha, cond_true, sq_inl, hv]
  rw [decide_eq_false (show ¬ n > 1000000000 by omega), cond_false, spec_FormatInt_all h0 h1]
  simp only [Option.bind_some, seq_self, Bool.not_true, cond_false]
theorem spec_ParseUint_no {s : Str} (h : ∀ n : Int, 0 ≤ n → n ≤ 1000000000 → s.b ≠ Lib.itoa n) : spec_ParseUint s = some (0, false) := by
  unfold spec_ParseUint
  cases hd : decide (((s.b.length : Nat) : Int) > 10)
  · have hl : s.b.length ≤ 10 := by simp at hd; omega
    simp only [cond_false]
    rw [gd_pos (by omega), spec_ParseUint_loop hl]
    cases (List.range s.b.length).all (fun k => isDg (s.b.getD k 0))
    · rfl
    · simp only [cond_true, sq_inl]
      generalize dval s.b 0 = m
      cases hm : decide (((m : Nat) : Int) > 1000000000)
      · have hm' : ((m : Nat) : Int) ≤ 1000000000 := by simp at hm; omega
        simp only [cond_false]
        rw [spec_FormatInt_all (by omega) hm']
        have hs : seq ⟨Lib.itoa ((m : Nat) : Int)⟩ s = false := by
          unfold seq
          rw [beq_eq_false_iff_ne]
          exact fun e => h _ (by omega) hm' e.symm
        simp only [Option.bind_some, hs, Bool.not_false, cond_true]
      · simp only [cond_true, Option.bind_some]
  · simp only [cond_true]

theorem uint_em (s : Str) : (∃ n : Int, 0 ≤ n ∧ n ≤ 1000000000 ∧ s = ⟨Lib.itoa n⟩) ∨ ∀ n : Int, 0 ≤ n → n ≤ 1000000000 → s.b ≠ Lib.itoa n := by
  rcases Classical.em (∃ n : Int, 0 ≤ n ∧ n ≤ 1000000000 ∧ s.b = Lib.itoa n) with ⟨n, a, b, c⟩ | h
  · exact .inl ⟨n, a, b, by cases s; simp at c; rw [c]⟩
  · exact .inr fun n a b c => h ⟨n, a, b, c⟩
theorem same_ParseUint' (s : Str) : ∃ r : Int × Bool, spec_ParseUint s = some r ∧ impl_ParseUint s = some r := by
  rcases uint_em s with ⟨n, a, b, rfl⟩ | h
  · exact ⟨_, spec_ParseUint_yes a b, impl_ParseUint_yes a b⟩
  · exact ⟨_, spec_ParseUint_no h, impl_ParseUint_no h⟩

def okB (b : UInt8) : Bool := !(decide ((b.toNat : Int) < 32) || decide ((b.toNat : Int) > 126))
def endF (c : List UInt8) : List Str := bif c.isEmpty then [] else [⟨c⟩]
/-- The fields of a row of bytes, behind the bytes c of a field. -/
def fldF : List UInt8 → List UInt8 → List Str
  | [], c => endF c
  | x :: r, c => bif x == 32 then endF c ++ fldF r [] else fldF r (c ++ [x])
def SplitM (l : Str) : List Str × Bool := bif decide (((l.b.length : Nat) : Int) > 600) then ([], false) else bif l.b.all okB then (bif decide ((((fldF l.b []).length : Nat) : Int) > 24) then ([], false) else (fldF l.b [], true)) else ([], false)
theorem bne32 (x : UInt8) : ((x.toNat : Int) != 32) = !(x == 32) := by
  by_cases h : x = 32
  · subst h; rfl
  · have e : (32 : UInt8).toNat = 32 := rfl
    have h1 : (x == 32) = false := by rw [beq_eq_false_iff_ne]; exact h
    have h2 : x.toNat ≠ (32 : UInt8).toNat := fun e => h (UInt8.toNat_inj.1 e)
    rw [h1]
    simp only [Bool.not_false, bne_iff_ne, ne_eq]
    omega
theorem beq32 (x : UInt8) : ((x.toNat : Int) == 32) = (x == 32) := by
  have := bne32 x
  unfold bne at this
  cases h : ((x.toNat : Int) == 32) <;> rw [h] at this <;> simpa using this
theorem drop_cons' {l : List UInt8} {k : Nat} (h : k < l.length) : l.drop k = sat_ ⟨l⟩ k :: l.drop (k + 1) := by
  rw [List.drop_eq_getElem_cons h]
  congr 1
  simp [sat_, List.getD, h]
theorem take_more {l : List UInt8} {b k : Nat} {c : List UInt8} (h : k < l.length) (hb : b + c.length = k) (hc : (l.drop b).take c.length = c) : (l.drop b).take (c ++ [sat_ ⟨l⟩ k]).length = c ++ [sat_ ⟨l⟩ k] := by
  rw [List.length_append, List.length_singleton, List.take_add_one, hc]
  congr 1
  rw [List.getElem?_drop, hb]
  simp [sat_, List.getD, h]

theorem spec_split_go (l : Str) (hl : l.b.length ≤ 600) : ∀ (m k b : Nat) (d : List Str) (c : List UInt8), k + m = l.b.length + 1 → b + c.length = k → (l.b.drop b).take c.length = c → d.length ≤ k → k ≤ l.b.length →
    forO (spec_SplitFields_L1 l) m k (d, (b : Int)) = some (bif (l.b.drop k).all okB then .inl (d ++ fldF (l.b.drop k) c, ((l.b.length + 1 : Nat) : Int)) else .inr (([] : List Str), false))
  | 0, k, b, d, c, hk, _, _, _, hle => by omega
  | m + 1, k, b, d, c, hk, hb, hc, hd, hle => by
    have hsub : ssub l b k = ⟨c⟩ := by unfold ssub; rw [show k - b = c.length by omega, hc]
    have fin : (bif decide ((b : Int) < ((k : Nat) : Int)) then gd (0 ≤ (b : Int) ∧ ((b : Int)).toNat ≤ k ∧ k ≤ l.b.length) <| gd (d.length + 1 ≤ 1099511627776) <| some (d ++ [ssub l (((b : Int)).toNat) k]) else some d) = some (d ++ endF c) := by
      cases c with
      | nil =>
        have e : b = k := by simpa using hb
        rw [decide_eq_false (by omega)]
        simp [endF]
      | cons y r =>
        have e : b < k := by simp at hb; omega
        rw [decide_eq_true (by omega), cond_true, gd_pos ⟨by omega, by omega, hle⟩, gd_pos (by omega), Int.toNat_natCast, hsub]
        rfl
    rw [forO]
    rcases Nat.lt_or_ge k l.b.length with hlt | hge
    · have hk1 : decide (((k : Nat) : Int) < ((l.b.length : Nat) : Int)) = true := decide_eq_true (by omega)
      have step : spec_SplitFields_L1 l k (d, (b : Int)) = some (bif okB (sat_ l k) then (bif sat_ l k == 32 then .next (d ++ endF c, ((k + 1 : Nat) : Int)) else .next (d, (b : Int))) else .ret (([] : List Str), false)) := by
        unfold spec_SplitFields_L1 okB
        simp only [hk1, cond_true, gd_pos hlt, fin, bne32, Option.bind_some]
        cases h1 : decide (((sat_ l k).toNat : Int) < 32)
        · cases h2 : decide (((sat_ l k).toNat : Int) > 126)
          · cases h3 : sat_ l k == 32 <;> rfl
          · rfl
        · rfl
      rw [step, drop_cons' hlt]
      simp only [Option.bind_some, List.all_cons, fldF]
      have hsat : sat_ (⟨l.b⟩ : Str) k = sat_ l k := rfl
      rw [hsat]
      cases ho : okB (sat_ l k)
      · simp only [cond_false, Bool.false_and]
      · simp only [cond_true, Bool.true_and]
        cases h3 : sat_ l k == 32
        · simp only [cond_false]
          exact spec_split_go l hl m (k + 1) b d (c ++ [sat_ l k]) (by omega) (by rw [List.length_append, List.length_singleton]; omega) (take_more hlt hb hc) (by omega) (by omega)
        · simp only [cond_true]
          have hel : (endF c).length ≤ 1 := by unfold endF; cases c.isEmpty <;> simp
          rw [spec_split_go l hl m (k + 1) (k + 1) (d ++ endF c) [] (by omega) (by simp) (by simp) (by rw [List.length_append]; omega) (by omega), List.append_assoc]
    · have e : k = l.b.length := by omega
      subst e
      have hk1 : decide (((l.b.length : Nat) : Int) < ((l.b.length : Nat) : Int)) = false := decide_eq_false (by omega)
      have step : spec_SplitFields_L1 l l.b.length (d, (b : Int)) = some (.next (d ++ endF c, ((l.b.length + 1 : Nat) : Int))) := by
        unfold spec_SplitFields_L1
        simp only [hk1, cond_false, fin, Option.bind_some]
      have e0 : m = 0 := by omega
      subst e0
      rw [step, List.drop_length]
      rfl

theorem spec_SplitFields_eq (l : Str) : spec_SplitFields l = some (SplitM l) := by
  unfold spec_SplitFields SplitM
  cases hd : decide (((l.b.length : Nat) : Int) > 600)
  · have hl : l.b.length ≤ 600 := by simp at hd; omega
    simp only [cond_false]
    have := spec_split_go l hl (l.b.length + 1) 0 0 [] [] (by omega) rfl (by simp) (by simp) (by omega)
    rw [List.drop_zero, List.nil_append] at this
    rw [gd_pos (by omega), show ((0 : Int)) = ((0 : Nat) : Int) from rfl, this]
    cases l.b.all okB
    · rfl
    · simp only [cond_true, sq_inl]
      cases decide ((((fldF l.b []).length : Nat) : Int) > 24) <;> rfl
  · rfl

def fromM (c : List UInt8) (b : Nat) : Int := bif c.isEmpty then -1 else (b : Int)
theorem impl_split_go (l : Str) (hl : l.b.length ≤ 600) : ∀ (m k b : Nat) (d : List Str) (c : List UInt8), k + m = l.b.length → b + c.length = k → (l.b.drop b).take c.length = c → d.length ≤ k →
    ((l.b.drop k).all okB = false → forO (impl_SplitFields_L1 l) m k (d, fromM c b) = some (.inr (([] : List Str), false))) ∧
    ((l.b.drop k).all okB = true → ∃ (d' : List Str) (c' : List UInt8) (b' : Nat), forO (impl_SplitFields_L1 l) m k (d, fromM c b) = some (.inl (d', fromM c' b')) ∧ b' + c'.length = l.b.length ∧ (l.b.drop b').take c'.length = c' ∧ d'.length ≤ l.b.length ∧ d' ++ endF c' = d ++ fldF (l.b.drop k) c)
  | 0, k, b, d, c, hk, hb, hc, hd => by
    have e : k = l.b.length := by omega
    subst e
    rw [List.drop_length]
    exact ⟨fun h => by simp at h, fun _ => ⟨d, c, b, rfl, hb, hc, hd, rfl⟩⟩
  | m + 1, k, b, d, c, hk, hb, hc, hd => by
    have hlt : k < l.b.length := by omega
    have hsub : ssub l b k = ⟨c⟩ := by unfold ssub; rw [show k - b = c.length by omega, hc]
    have step : impl_SplitFields_L1 l k (d, fromM c b) = some (bif okB (sat_ l k) then (bif sat_ l k == 32 then .next (d ++ endF c, fromM [] (k + 1)) else .next (d, fromM (c ++ [sat_ l k]) b)) else .ret (([] : List Str), false)) := by
      unfold impl_SplitFields_L1 okB
      cases h0 : (decide (((sat_ l k).toNat : Int) < 32) || decide (((sat_ l k).toNat : Int) > 126))
      · simp only [cond_false, Bool.not_false, cond_true, beq32]
        cases h3 : sat_ l k == 32
        · simp only [cond_false]
          cases c with
          | nil =>
            have e : b = k := by simpa using hb
            have e1 : fromM ([] : List UInt8) b = -1 := rfl
            have e2 : fromM ([] ++ [sat_ l k]) b = (b : Int) := rfl
            rw [e1, e2, e]
            rfl
          | cons y r =>
            have e1 : fromM (y :: r) b = (b : Int) := rfl
            have e2 : fromM ((y :: r) ++ [sat_ l k]) b = (b : Int) := rfl
            rw [e1, e2, decide_eq_false (show ¬ (b : Int) < 0 by omega)]
            rfl
        · simp only [cond_true]
          cases c with
          | nil =>
            have e1 : fromM ([] : List UInt8) b = -1 := rfl
            rw [e1, decide_eq_false (show ¬ (-1 : Int) ≥ 0 by omega)]
            simp only [cond_false, Option.bind_some]
            simp [endF, fromM]
          | cons y r =>
            have e1 : fromM (y :: r) b = (b : Int) := rfl
            rw [e1, decide_eq_true (show (b : Int) ≥ 0 by omega)]
            simp only [cond_true]
            rw [gd_pos ⟨by omega, by omega, by omega⟩, gd_pos (by omega), Int.toNat_natCast, hsub]
            rfl
      · rfl
    rw [forO, step, drop_cons' hlt]
    have hsat : sat_ (⟨l.b⟩ : Str) k = sat_ l k := rfl
    simp only [Option.bind_some, List.all_cons, fldF, hsat]
    cases ho : okB (sat_ l k)
    · simp only [cond_false, Bool.false_and]
      exact ⟨fun _ => trivial, fun h => by cases h⟩
    · simp only [cond_true, Bool.true_and]
      cases h3 : sat_ l k == 32
      · simp only [cond_false]
        exact impl_split_go l hl m (k + 1) b d (c ++ [sat_ l k]) (by omega) (by rw [List.length_append, List.length_singleton]; omega) (take_more hlt hb hc) (by omega)
      · simp only [cond_true]
        have hel : (endF c).length ≤ 1 := by unfold endF; cases c.isEmpty <;> simp
        have ih := impl_split_go l hl m (k + 1) (k + 1) (d ++ endF c) [] (by omega) (by simp) (by simp) (by rw [List.length_append]; omega)
        rw [List.append_assoc] at ih
        exact ih

theorem impl_SplitFields_eq (l : Str) : impl_SplitFields l = some (SplitM l) := by
  unfold impl_SplitFields SplitM
  cases hd : decide (((l.b.length : Nat) : Int) > 600)
  · have hl : l.b.length ≤ 600 := by simp at hd; omega
    simp only [cond_false]
    obtain ⟨g1, g2⟩ := impl_split_go l hl l.b.length 0 0 [] [] (by omega) rfl (by simp) (by simp)
    rw [List.drop_zero, List.nil_append] at g2
    rw [List.drop_zero] at g1
    rw [gd_pos (by omega), show ((-1 : Int)) = fromM [] 0 from rfl]
    cases ha : l.b.all okB
    · rw [g1 ha]; rfl
    · obtain ⟨d', c', b', e1, e2, e3, e4, e5⟩ := g2 ha
      rw [e1, ← e5]
      simp only [sq_inl, cond_true]
      have hsub : ssub l b' l.b.length = ⟨c'⟩ := by unfold ssub; rw [show l.b.length - b' = c'.length by omega, e3]
      have fin : (bif decide (fromM c' b' ≥ 0) then gd (0 ≤ fromM c' b' ∧ (fromM c' b').toNat ≤ l.b.length ∧ l.b.length ≤ l.b.length) <| gd (d'.length + 1 ≤ 1099511627776) <| some (d' ++ [ssub l ((fromM c' b').toNat) l.b.length]) else some d') = some (d' ++ endF c') := by
        cases c' with
        | nil =>
          have q : fromM ([] : List UInt8) b' = -1 := rfl
          rw [q, decide_eq_false (show ¬ (-1 : Int) ≥ 0 by omega)]
          simp [endF]
        | cons y r =>
          have q : fromM (y :: r) b' = (b' : Int) := rfl
          rw [q, decide_eq_true (show (b' : Int) ≥ 0 by omega), cond_true, gd_pos ⟨by omega, by omega, by omega⟩, gd_pos (by omega), Int.toNat_natCast, hsub]
          rfl
      rw [fin]
      simp only [Option.bind_some]
      cases decide ((((d' ++ endF c').length : Nat) : Int) > 24) <;> rfl
  · rfl

/-- A word: not empty, without blanks. -/
def Word (c : List UInt8) : Prop := c ≠ [] ∧ ∀ x ∈ c, (x == 32) = false
theorem endF_nil : endF [] = [] := rfl
theorem endF_cons {c : List UInt8} (h : c ≠ []) : endF c = [⟨c⟩] := by
  cases c with
  | nil => exact absurd rfl h
  | cons _ _ => rfl
theorem fld_word : ∀ (w r c : List UInt8), (∀ x ∈ w, (x == 32) = false) → fldF (w ++ r) c = fldF r (c ++ w)
  | [], r, c, _ => by simp
  | x :: w, r, c, h => by
    rw [List.cons_append, fldF, h x (by simp), cond_false, fld_word w r (c ++ [x]) fun y hy => h y (by simp [hy])]
    simp
theorem fld_words : ∀ (r c : List UInt8), (∀ x ∈ c, (x == 32) = false) → ∀ f ∈ fldF r c, Word f.b ∧ f.b.length ≤ r.length + c.length
  | [], c, hc, f, hf => by
    cases c with
    | nil => cases hf
    | cons y t =>
      have e : f = ⟨y :: t⟩ := by simpa [fldF, endF] using hf
      rw [e]
      exact ⟨⟨by simp, hc⟩, by simp⟩
  | x :: r, c, hc, f, hf => by
    unfold fldF at hf
    cases h : x == 32
    · rw [h, cond_false] at hf
      have := fld_words r (c ++ [x]) (fun y hy => by
        rcases List.mem_append.1 hy with h' | h'
        · exact hc y h'
        · rw [List.mem_singleton.1 h']; exact h) f hf
      refine ⟨this.1, ?_⟩
      have h2 := this.2
      simp only [List.length_append, List.length_cons, List.length_nil] at h2 ⊢
      omega
    · rw [h, cond_true] at hf
      rcases List.mem_append.1 hf with h' | h'
      · cases c with
        | nil => cases h'
        | cons y t =>
          have e : f = ⟨y :: t⟩ := by simpa [endF] using h'
          rw [e]
          exact ⟨⟨by simp, hc⟩, by simp⟩
      · have := fld_words r [] (by simp) f h'
        refine ⟨this.1, ?_⟩
        have h2 := this.2
        simp only [List.length_cons, List.length_nil] at h2 ⊢
        omega
/-- Words, each behind a blank. -/
def tailL (p : List Str) : List UInt8 := (p.map fun f => 32 :: f.b).flatten
theorem fld_tail (z : List UInt8) (hz : ∀ c, fldF z c = endF c) : ∀ (p : List Str) (c : List UInt8), (∀ f ∈ p, Word f.b) → fldF (tailL p ++ z) c = endF c ++ p
  | [], c, _ => by simpa [tailL] using hz c
  | f :: p, c, h => by
    have hf := h f (by simp)
    have e : tailL (f :: p) ++ z = 32 :: (f.b ++ (tailL p ++ z)) := by simp [tailL]
    rw [e, fldF]
    have h32 : ((32 : UInt8) == 32) = true := rfl
    rw [h32, cond_true, fld_word f.b _ [] hf.2, List.nil_append, fld_tail z hz p f.b fun g hg => h g (by simp [hg]), endF_cons hf.1]
    rfl
theorem fld_nil (c : List UInt8) : fldF [] c = endF c := rfl
theorem fld_sp (c : List UInt8) : fldF [32] c = endF c := by
  have h32 : ((32 : UInt8) == 32) = true := rfl
  rw [fldF, h32, cond_true, fld_nil]
  simp [endF]
theorem fld_join {w : List UInt8} {q : List Str} (hw : Word w) (hq : ∀ f ∈ q, Word f.b) : fldF (w ++ tailL q) [] = ⟨w⟩ :: q := by
  rw [fld_word w _ [] hw.2, List.nil_append]
  have := fld_tail [] fld_nil q w hq
  rw [List.append_nil] at this
  rw [this, endF_cons hw.1]
  rfl
def joinL : List Str → List UInt8
  | [] => []
  | f :: p => f.b ++ tailL p
theorem fld_joinL {p : List Str} (h : ∀ f ∈ p, Word f.b) : fldF (joinL p) [] = p := by
  cases p with
  | nil => rfl
  | cons f p =>
    have := fld_join (h f (by simp)) fun g hg => h g (List.mem_cons_of_mem _ hg)
    rw [joinL, this]
theorem lib_join (p : List Str) : Lib.join (p.map Str.b) [32] = joinL p := by
  cases p with
  | nil => rfl
  | cons f p =>
    rw [List.map_cons, Lib.join_cons]
    unfold joinL tailL Lib.joinTail
    rw [List.map_map]
    rfl

def argsS (a : GAct) : List Str := (actArgs a).map fun n => ⟨Lib.itoa n⟩
theorem numsL_tail (ns : List Int) : numsL ns = tailL (ns.map fun n => (⟨Lib.itoa n⟩ : Str)) := by
  unfold numsL tailL
  rw [List.map_map]
  rfl
theorem act_nums {a : GAct} (h : ActOkM a = true) : ∀ n ∈ actArgs a, 0 ≤ n ∧ n ≤ 1000000000 := by
  obtain ⟨hk, a0, a1, b0, b1⟩ := actOk_cases h
  intro n hn
  unfold actArgs at hn
  cases h2 : a.Kind == 2
  · cases h4 : a.Kind == 4 || a.Kind == 5
    · rw [h2, h4] at hn
      rw [List.mem_singleton.1 hn]; omega
    · rw [h2, h4] at hn; cases hn
  · rw [h2] at hn
    simp only [cond_true, List.mem_cons, List.not_mem_nil, or_false] at hn
    rcases hn with rfl | rfl <;> omega
theorem act_word {a : GAct} (h : ActOkM a = true) : Word (actWord a.Kind) := by
  obtain ⟨hk, _⟩ := actOk_cases h
  unfold actWord Word
  rcases hk with k | k | k | k | k | k <;> rw [k] <;> decide
theorem arg_words {a : GAct} (h : ActOkM a = true) : ∀ f ∈ argsS a, Word f.b := by
  intro f hf
  obtain ⟨n, hn, rfl⟩ := List.mem_map.1 hf
  have h0 := (act_nums h n hn).1
  refine ⟨itoa_ne h0, fun x hx => ?_⟩
  have := itoa_bytes h0 hx
  rw [beq_eq_false_iff_ne]
  intro e
  subst e
  have e2 : (32 : UInt8).toNat = 32 := rfl
  omega
theorem act_text (a : GAct) : (actL a).b = actWord a.Kind ++ tailL (argsS a) := by
  unfold actL lineL argsS
  rw [numsL_tail]
theorem act_fields {a : GAct} (h : ActOkM a = true) : fldF (actL a).b [] = ⟨actWord a.Kind⟩ :: argsS a := by
  rw [act_text]
  exact fld_join (act_word h) (arg_words h)
/-- A line's fields that make an act's text are its word and its numbers. -/
theorem act_of_join {a : GAct} (h : ActOkM a = true) {p : List Str} (hp : ∀ f ∈ p, Word f.b) (hj : joinL p = (actL a).b) : p = ⟨actWord a.Kind⟩ :: argsS a := by
  rw [← fld_joinL hp, hj, act_fields h]
theorem word_inj {i j : Int} (hi : i = 1 ∨ i = 2 ∨ i = 3 ∨ i = 4 ∨ i = 5 ∨ i = 6) (hj : j = 1 ∨ j = 2 ∨ j = 3 ∨ j = 4 ∨ j = 5 ∨ j = 6) (h : actWord i = actWord j) : i = j := by
  rcases hi with rfl | rfl | rfl | rfl | rfl | rfl <;> rcases hj with rfl | rfl | rfl | rfl | rfl | rfl <;> first | rfl | (exfalso; revert h; decide)
/-- The numbers that an act does not use are 0. -/
theorem act_rest {a : GAct} (h : ActOkM a = true) : (a.Kind ≠ 2 → a.B = 0) ∧ (a.Kind = 4 ∨ a.Kind = 5 → a.A = 0) := by
  obtain ⟨hk, _⟩ := actOk_cases h
  unfold ActOkM at h
  rcases hk with k | k | k | k | k | k <;> rw [k] at h ⊢ <;> simp [inR] at h ⊢ <;> omega
theorem act_inj {a a' : GAct} (h : ActOkM a = true) (h' : ActOkM a' = true) (e : (actL a).b = (actL a').b) : a = a' := by
  have h1 := act_fields h
  rw [e, act_fields h'] at h1
  injection h1 with h2 h3
  have h4 : actWord a'.Kind = actWord a.Kind := congrArg Str.b h2
  have hk := word_inj (actOk_cases h').1 (actOk_cases h).1 h4
  obtain ⟨p1, p2⟩ := act_rest h
  obtain ⟨q1, q2⟩ := act_rest h'
  have hn := act_nums h
  have hn' := act_nums h'
  unfold argsS actArgs at h3
  unfold actArgs at hn hn'
  rw [hk] at h3 q1 q2 hn'
  obtain ⟨ak, aA, aB⟩ := a
  obtain ⟨ak', aA', aB'⟩ := a'
  simp only at hk h3 p1 p2 q1 q2 hn hn'
  subst hk
  cases e2 : ak' == 2
  · have n2 : ak' ≠ 2 := by simpa using e2
    have b1 := p1 n2
    have b2 := q1 n2
    cases e4 : ak' == 4 || ak' == 5
    · rw [e2, e4] at h3 hn hn'
      simp only [cond_false, List.map_cons, List.map_nil, List.cons.injEq, and_true, List.mem_singleton] at h3 hn hn'
      have := itoa_inj (hn' _ rfl).1 (hn _ rfl).1 (congrArg Str.b h3)
      subst this
      rw [b1, b2]
    · have hk4 : ak' = 4 ∨ ak' = 5 := by
        simp only [Bool.or_eq_true, beq_iff_eq] at e4
        exact e4
      rw [p2 hk4, q2 hk4, b1, b2]
  · rw [e2] at h3 hn hn'
    simp only [cond_true, List.map_cons, List.map_nil, List.cons.injEq, and_true, List.mem_cons, List.not_mem_nil, or_false] at h3 hn hn'
    have i1 := itoa_inj (hn' _ (.inl rfl)).1 (hn _ (.inl rfl)).1 (congrArg Str.b h3.1)
    have i2 := itoa_inj (hn' _ (.inr rfl)).1 (hn _ (.inr rfl)).1 (congrArg Str.b h3.2)
    rw [i1, i2]

/-- What the fields of a line fulfil. -/
theorem split_words {l : Str} (h : (SplitM l).2 = true) : l.b.length ≤ 600 ∧ (SplitM l).1 = fldF l.b [] ∧ ∀ f ∈ (SplitM l).1, Word f.b ∧ f.b.length ≤ 600 := by
  unfold SplitM at h ⊢
  cases hd : decide (((l.b.length : Nat) : Int) > 600)
  · rw [hd] at h
    simp only [cond_false] at h ⊢
    cases ha : l.b.all okB
    · rw [ha] at h; cases h
    · rw [ha] at h
      simp only [cond_true] at h ⊢
      cases hc : decide ((((fldF l.b []).length : Nat) : Int) > 24)
      · refine ⟨by simp at hd; omega, rfl, fun f hf => ?_⟩
        have := fld_words l.b [] (by simp) f hf
        refine ⟨this.1, ?_⟩
        have h2 := this.2
        simp only [List.length_nil] at h2
        simp at hd
        omega
      · rw [hc] at h; cases h
  · rw [hd] at h; cases h
/-- A line that is an act's text. -/
def IsAct (l : Str) (a : GAct) : Prop := ActOkM a = true ∧ (SplitM l).2 = true ∧ 1 ≤ (SplitM l).1.length ∧ (SplitM l).1.length ≤ 3 ∧ joinL (SplitM l).1 = (actL a).b
theorem isAct_one {l : Str} {a a' : GAct} (h : IsAct l a) (h' : IsAct l a') : a = a' := act_inj h.1 h'.1 (by rw [← h.2.2.2.2, ← h'.2.2.2.2])
theorem len3 {α : Type} {p : List α} (h1 : 1 ≤ p.length) (h3 : p.length ≤ 3) : (∃ x, p = [x]) ∨ (∃ x y, p = [x, y]) ∨ ∃ x y z, p = [x, y, z] := by
  match p, h1, h3 with
  | [x], _, _ => exact .inl ⟨x, rfl⟩
  | [x, y], _, _ => exact .inr (.inl ⟨x, y, rfl⟩)
  | [x, y, z], _, _ => exact .inr (.inr ⟨x, y, z, rfl⟩)
  | _ :: _ :: _ :: _ :: _, _, h => exact absurd h (by simp)

def numM (s : Str) : Int := (spec_l40Number s).getD 0
theorem spec_num (s : Str) : spec_l40Number s = some (numM s) := by
  have key : ∃ n, spec_l40Number s = some n := by
    unfold spec_l40Number
    obtain ⟨r1, e1, _⟩ := same_ParseUint' s
    obtain ⟨r2, e2, _⟩ := same_ParseUint' (ssub s 1 s.b.length)
    cases hd : decide (((s.b.length : Nat) : Int) > 1)
    · simp only [cond_false, Option.bind_some, e1]
      exact ⟨_, rfl⟩
    · have h1 : 1 < s.b.length := by simp at hd; omega
      simp only [cond_true]
      rw [gd_pos (show 0 < s.b.length by omega)]
      simp only [Option.bind_some]
      cases ((sat_ s 0).toNat : Int) == 45
      · simp only [cond_false, e1, Option.bind_some]
        exact ⟨_, rfl⟩
      · simp only [cond_true]
        rw [gd_pos ⟨by omega, by omega⟩, e2]
        exact ⟨_, rfl⟩
  obtain ⟨n, hn⟩ := key
  unfold numM
  rw [hn]; rfl
theorem num_itoa {n : Int} (h0 : 0 ≤ n) (h1 : n ≤ 1000000000) : numM ⟨Lib.itoa n⟩ = n := by
  have hs := spec_num ⟨Lib.itoa n⟩
  unfold spec_l40Number at hs
  rw [spec_ParseUint_yes h0 h1] at hs
  have h45 : (sat_ ⟨Lib.itoa n⟩ 0).toNat ≠ 45 := by
    cases hi : Lib.itoa n with
    | nil => exact absurd hi (itoa_ne h0)
    | cons b r =>
      have := itoa_bytes h0 (b := b) (by rw [hi]; simp)
      show b.toNat ≠ 45
      omega
  have hb : (((sat_ ⟨Lib.itoa n⟩ 0).toNat : Int) == 45) = false := by
    rw [beq_eq_false_iff_ne]
    omega
  rw [hb] at hs
  cases hd : decide ((((Lib.itoa n).length : Nat) : Int) > 1)
  · rw [hd] at hs
    simp only [cond_false, Option.bind_some, Option.some.injEq] at hs
    exact hs.symm
  · have h1 : 1 < (Lib.itoa n).length := by simp at hd; omega
    rw [hd] at hs
    simp only [cond_true] at hs
    rw [gd_pos (show 0 < (Lib.itoa n).length by omega)] at hs
    simp only [cond_false, Option.bind_some, Option.some.injEq] at hs
    exact hs.symm
def nthN (p : List Str) (k : Nat) : Int := gx (((p.drop 1).map numM) ++ [0, 0]) k

theorem spec_act_loop {p : List Str} {ok : Bool} (h1 : 1 ≤ p.length) (h3 : p.length ≤ 3) (hw : ∀ f ∈ p, f.b.length ≤ 600) : lpO (spec_ParseAct_L1 (p, ok)) (p.length - 1) ((gx p 0), ([] : List Int)) = some (⟨joinL p⟩, (p.drop 1).map numM) := by
  have st : ∀ (k : Nat) (s : Str) (ns : List Int), k + 1 < p.length → s.b.length ≤ 10000 → ns.length ≤ 10 → spec_ParseAct_L1 (p, ok) k (s, ns) = some (.next (⟨s.b ++ (32 :: (gx p (k + 1)).b)⟩, ns ++ [numM (gx p (k + 1))])) := fun k s ns hk hs hn => by
    have hl := hw _ (gx_mem hk)
    unfold spec_ParseAct_L1
    rw [gd_pos (by simp only [List.length_cons, List.length_nil]; omega), gd_pos hk, gd_pos (by simp only [sadd, List.length_append, List.length_cons, List.length_nil]; omega), spec_num]
    simp only [Option.bind_some]
    rw [gd_pos (by omega)]
    simp [sadd]
  rcases len3 h1 h3 with ⟨x, rfl⟩ | ⟨x, y, rfl⟩ | ⟨x, y, z, rfl⟩
  · simp [lpO, forO, joinL, tailL, lpk, gx]
  · have hx := hw x (by simp)
    have e : ([x, y] : List Str).length - 1 = 1 := rfl
    rw [e]
    unfold lpO
    rw [forO, st 0 _ _ (by simp) (by show x.b.length ≤ 10000; omega) (by simp)]
    simp [forO, joinL, tailL, lpk, gx]
  · have hx := hw x (by simp)
    have hy := hw y (by simp)
    have e : ([x, y, z] : List Str).length - 1 = 2 := rfl
    rw [e]
    unfold lpO
    rw [forO, st 0 _ _ (by simp) (by show x.b.length ≤ 10000; omega) (by simp)]
    simp only [Option.bind_some]
    rw [forO, st 1 _ _ (by simp) (by
      show (x.b ++ 32 :: y.b).length ≤ 10000
      simp only [List.length_append, List.length_cons]; omega) (by simp)]
    simp [forO, joinL, tailL, lpk, gx]
theorem in13 (p : List Str) : spec_l01In ((p.length : Nat) : Int) 1 3 = some (decide (((p.length : Nat) : Int) ≥ 1) && decide (((p.length : Nat) : Int) ≤ 3)) := rfl
def candM (p : List Str) (k : Nat) : GAct := ⟨((k + 1 : Nat) : Int), nthN p 0, nthN p 1⟩
theorem spec_act_find {p : List Str} : forO (spec_ParseAct_L2 ((⟨joinL p⟩ : Str), (p.drop 1).map numM)) 6 0 () = some (match (List.range 6).find? (fun k => ActOkM (candM p k) && seq (actL (candM p k)) ⟨joinL p⟩) with | some k => .inr (candM p k, true) | none => .inl ()) :=
  forO_find (N := 6) (s := ()) (fun k => ActOkM (candM p k) && seq (actL (candM p k)) ⟨joinL p⟩) (fun k => (candM p k, true)) fun k hk => by
    unfold spec_ParseAct_L2
    rw [gd_pos (by simp), gd_pos (by simp)]
    have e : (GAct.mk (((k + 1) : Nat) : Int) (gx (((p.drop 1).map numM) ++ [0, 0]) 0) (gx (((p.drop 1).map numM) ++ [0, 0]) 1)) = candM p k := rfl
    simp only [e]
    rw [spec_FormatAct_eq]
    unfold FormatActM
    cases ho : ActOkM (candM p k)
    · rfl
    · simp only [cond_true, Option.bind_some, Bool.true_and]
      cases seq (actL (candM p k)) ⟨joinL p⟩ <;> rfl
/-- The fields of an act's text give the act again. -/
theorem cand_act {l : Str} {a : GAct} (h : IsAct l a) : ∃ k, k < 6 ∧ candM (SplitM l).1 k = a := by
  obtain ⟨ho, hs, _, _, hj⟩ := h
  have hp := act_of_join ho (fun f hf => (split_words hs).2.2 f hf |>.1) hj
  rw [hp]
  have hn := act_nums ho
  obtain ⟨r1, r2⟩ := act_rest ho
  obtain ⟨hk, _⟩ := actOk_cases ho
  obtain ⟨ak, aA, aB⟩ := a
  simp only at hk r1 r2
  unfold candM nthN argsS
  have mp : (((⟨actWord ak⟩ : Str) :: (actArgs ⟨ak, aA, aB⟩).map fun n => (⟨Lib.itoa n⟩ : Str)).drop 1).map numM = actArgs ⟨ak, aA, aB⟩ := by
    rw [List.drop_succ_cons, List.drop_zero, List.map_map]
    calc (actArgs ⟨ak, aA, aB⟩).map (numM ∘ fun n => (⟨Lib.itoa n⟩ : Str)) = (actArgs ⟨ak, aA, aB⟩).map id := List.map_congr_left fun n hm => num_itoa (hn n hm).1 (hn n hm).2
      _ = _ := by simp
  rw [mp]
  unfold actArgs
  rcases hk with rfl | rfl | rfl | rfl | rfl | rfl
  · have := r1 (by omega); subst this; exact ⟨0, by omega, rfl⟩
  · exact ⟨1, by omega, rfl⟩
  · have := r1 (by omega); subst this; exact ⟨2, by omega, rfl⟩
  · have := r1 (by omega); subst this; have := r2 (by omega); subst this; exact ⟨3, by omega, rfl⟩
  · have := r1 (by omega); subst this; have := r2 (by omega); subst this; exact ⟨4, by omega, rfl⟩
  · have := r1 (by omega); subst this; exact ⟨5, by omega, rfl⟩
theorem seqb_iff {s t : Str} : seq s t = true ↔ s.b = t.b := by unfold seq; simp
theorem spec_ParseAct_of (l : Str) : (∀ a, IsAct l a → spec_ParseAct l = some (a, true)) ∧ ((∀ a, ¬ IsAct l a) → spec_ParseAct l = some (⟨0, 0, 0⟩, false)) := by
  unfold spec_ParseAct
  rw [spec_SplitFields_eq]
  simp only [Option.bind_some, in13]
  cases hs : (SplitM l).2
  · exact ⟨fun a h => absurd h.2.1 (by rw [hs]; simp), fun _ => rfl⟩
  · cases hi : decide ((((SplitM l).1.length : Nat) : Int) ≥ 1) && decide ((((SplitM l).1.length : Nat) : Int) ≤ 3)
    · refine ⟨fun a h => ?_, fun _ => rfl⟩
      have e1 : decide ((((SplitM l).1.length : Nat) : Int) ≥ 1) = true := decide_eq_true (by have := h.2.2.1; omega)
      have e3 : decide ((((SplitM l).1.length : Nat) : Int) ≤ 3) = true := decide_eq_true (by have := h.2.2.2.1; omega)
      rw [e1, e3] at hi
      cases hi
    · simp only [Bool.and_eq_true, decide_eq_true_eq] at hi
      have h1 : 1 ≤ (SplitM l).1.length := by omega
      have h3 : (SplitM l).1.length ≤ 3 := by omega
      obtain ⟨_, _, hw⟩ := split_words hs
      have hfind : ∀ k, k < 6 → (ActOkM (candM (SplitM l).1 k) && seq (actL (candM (SplitM l).1 k)) ⟨joinL (SplitM l).1⟩) = true → IsAct l (candM (SplitM l).1 k) := fun k _ h => by
        simp only [Bool.and_eq_true] at h
        exact ⟨h.1, hs, h1, h3, (seqb_iff.1 h.2).symm⟩
      simp only [Bool.not_true, cond_false, Option.bind_some]
      rw [gd_pos (by omega), gd_pos (by omega)]
      have hl := spec_act_loop (p := (SplitM l).1) (ok := (SplitM l).2) h1 h3 fun f hf => (hw f hf).2
      have e : ((SplitM l).1, (SplitM l).2) = SplitM l := rfl
      rw [e] at hl
      rw [hl]
      simp only [Option.bind_some]
      rw [gd_pos (by simp; omega), spec_act_find]
      cases hf : (List.range 6).find? (fun k => ActOkM (candM (SplitM l).1 k) && seq (actL (candM (SplitM l).1 k)) ⟨joinL (SplitM l).1⟩) with
      | none =>
        refine ⟨fun a h => ?_, fun _ => rfl⟩
        obtain ⟨k, hk, e⟩ := cand_act h
        rw [List.find?_eq_none] at hf
        have := hf k (by simpa using hk)
        rw [e, h.1] at this
        simp only [Bool.true_and] at this
        exact absurd (seqb_iff.2 h.2.2.2.2.symm) this
      | some k =>
        have hk := hfind k (by simpa using List.mem_of_find?_eq_some hf) (List.find?_some (p := fun k => ActOkM (candM (SplitM l).1 k) && seq (actL (candM (SplitM l).1 k)) ⟨joinL (SplitM l).1⟩) hf)
        exact ⟨fun a h => by rw [isAct_one h hk]; rfl, fun h => absurd hk (h _)⟩

theorem impl_act_kind (p : List Str) (ok : Bool) (h1 : 1 ≤ p.length) : ∃ k : Int, lpO (impl_ParseAct_L1 (p, ok)) 7 0 = some k ∧ ∀ i : Int, (i = 1 ∨ i = 2 ∨ i = 3 ∨ i = 4 ∨ i = 5 ∨ i = 6) → gx p 0 = ⟨actWord i⟩ → k = i := by
  have st : ∀ (k : Nat) (s : Int), impl_ParseAct_L1 (p, ok) k s = some (.next (bif (seq (gx ([(⟨[]⟩ : Str), (⟨[97, 100, 109, 105, 116]⟩ : Str), (⟨[115, 117, 98, 109, 105, 116]⟩ : Str), (⟨[115, 101, 119]⟩ : Str), (⟨[114, 111, 117, 110, 100]⟩ : Str), (⟨[121, 101, 97, 114]⟩ : Str), (⟨[108, 97, 99, 107]⟩ : Str)] : List Str) k) (gx p 0)) then ((k : Nat) : Int) else s)) := fun k s => by
    unfold impl_ParseAct_L1
    rw [gd_pos (show 0 < p.length by omega)]
  unfold lpO
  simp only [forO, st, Option.bind_some, Option.map_some, lpk]
  refine ⟨_, rfl, fun i hi hw => ?_⟩
  rw [hw]
  rcases hi with rfl | rfl | rfl | rfl | rfl | rfl <;> rfl
theorem strings_Join_eq {p : List Str} (h1 : 1 ≤ p.length) (h3 : p.length ≤ 3) (hw : ∀ f ∈ p, f.b.length ≤ 600) : strings_Join p ⟨[32]⟩ = some ⟨joinL p⟩ := by
  have hj : Lib.join (p.map Str.b) [32] = joinL p := lib_join p
  have hl : (joinL p).length ≤ 10000 := by
    rcases len3 h1 h3 with ⟨x, rfl⟩ | ⟨x, y, rfl⟩ | ⟨x, y, z, rfl⟩
    · have := hw x (by simp)
      simp [joinL, tailL]; omega
    · have := hw x (by simp)
      have := hw y (by simp)
      simp [joinL, tailL]; omega
    · have := hw x (by simp)
      have := hw y (by simp)
      have := hw z (by simp)
      simp [joinL, tailL]; omega
  unfold strings_Join
  simp only [hj]
  rw [gd_pos ⟨by omega, by omega⟩]
/-- What stands behind the numbers of a line. -/
def endM (p : List Str) (e : Int × Int × Int) : GAct × Bool := bif ActOkM ⟨e.1, e.2.1, e.2.2⟩ && seq (actL ⟨e.1, e.2.1, e.2.2⟩) ⟨joinL p⟩ then (⟨e.1, e.2.1, e.2.2⟩, true) else (⟨0, 0, 0⟩, false)
/-- The loop over the numbers: it ends early where one of them is no number. -/
theorem impl_act_nums {p : List Str} {ok : Bool} (e1 : Int) :
    forO (impl_ParseAct_L2 (p, ok)) ((p.drop 1).take (p.length - 1)).length 0 (e1, 0, 0) = some (.inr ((⟨0, 0, 0⟩ : GAct), false)) ∨
    ∃ e : Int × Int × Int, forO (impl_ParseAct_L2 (p, ok)) ((p.drop 1).take (p.length - 1)).length 0 (e1, 0, 0) = some (.inl e) := by
  have st : ∀ (k : Nat) (s : Int × Int × Int), impl_ParseAct_L2 (p, ok) k s = some (.ret ((⟨0, 0, 0⟩ : GAct), false)) ∨ ∃ s', impl_ParseAct_L2 (p, ok) k s = some (.next s') := fun k s => by
    obtain ⟨r, _, hr⟩ := same_ParseUint' (gx ((p.drop 1).take (p.length - 1)) k)
    unfold impl_ParseAct_L2
    simp only [hr, Option.bind_some]
    cases r.2
    · exact .inl rfl
    · exact .inr ⟨_, rfl⟩
  have key : ∀ (m k : Nat) (s : Int × Int × Int), forO (impl_ParseAct_L2 (p, ok)) m k s = some (.inr ((⟨0, 0, 0⟩ : GAct), false)) ∨ ∃ e : Int × Int × Int, forO (impl_ParseAct_L2 (p, ok)) m k s = some (.inl e) := by
    intro m
    induction m with
    | zero => exact fun k s => .inr ⟨s, rfl⟩
    | succ m ih =>
      intro k s
      rw [forO]
      rcases st k s with h | ⟨s', h⟩
      · rw [h]; exact .inl rfl
      · rw [h]; exact ih (k + 1) s'
  exact key _ _ _
theorem impl_act_yes {l : Str} {a : GAct} (h : IsAct l a) (ok : Bool) : forO (impl_ParseAct_L2 ((SplitM l).1, ok)) (((SplitM l).1.drop 1).take ((SplitM l).1.length - 1)).length 0 (a.Kind, 0, 0) = some (.inl (a.Kind, a.A, a.B)) := by
  obtain ⟨ho, hs, _, _, hj⟩ := h
  have hp := act_of_join ho (fun f hf => (split_words hs).2.2 f hf |>.1) hj
  rw [hp]
  have hn := act_nums ho
  obtain ⟨r1, r2⟩ := act_rest ho
  obtain ⟨hk, _⟩ := actOk_cases ho
  have hd : (((⟨actWord a.Kind⟩ : Str) :: argsS a).drop 1).take (((⟨actWord a.Kind⟩ : Str) :: argsS a).length - 1) = argsS a := by simp
  have st : ∀ (k : Nat) (s : Int × Int × Int) (n : Int), 0 ≤ n → n ≤ 1000000000 → gx (argsS a) k = ⟨Lib.itoa n⟩ → impl_ParseAct_L2 ((⟨actWord a.Kind⟩ :: argsS a), ok) k s = some (.next (s.1, (bif ((k : Nat) : Int) == 0 then n else s.2.1), (bif ((k : Nat) : Int) == 0 then s.2.2 else n))) := fun k s n h0 h1 hg => by
    unfold impl_ParseAct_L2
    simp only [hd, hg, impl_ParseUint_yes h0 h1, Option.bind_some, Bool.not_true, cond_false]
    cases ((k : Nat) : Int) == 0 <;> rfl
  rw [hd]
  have e0 : (((0 : Nat) : Int) == 0) = true := rfl
  have e1 : (((0 + 1 : Nat) : Int) == 0) = false := rfl
  cases h2 : a.Kind == 2
  · have n2 : a.Kind ≠ 2 := by simpa using h2
    cases h4 : a.Kind == 4 || a.Kind == 5
    · have ea : argsS a = [⟨Lib.itoa a.A⟩] := by unfold argsS actArgs; rw [h2, h4]; rfl
      have eb : actArgs a = [a.A] := by unfold actArgs; rw [h2, h4]; rfl
      have hA := hn a.A (by rw [eb]; simp)
      have hlen : (argsS a).length = 1 := by rw [ea]; rfl
      rw [hlen, forO, st 0 _ a.A hA.1 hA.2 (by rw [ea]; rfl)]
      simp only [Option.bind_some, forO, e0, cond_true, r1 n2]
    · have hk4 : a.Kind = 4 ∨ a.Kind = 5 := by
        simp only [Bool.or_eq_true, beq_iff_eq] at h4
        exact h4
      have ea : argsS a = [] := by unfold argsS actArgs; rw [h2, h4]; rfl
      rw [ea, r1 n2, r2 hk4]
      rfl
  · have ea : argsS a = [⟨Lib.itoa a.A⟩, ⟨Lib.itoa a.B⟩] := by unfold argsS actArgs; rw [h2]; rfl
    have eb : actArgs a = [a.A, a.B] := by unfold actArgs; rw [h2]; rfl
    have hA := hn a.A (by rw [eb]; simp)
    have hB := hn a.B (by rw [eb]; simp)
    have hlen : (argsS a).length = 2 := by rw [ea]; rfl
    rw [hlen, forO, st 0 _ a.A hA.1 hA.2 (by rw [ea]; rfl)]
    simp only [Option.bind_some, e0, cond_true]
    rw [forO, st (0 + 1) _ a.B hB.1 hB.2 (by rw [ea]; rfl)]
    simp only [Option.bind_some, forO, e1, cond_false]
theorem impl_ParseAct_of (l : Str) : (∀ a, IsAct l a → impl_ParseAct l = some (a, true)) ∧ ((∀ a, ¬ IsAct l a) → impl_ParseAct l = some (⟨0, 0, 0⟩, false)) := by
  unfold impl_ParseAct
  rw [impl_SplitFields_eq]
  simp only [Option.bind_some, impl_within_b]
  cases hs : (SplitM l).2
  · exact ⟨fun a h => absurd h.2.1 (by rw [hs]; simp), fun _ => rfl⟩
  · cases hi : decide ((((SplitM l).1.length : Nat) : Int) ≥ 1) && decide ((((SplitM l).1.length : Nat) : Int) ≤ 3)
    · refine ⟨fun a h => ?_, fun _ => rfl⟩
      have e1 : decide ((((SplitM l).1.length : Nat) : Int) ≥ 1) = true := decide_eq_true (by have := h.2.2.1; omega)
      have e3 : decide ((((SplitM l).1.length : Nat) : Int) ≤ 3) = true := decide_eq_true (by have := h.2.2.2.1; omega)
      rw [e1, e3] at hi
      cases hi
    · simp only [Bool.and_eq_true, decide_eq_true_eq] at hi
      have h1 : 1 ≤ (SplitM l).1.length := by omega
      have h3 : (SplitM l).1.length ≤ 3 := by omega
      obtain ⟨_, _, hw⟩ := split_words hs
      have e : ((SplitM l).1, (SplitM l).2) = SplitM l := rfl
      obtain ⟨kk, k1, k2⟩ := impl_act_kind (SplitM l).1 (SplitM l).2 h1
      rw [e] at k1
      simp only [Bool.not_true, cond_false, Option.bind_some]
      rw [gd_pos (by simp), show ([(⟨[]⟩ : Str), (⟨[97, 100, 109, 105, 116]⟩ : Str), (⟨[115, 117, 98, 109, 105, 116]⟩ : Str), (⟨[115, 101, 119]⟩ : Str), (⟨[114, 111, 117, 110, 100]⟩ : Str), (⟨[121, 101, 97, 114]⟩ : Str), (⟨[108, 97, 99, 107]⟩ : Str)] : List Str).length = 7 from rfl, k1]
      simp only [Option.bind_some]
      rw [gd_pos ⟨h1, Nat.le_refl _⟩, gd_pos (by simp; omega)]
      have fin : ∀ e : Int × Int × Int, ((impl_FormatAct (GAct.mk e.1 e.2.1 e.2.2)).bind fun v4 => (bif (!v4.2) then some true else (strings_Join (SplitM l).1 (⟨[32]⟩ : Str)).bind fun v5 => some (!(seq v4.1 v5))).bind fun j4 => bif j4 then some ((GAct.mk 0 0 0), false) else some ((GAct.mk e.1 e.2.1 e.2.2), true)) = some (endM (SplitM l).1 e) := fun e => by
        rw [impl_FormatAct_eq, strings_Join_eq h1 h3 fun f hf => (hw f hf).2]
        unfold FormatActM endM
        cases ActOkM (GAct.mk e.1 e.2.1 e.2.2)
        · rfl
        · simp only [cond_true, Option.bind_some, Bool.true_and, Bool.not_true, cond_false]
          cases seq (actL (GAct.mk e.1 e.2.1 e.2.2)) ⟨joinL (SplitM l).1⟩ <;> rfl
      constructor
      · intro a h
        have hp := act_of_join h.1 (fun f hf => (hw f hf).1) h.2.2.2.2
        have hkk := k2 a.Kind (actOk_cases h.1).1 (by rw [hp]; rfl)
        have hy := impl_act_yes h (SplitM l).2
        rw [e] at hy
        rw [hkk, hy]
        simp only [sq_inl]
        rw [fin (a.Kind, a.A, a.B)]
        have es : seq (actL a) ⟨joinL (SplitM l).1⟩ = true := seqb_iff.2 h.2.2.2.2.symm
        have ea : (⟨a.Kind, a.A, a.B⟩ : GAct) = a := rfl
        unfold endM
        simp only [ea, h.1, es, Bool.and_self, cond_true]
      · intro h
        have hc := impl_act_nums (p := (SplitM l).1) (ok := (SplitM l).2) kk
        rw [e] at hc
        rcases hc with hc | ⟨v, hc⟩
        · rw [hc]; rfl
        · rw [hc]
          simp only [sq_inl]
          rw [fin v]
          unfold endM
          cases hx : ActOkM ⟨v.1, v.2.1, v.2.2⟩ && seq (actL ⟨v.1, v.2.1, v.2.2⟩) ⟨joinL (SplitM l).1⟩
          · rfl
          · simp only [Bool.and_eq_true] at hx
            exact absurd ⟨hx.1, hs, h1, h3, (seqb_iff.1 hx.2).symm⟩ (h ⟨v.1, v.2.1, v.2.2⟩)

theorem act_em (l : Str) : (∃ a, IsAct l a) ∨ ∀ a, ¬ IsAct l a := (Classical.em (∃ a, IsAct l a)).elim .inl fun h => .inr fun a k => h ⟨a, k⟩
theorem both_ParseAct (l : Str) : ∃ w : GAct × Bool, spec_ParseAct l = some w ∧ impl_ParseAct l = some w := by
  rcases act_em l with ⟨a, h⟩ | h
  · exact ⟨_, (spec_ParseAct_of l).1 a h, (impl_ParseAct_of l).1 a h⟩
  · exact ⟨_, (spec_ParseAct_of l).2 h, (impl_ParseAct_of l).2 h⟩
theorem same_ParseAct (l : Str) (_ : Fit.ok l) : ∃ w, spec_ParseAct l = some w ∧ impl_ParseAct l = some w := both_ParseAct l

theorem p_FnExactParseAct (a0 : Str) (f0 : Fit.ok a0) : laws_FnExactParseAct a0 = some true := by
  unfold laws_FnExactParseAct
  by_cases c0 : ((a0.b.length : Nat) : Int) > 1048576
  · simp [c0]
  obtain ⟨w, hs, hi⟩ := same_ParseAct a0 f0
  simp [c0, hs, hi, eq_Act w.1]
end Go.Proofs.YtidkcdeddlnbdaaDoor
