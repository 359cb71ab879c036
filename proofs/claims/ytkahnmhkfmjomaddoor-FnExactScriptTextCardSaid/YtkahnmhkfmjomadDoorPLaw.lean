/-
  The plain laws: what the functions compute, in Lean alone.
-/
import Derived.Test.YtkahnmhkfmjomadDoorPure
namespace Go.Proofs.YtkahnmhkfmjomadDoor
open Go

theorem gd_pos {α : Type} {p : Prop} [Decidable p] (h : p) (t : Option α) : gd p t = t := by simp [gd, h]
@[simp] theorem sq_inl {J C : Type} (j : J) (k : J → Option C) : sq (some (.inl j)) k = k j := rfl
@[simp] theorem sq_inr {J C : Type} (c : C) (k : J → Option C) : sq (some (.inr c)) k = some c := rfl

section
variable {S C : Type} {f : Nat → S → Option (Res S C)} {N : Nat}
theorem forO_at (st : Nat → S) (h : ∀ k, k < N → f k (st k) = some (.next (st (k + 1)))) : ∀ m k, k + m = N → forO f m k (st k) = some (.inl (st N))
  | 0, k, e => by simp at e; subst e; rfl
  | m + 1, k, e => by
    rw [forO, h k (by omega)]
    exact forO_at st h m (k + 1) (by omega)
theorem forO_st (st : Nat → S) {s0 : S} (h0 : s0 = st 0) (h : ∀ k, k < N → f k (st k) = some (.next (st (k + 1)))) : forO f N 0 s0 = some (.inl (st N)) := by
  rw [h0]; exact forO_at st h N 0 (by omega)
theorem forO_upto (st : Nat → S) (K : Nat) (hK : K < N) (h : ∀ k, k < K → f k (st k) = some (.next (st (k + 1)))) : ∀ m k, k + m = N → k ≤ K → forO f m k (st k) = forO f (N - K) K (st K)
  | 0, k, e, hk => by omega
  | m + 1, k, e, hk => by
    rcases Nat.lt_or_ge k K with hlt | hge
    · rw [forO, h k hlt]
      exact forO_upto st K hK h m (k + 1) (by omega) (by omega)
    · have : k = K := by omega
      subst this
      rw [show N - k = m + 1 by omega]
theorem forO_retAt (st : Nat → S) {s0 : S} (h0 : s0 = st 0) (K : Nat) (hK : K < N) (h : ∀ k, k < K → f k (st k) = some (.next (st (k + 1)))) {c : C} (hr : f K (st K) = some (.ret c)) : forO f N 0 s0 = some (.inr c) := by
  rw [h0, forO_upto st K hK h N 0 (by omega) (by omega), show N - K = (N - K - 1) + 1 by omega, forO, hr]; rfl
theorem forO_brkAt (st : Nat → S) {s0 : S} (h0 : s0 = st 0) (K : Nat) (hK : K < N) (h : ∀ k, k < K → f k (st k) = some (.next (st (k + 1)))) {s' : S} (hr : f K (st K) = some (.brk s')) : forO f N 0 s0 = some (.inl s') := by
  rw [h0, forO_upto st K hK h N 0 (by omega) (by omega), show N - K = (N - K - 1) + 1 by omega, forO, hr]; rfl
/-- A loop that looks for the first place where p fails. -/
theorem forO_all (p : Nat → Bool) {s : S} {c : C} (h : ∀ k, k < N → f k s = some (bif p k then .next s else .ret c)) : forO f N 0 s = some (bif (List.range N).all p then .inl s else .inr c) := by
  cases ha : (List.range N).all p with
  | true =>
    rw [List.all_eq_true] at ha
    exact forO_st (fun _ => s) rfl fun k hk => by rw [h k hk, ha k (by simpa using hk)]; rfl
  | false =>
    have : ∃ k, k < N ∧ p k = false := by
      rw [List.all_eq_false] at ha
      obtain ⟨k, hk, hp⟩ := ha
      exact ⟨k, by simpa using hk, by simpa using hp⟩
    have hmin : ∃ k, k < N ∧ p k = false ∧ ∀ j, j < k → p j = true := by
      obtain ⟨k, hk, hp⟩ := this
      induction k using Nat.strongRecOn with
      | _ k ih =>
        by_cases hx : ∃ j, j < k ∧ p j = false
        · obtain ⟨j, hj, hpj⟩ := hx
          exact ih j hj (by omega) hpj
        · refine ⟨k, hk, hp, fun j hj => ?_⟩
          cases hpj : p j with
          | true => rfl
          | false => exact absurd ⟨j, hj, hpj⟩ hx
    obtain ⟨k, hk, hp, hall⟩ := hmin
    exact forO_retAt (fun _ => s) rfl k hk (fun j hj => by rw [h j (by omega), hall j hj]; rfl) (by rw [h k hk, hp]; rfl)
/-- A loop that returns at the first place where p holds. -/
theorem forO_find (p : Nat → Bool) {s : S} (c : Nat → C) (h : ∀ k, k < N → f k s = some (bif p k then .ret (c k) else .next s)) : forO f N 0 s = some (match (List.range N).find? p with | some k => .inr (c k) | none => .inl s) := by
  cases ha : (List.range N).find? p with
  | none =>
    rw [List.find?_eq_none] at ha
    exact forO_st (fun _ => s) rfl fun k hk => by
      rw [h k hk]
      have := ha k (by simpa using hk)
      simp at this
      rw [this]; rfl
  | some K =>
    have hp := List.find?_some ha
    have hK : K < N := by simpa using List.mem_of_find?_eq_some ha
    refine forO_retAt (fun _ => s) rfl K hK (fun j hj => ?_) (by rw [h K hK, hp]; rfl)
    rw [h j (by omega)]
    have : p j = false := by
      rw [List.find?_range_eq_some] at ha
      simpa using ha.2.2 j hj
    rw [this]; rfl
end
section
variable {S : Type} {f : Nat → S → Option (Res S Empty)} {N : Nat}
theorem lpO_st (st : Nat → S) {s0 : S} (h0 : s0 = st 0) (h : ∀ k, k < N → f k (st k) = some (.next (st (k + 1)))) : lpO f N s0 = some (st N) := by
  unfold lpO; rw [forO_st st h0 h]; rfl
/-- A state that each round turns by g. -/
def fold {S : Type} (g : Nat → S → S) (s0 : S) : Nat → S
  | 0 => s0
  | n + 1 => g n (fold g s0 n)
theorem lpO_fold (g : Nat → S → S) {s0 : S} (h : ∀ k, k < N → f k (fold g s0 k) = some (.next (g k (fold g s0 k)))) : lpO f N s0 = some (fold g s0 N) :=
  lpO_st (fold g s0) rfl h
end
section
variable {α : Type} {f : Nat → List α → Option (Res (List α) Empty)} {N : Nat}
theorem lpO_app (F : Nat → α) {xs : List α} (h : ∀ k s, k < N → s.length = xs.length + k → f k s = some (.next (s ++ [F k]))) : lpO f N xs = some (xs ++ (List.range N).map F) :=
  lpO_st (fun k => xs ++ (List.range k).map F) (by simp) fun k hk => by
    rw [h k _ hk (by simp)]
    simp [List.range_succ]
theorem lpO_filter (p : Nat → Bool) (F : Nat → α) {xs : List α} (h : ∀ k s, k < N → s.length ≤ xs.length + k → f k s = some (.next (bif p k then s ++ [F k] else s))) : lpO f N xs = some (xs ++ ((List.range N).filter p).map F) :=
  lpO_st (fun k => xs ++ ((List.range k).filter p).map F) (by simp) fun k hk => by
    rw [h k _ hk (by
      have := List.length_filter_le p (List.range k)
      simp at this ⊢; omega)]
    cases hp : p k <;> simp [List.range_succ, List.filter_append, hp]
theorem lpO_cat (F : Nat → List α) {xs : List α} (h : ∀ k s, k < N → s = xs ++ (List.range k).flatMap F → f k s = some (.next (s ++ F k))) : lpO f N xs = some (xs ++ (List.range N).flatMap F) :=
  lpO_st (fun k => xs ++ (List.range k).flatMap F) (by simp) fun k hk => by
    rw [h k _ hk rfl]
    simp [List.range_succ]
end
theorem map_gx {α β : Type} [Rep α] (F : α → β) (xs : List α) : (List.range xs.length).map (fun k => F (gx xs k)) = xs.map F := by
  apply List.ext_getElem
  · simp
  · intro i h1 h2
    simp at h1
    simp [gx, List.getD, h1]
theorem all_gx {α : Type} [Rep α] (F : α → Bool) (xs : List α) : (List.range xs.length).all (fun k => F (gx xs k)) = xs.all F := by
  have := map_gx F xs
  calc (List.range xs.length).all (fun k => F (gx xs k)) = ((List.range xs.length).map (fun k => F (gx xs k))).all id := by simp [List.all_map]
    _ = xs.all F := by rw [this]; simp [List.all_map]
theorem gx_lt {α : Type} [Rep α] {xs : List α} {k : Nat} (h : k < xs.length) : gx xs k = xs[k] := by simp [gx, List.getD, h]
theorem gx_mem {α : Type} [Rep α] {xs : List α} {k : Nat} (h : k < xs.length) : gx xs k ∈ xs := by rw [gx_lt h]; exact List.getElem_mem h
theorem wr_of {n : Int} (h1 : -4611686018427387904 ≤ n) (h2 : n ≤ 4611686018427387904) : wr n = n := wr_id (by omega) (by omega)

/-- What is small enough for all bounds. -/
class Sm (α : Type) where
  ok : α → Prop
instance : Sm Int := ⟨fun _ => True⟩
instance : Sm Bool := ⟨fun _ => True⟩
instance : Sm Str := ⟨fun s => s.b.length ≤ 1048576⟩
instance (α : Type) [Sm α] : Sm (List α) := ⟨fun xs => xs.length ≤ 1048576 ∧ ∀ x ∈ xs, Sm.ok x⟩
theorem sm_len {α : Type} [Sm α] {xs : List α} (h : Sm.ok xs) : xs.length ≤ 1048576 := h.1
theorem sm_gx {α : Type} [Sm α] [Rep α] {xs : List α} (h : Sm.ok xs) {k : Nat} (hk : k < xs.length) : Sm.ok (gx xs k) := h.2 _ (gx_mem hk)
theorem sm_ints {xs : List Int} (h : xs.length ≤ 1048576) : Sm.ok xs := ⟨h, fun _ _ => trivial⟩

theorem gx_set_ne {α : Type} [Rep α] {xs : List α} {k j : Nat} {e : α} (h : j ≠ k) : gx (xs.set k e) j = gx xs j := by
  simp [gx, List.getD, List.getElem?_set_ne (Ne.symm h)]
theorem gx_ext {α : Type} [Rep α] {xs ys : List α} (hl : xs.length = ys.length) (h : ∀ k, k < xs.length → gx xs k = gx ys k) : xs = ys := by
  apply List.ext_getElem hl
  intro i h1 h2
  have := h i h1
  rwa [gx_lt h1, gx_lt h2] at this

theorem to_list {α : Type} [Rep α] {f : Nat → List α → Option (Res (List α) Empty)} (a : List α) (z : α) (h : ∀ k s, k < a.length → s.length = a.length → f k s = some (.next (s.set k (gx a k)))) : lpO f a.length (List.replicate a.length z) = some a := by
  have := lpO_st (f := f) (N := a.length) (fun k => a.take k ++ List.replicate (a.length - k) z) (s0 := List.replicate a.length z) (by simp) fun k hk => by
    rw [h k _ hk (by simp; omega)]
    congr 2
    apply List.ext_getElem
    · simp; omega
    · intro i h1 h2
      rw [List.getElem_set]
      split
      · rename_i e; subst e
        rw [gx_lt hk, List.getElem_append_left (by simp; omega)]
        simp
      · rename_i hne
        rcases Nat.lt_or_ge i k with hi | hi
        · rw [List.getElem_append_left (by simp; omega), List.getElem_append_left (by simp; omega)]; simp
        · rw [List.getElem_append_right (by simp; omega), List.getElem_append_right (by simp; omega)]; simp
  simpa using this
theorem all_next {C : Type} {f : Nat → Unit → Option (Res Unit C)} {N : Nat} (h : ∀ k, k < N → f k () = some (.next ())) : forO f N 0 () = some (.inl ()) := forO_st (fun _ => ()) rfl h

theorem mark_list {α : Type} [Rep α] {f : Nat → List α × Int → Option (Res (List α × Int) Empty)} (a : List α) (j0 B M : Int) (R : α → Int → Int → Prop) (hB : 0 ≤ B) (hM : j0 + B * a.length ≤ M)
    (h : ∀ k s j, k < a.length → s.length = a.length → gx s k = gx a k → j0 ≤ j → j + B ≤ M → ∃ e j', f k (s, j) = some (.next (s.set k e, j')) ∧ j ≤ j' ∧ j' ≤ j + B ∧ R e j j') :
    ∃ (a' : List α) (js : Nat → Int), lpO f a.length (a, j0) = some (a', js a.length) ∧ a'.length = a.length ∧ js 0 = j0 ∧ j0 ≤ js a.length ∧ js a.length ≤ j0 + B * a.length ∧ ∀ k, k < a.length → R (gx a' k) (js k) (js (k + 1)) ∧ j0 ≤ js k := by
  have key : ∀ m k (s : List α) (j : Int), k + m = a.length → s.length = a.length → (∀ i, k ≤ i → i < a.length → gx s i = gx a i) → j0 ≤ j → j ≤ j0 + B * k →
      ∃ (a' : List α) (js : Nat → Int), forO f m k (s, j) = some (.inl (a', js a.length)) ∧ a'.length = a.length ∧ js k = j ∧ j ≤ js a.length ∧ js a.length ≤ j0 + B * a.length ∧ (∀ i, i < k → gx a' i = gx s i) ∧ ∀ i, k ≤ i → i < a.length → R (gx a' i) (js i) (js (i + 1)) ∧ j ≤ js i := by
    intro m
    induction m with
    | zero =>
      intro k s j hk hl _ h0 h1
      have e : k = a.length := by omega
      subst e
      exact ⟨s, fun _ => j, rfl, hl, rfl, Int.le_refl _, h1, fun _ _ => rfl, fun i h1 h2 => by omega⟩
    | succ m ih =>
      intro k s j hk hl hs h0 h1
      have hle : B * (k : Int) + B ≤ B * a.length := by
        have : (k : Int) + 1 ≤ a.length := by omega
        have := Int.mul_le_mul_of_nonneg_left this hB
        rw [Int.mul_add, Int.mul_one] at this
        exact this
      obtain ⟨e, j', hf, g1, g2, hR⟩ := h k s j (by omega) hl (hs k (Nat.le_refl _) (by omega)) h0 (by omega)
      obtain ⟨a', js, i1, i2, i3, i3', i4, i5, i6⟩ := ih (k + 1) (s.set k e) j' (by omega) (by simpa using hl) (fun i h1 h2 => by rw [gx_set_ne (by omega)]; exact hs i (by omega) h2) (by omega) (by
        have e1 : B * ((k + 1 : Nat) : Int) = B * k + B := by rw [Int.natCast_add, Int.mul_add]; simp
        rw [e1]; omega)
      refine ⟨a', fun i => if i = k then j else js i, ?_, i2, by simp, ?_, ?_, fun i hi => ?_, fun i h1 h2 => ?_⟩
      · rw [forO, hf]
        have hne : a.length ≠ k := by omega
        simp only [Option.bind_some, hne, if_false]
        exact i1
      · have hne : a.length ≠ k := by omega
        simp only [hne, if_false]
        omega
      · have hne : a.length ≠ k := by omega
        simp only [hne, if_false]
        exact i4
      · rw [i5 i (by omega), gx_set_ne (by omega)]
      · rcases Nat.eq_or_lt_of_le h1 with e1 | e1
        · subst e1
          have hne : k + 1 ≠ k := by omega
          simp only [if_true, hne, if_false]
          rw [i3, i5 k (by omega), gx_set (by omega)]
          exact ⟨hR, Int.le_refl _⟩
        · have n1 : i ≠ k := by omega
          have n2 : i + 1 ≠ k := by omega
          simp only [n1, n2, if_false]
          obtain ⟨q1, q2⟩ := i6 i (by omega) h2
          exact ⟨q1, by omega⟩
  obtain ⟨a', js, i1, i2, i3, i3', i4, _, i6⟩ := key a.length 0 a j0 (by omega) rfl (fun _ _ _ => rfl) (Int.le_refl _) (by simp)
  refine ⟨a', js, ?_, i2, i3, i3', i4, fun k hk => i6 k (Nat.zero_le _) hk⟩
  unfold lpO
  rw [i1]; rfl
theorem held_list {C : Type} {f : Nat → Int → Option (Res Int C)} {N : Nat} (js : Nat → Int) {j0 : Int} (h0 : js 0 = j0) (h : ∀ k, k < N → f k (js k) = some (.next (js (k + 1)))) : forO f N 0 j0 = some (.inl (js N)) := forO_st js h0.symm h
/-- Sizes: each round takes off what an element has, or ends. -/
theorem size_list {f : Nat → Int → Option (Res Int Int)} {N : Nat} (P : Nat → Prop) (l : Int) (h : ∀ k j, k < N → 0 ≤ j → j ≤ l → (f k j = some (.ret (-1))) ∨ ∃ j', f k j = some (.next j') ∧ 0 ≤ j' ∧ j' ≤ j ∧ P k) (hl : 0 ≤ l) :
    forO f N 0 l = some (.inr (-1)) ∨ ∃ j, forO f N 0 l = some (.inl j) ∧ 0 ≤ j ∧ j ≤ l ∧ ∀ k, k < N → P k := by
  have key : ∀ m k j, k + m = N → 0 ≤ j → j ≤ l → (∀ i, i < k → P i) → forO f m k j = some (.inr (-1)) ∨ ∃ j', forO f m k j = some (.inl j') ∧ 0 ≤ j' ∧ j' ≤ l ∧ ∀ i, i < N → P i := by
    intro m
    induction m with
    | zero => intro k j hk h0 h1 hP; exact .inr ⟨j, rfl, h0, h1, fun i hi => hP i (by omega)⟩
    | succ m ih =>
      intro k j hk h0 h1 hP
      rcases h k j (by omega) h0 h1 with hr | ⟨j', hr, g1, g2, g3⟩
      · left; rw [forO, hr]; rfl
      · rw [forO, hr]
        exact ih (k + 1) j' (by omega) g1 (by omega) (fun i hi => by
          rcases Nat.lt_or_ge i k with h | h
          · exact hP i h
          · have : i = k := by omega
            subst this; exact g3)
  exact key N 0 l (by omega) hl (Int.le_refl _) (fun i hi => by omega)
theorem all_of_gx {α : Type} [Rep α] {xs : List α} {P : α → Prop} (h : ∀ k, k < xs.length → P (gx xs k)) : ∀ x ∈ xs, P x := fun x hx => by
  obtain ⟨i, hi, rfl⟩ := List.getElem_of_mem hx
  have := h i hi
  rwa [gx_lt hi] at this

-- type GAct
instance : Sm GAct := ⟨fun _ => True⟩

@[simp] theorem to_Act (a : GAct) : laws_toAct a = some a := by cases a; rfl

@[simp] theorem eq_Act (a : GAct) : laws_eqAct a a = some true := by simp [laws_eqAct]

theorem to_ActS (a : List GAct) (hs : Sm.ok a) : laws_toActS a = some a := by
  have hl := sm_len hs
  unfold laws_toActS
  rw [gd_pos (by omega), gd_pos (by omega), to_list (f := laws_toActS_L1 a) a _ (fun k s hk hl' => by
    simp only [laws_toActS_L1, to_Act, Option.bind_some]
    rw [gd_pos (by omega)])]
  rfl

theorem eq_ActS (a : List GAct) (hs : Sm.ok a) : laws_eqActS a a = some true := by
  have hl := sm_len hs
  unfold laws_eqActS
  simp only [bne_self_eq_false, cond_false]
  rw [gd_pos (by omega), all_next (f := laws_eqActS_L1 a a) (fun k hk => by
    simp only [laws_eqActS_L1, eq_Act (gx a k), Option.bind_some]
    rw [gd_pos hk]; rfl)]
  rfl

theorem sz_ActS (a : List GAct) (l : Int) (h0 : 0 ≤ l) (h1 : l ≤ 1048576) (hf : a.length ≤ maxLen) : ∃ r, laws_szActS a l = some r ∧ (r < 0 ∨ (Sm.ok a ∧ 0 ≤ r ∧ r ≤ l)) := by
  unfold maxLen at hf
  have e : wr (l - (a.length : Int)) = l - (a.length : Int) := wr_id (by omega) (by omega)
  unfold laws_szActS
  rw [e]
  by_cases h : l - (a.length : Int) < 0
  · exact ⟨-1, by simp [h], .inl (by omega)⟩
  · exact ⟨l - (a.length : Int), by simp [h], .inr ⟨⟨by omega, fun _ _ => trivial⟩, by omega, by omega⟩⟩

def inR (x a b : Int) : Bool := decide (x ≥ a) && decide (x ≤ b)
theorem inR_iff {x a b : Int} : inR x a b = true ↔ a ≤ x ∧ x ≤ b := by simp [inR]
theorem inR_not {x a b : Int} : inR x a b = false ↔ ¬(a ≤ x ∧ x ≤ b) := by rw [← inR_iff]; simp

@[simp] theorem l01In_eq (x a b : Int) : spec_l01In x a b = some (inR x a b) := rfl

@[simp] theorem within_eq (x a b : Int) : impl_within x a b = some (inR x a b) := rfl

theorem forO_allSt {S C : Type} {f : Nat → S → Option (Res S C)} {N : Nat} (p : Nat → Bool) (st : Nat → S) {s0 : S} (h0 : s0 = st 0) {c : C} (h : ∀ k, k < N → (∀ j, j < k → p j = true) → f k (st k) = some (bif p k then .next (st (k + 1)) else .ret c)) : forO f N 0 s0 = some (bif (List.range N).all p then .inl (st N) else .inr c) := by
  have hmin : ∀ n, (∀ j, j < n → p j = true) ∨ ∃ k, k < n ∧ p k = false ∧ ∀ j, j < k → p j = true := by
    intro n
    induction n with
    | zero => left; intro j hj; omega
    | succ n ih =>
      rcases ih with ih | ⟨k, h1, h2, h3⟩
      · cases hp : p n with
        | true => left; intro j hj; rcases Nat.lt_or_ge j n with hlt | hge
                  · exact ih j hlt
                  · rw [show j = n by omega]; exact hp
        | false => right; exact ⟨n, by omega, hp, ih⟩
      · right; exact ⟨k, by omega, h2, h3⟩
  rcases hmin N with hall | ⟨K, hK, hp, hlt⟩
  · have : (List.range N).all p = true := by
      rw [List.all_eq_true]; intro k hk; exact hall k (by simpa using hk)
    rw [this]
    exact forO_st st h0 fun k hk => by rw [h k hk (fun j hj => hall j (by omega)), hall k hk]; rfl
  · have : (List.range N).all p = false := by
      rw [List.all_eq_false]; exact ⟨K, by simpa using hK, by simp [hp]⟩
    rw [this]
    exact forO_retAt st h0 K hK (fun k hk => by rw [h k (by omega) (fun j hj => hlt j (by omega)), hlt k hk]; rfl) (by rw [h K hK hlt, hp]; rfl)

def ActOkM (a : GAct) : Bool := bif a.Kind == 1 then inR a.A 1 999 && (a.B == 0) else bif a.Kind == 2 then inR a.A 1 999 && inR a.B 0 9 else bif a.Kind == 3 || a.Kind == 6 then inR a.A 0 9 && (a.B == 0) else bif a.Kind == 4 || a.Kind == 5 then (a.A == 0) && (a.B == 0) else false

theorem spec_ActOk_eq (a : GAct) : spec_ActOk a = some (ActOkM a) := by
  unfold spec_ActOk ActOkM
  simp only [l01In_eq, Option.bind_some]
  cases a.Kind == 1
  · cases a.Kind == 2
    · cases a.Kind == 3 || a.Kind == 6
      · cases a.Kind == 4 || a.Kind == 5 <;> rfl
      · cases inR a.A 0 9 <;> rfl
    · cases inR a.A 1 999 <;> rfl
  · cases inR a.A 1 999 <;> rfl

theorem impl_ActOk_eq (a : GAct) : impl_ActOk a = some (ActOkM a) := by
  unfold impl_ActOk ActOkM
  simp only [within_eq, Option.bind_some]
  cases a.Kind == 1
  · cases a.Kind == 2
    · cases a.Kind == 3 || a.Kind == 6
      · cases a.Kind == 4 <;> cases a.Kind == 5 <;> rfl
      · cases inR a.A 0 9 <;> rfl
    · cases inR a.A 1 999 <;> rfl
  · cases inR a.A 1 999 <;> rfl

theorem seq_self (s : Str) : seq s s = true := by unfold seq; simp

theorem dec_len : ∀ (k u : Nat), u < 10 ^ (k + 1) → (Lib.decDigits u).length ≤ k + 1
  | 0, u, h => by rw [Lib.decDigits, dif_pos (by simpa using h)]; simp
  | k + 1, u, h => by
    by_cases hu : u < 10
    · rw [Lib.decDigits, dif_pos hu]; simp
    · rw [Nat.pow_succ] at h
      rw [Lib.decDigits, dif_neg hu, List.length_append]
      have := dec_len k (u / 10) (by omega)
      simp; omega
theorem itoa_nat {n : Int} (h0 : 0 ≤ n) : Lib.itoa n = Lib.decDigits n.toNat := by
  unfold Lib.itoa
  rw [if_neg (by omega)]
theorem itoa_len {n : Int} (h0 : 0 ≤ n) (h1 : n ≤ 1000000000) : (Lib.itoa n).length ≤ 10 := by
  rw [itoa_nat h0]
  exact dec_len 9 _ (by have : (10 : Nat) ^ (9 + 1) = 10000000000 := by decide
                        omega)

theorem impl_FormatInt_b_eq {n : Int} (h0 : 0 ≤ n) (h1 : n ≤ 1000000000) : impl_FormatInt_b n = some ⟨Lib.itoa n⟩ := by
  unfold impl_FormatInt_b strconv_Itoa_b
  rw [gd_pos ⟨by omega, by omega⟩]
  rfl

theorem spec_figure {m : Nat} (h : m < 10) : spec_l01Figure ((m : Nat) : Int) = some (UInt8.ofNat (48 + m)) := by
  unfold spec_l01Figure u8of
  rw [decide_eq_true (show ((m : Nat) : Int) < 10 by omega), cond_true, wr_of (by omega) (by omega)]
  have : ((48 + (m : Int)) % 256).toNat = 48 + m := by omega
  rw [this]
theorem spec_digits : ∀ (k m : Nat), m ≤ k → 0 < m → m ≤ 1000000000 → ∀ (s : Str) (fuel : Nat), s.b.length + m ≤ 2000000000 → m + 1 < fuel → whO spec_FormatInt_L1 fuel ((m : Int), s) = some (.inl (0, ⟨Lib.decDigits m ++ s.b⟩))
  | 0, m, hk, hm, _, _, _, _, _ => absurd hm (by omega)
  | k + 1, m, hk, hm, hb, s, fuel, hs, hf => by
    obtain ⟨fuel, rfl⟩ : ∃ q, fuel = q + 1 := ⟨fuel - 1, by omega⟩
    have hstep : spec_FormatInt_L1 ((m : Int), s) = some (.next (((m / 10 : Nat) : Int), ⟨UInt8.ofNat (48 + m % 10) :: s.b⟩)) := by
      unfold spec_FormatInt_L1
      have h1 : (((m : Int) != 0)) = true := by simp; omega
      have h2 : (m : Int).tmod 10 = ((m % 10 : Nat) : Int) := rfl
      have h3 : (m : Int).tdiv 10 = ((m / 10 : Nat) : Int) := rfl
      simp only [h1, cond_true, h2, h3]
      rw [decide_eq_false (show ¬ ((m % 10 : Nat) : Int) < 0 by omega), cond_false, spec_figure (by omega)]
      simp only [Option.bind_some, List.length_cons, List.length_nil]
      rw [gd_pos (by omega), wr_of (by omega) (by omega)]
      rfl
    rw [whO, hstep]
    simp only [Option.bind_some]
    by_cases h10 : m < 10
    · obtain ⟨fuel, rfl⟩ : ∃ q, fuel = q + 1 := ⟨fuel - 1, by omega⟩
      have e0 : m / 10 = 0 := by omega
      have e1 : m % 10 = m := by omega
      rw [e0, e1, Lib.decDigits, dif_pos h10, whO]
      rfl
    · rw [spec_digits k (m / 10) (by omega) (by omega) (by omega) _ fuel (by simp only [List.length_cons]; omega) (by omega)]
      rw [show Lib.decDigits m = Lib.decDigits (m / 10) ++ [UInt8.ofNat (48 + m % 10)] by rw [Lib.decDigits, dif_neg h10]]
      simp
theorem spec_FormatInt_all {n : Int} (h0 : 0 ≤ n) (h1 : n ≤ 1000000000) : spec_FormatInt n = some ⟨Lib.itoa n⟩ := by
  obtain ⟨m, rfl⟩ := Int.eq_ofNat_of_zero_le h0
  rw [itoa_nat h0, Int.toNat_natCast]
  unfold spec_FormatInt
  by_cases hz : m = 0
  · subst hz
    rw [Lib.decDigits]
    rfl
  · have hb : (((m : Nat) : Int) == 0) = false := by simpa using hz
    rw [hb, cond_false]
    have := spec_digits m m (Nat.le_refl _) (by omega) (by omega) ⟨[]⟩ 18446744073709551616 (by simp only [List.length_nil]; omega) (by omega)
    unfold wlO
    rw [this]
    simp only [Option.map_some, lpk, Option.bind_some]
    rw [decide_eq_false (show ¬ ((m : Nat) : Int) < 0 by omega)]
    simp

/-- Numbers behind blanks. -/
def numsL (ns : List Int) : List UInt8 := (ns.map fun n => 32 :: Lib.itoa n).flatten
def lineL (word : List UInt8) (ns : List Int) : List UInt8 := word ++ numsL ns
theorem numsL_len : ∀ {ns : List Int}, (∀ n ∈ ns, 0 ≤ n ∧ n ≤ 1000000000) → (numsL ns).length ≤ 11 * ns.length
  | [], _ => by simp [numsL]
  | n :: ns, h => by
    have h1 := numsL_len (ns := ns) fun x hx => h x (by simp [hx])
    have h2 := itoa_len (h n (by simp)).1 (h n (by simp)).2
    unfold numsL at h1 ⊢
    simp only [List.map_cons, List.flatten_cons, List.length_append, List.length_cons]
    omega
theorem lineL_len {word : List UInt8} {ns : List Int} (hw : word.length ≤ 100) (h : ∀ n ∈ ns, 0 ≤ n ∧ n ≤ 1000000000) (hl : ns.length ≤ 100) : (lineL word ns).length ≤ 1200 := by
  have := numsL_len h
  unfold lineL
  rw [List.length_append]; omega

theorem impl_lineOf_eq {word : Str} {ns : List Int} (hw : word.b.length ≤ 100) (h : ∀ n ∈ ns, 0 ≤ n ∧ n ≤ 1000000000) (hl : ns.length ≤ 100) : impl_lineOf word ns = some ⟨lineL word.b ns⟩ := by
  have hlen := lineL_len hw h hl
  unfold impl_lineOf
  rw [gd_pos (by omega), lpO_app (f := impl_lineOf_L1 ns) (xs := [word]) (fun k => (⟨Lib.itoa (gx ns k)⟩ : Str)) (fun k s hk hs => by
    have hn := h _ (gx_mem hk)
    unfold impl_lineOf_L1
    rw [impl_FormatInt_b_eq hn.1 hn.2]
    simp only [Option.bind_some]
    rw [gd_pos (by simp at hs; omega)])]
  simp only [Option.bind_some]
  rw [map_gx (fun n => (⟨Lib.itoa n⟩ : Str)) ns]
  have hj : Lib.join ((([word] : List Str) ++ ns.map fun n => (⟨Lib.itoa n⟩ : Str)).map Str.b) [32] = lineL word.b ns := by
    rw [List.singleton_append, List.map_cons, List.map_map, Lib.join_cons]
    unfold lineL numsL Lib.joinTail
    rw [List.map_map]
    rfl
  unfold strings_Join
  simp only [hj]
  rw [gd_pos ⟨by simp; omega, by omega⟩]
  rfl

/-- A loop that writes numbers behind a word. -/
theorem line_loop {f : Nat → Str → Option (Res Str Empty)} {N : Nat} {x : Nat → Int} (word : Str) (hw : word.b.length ≤ 100) (hx : ∀ k, k < N → 0 ≤ x k ∧ x k ≤ 1000000000) (hN : N ≤ 100) (h : ∀ k s, k < N → s.b.length ≤ 1200 → f k s = some (.next (sadd (sadd s ⟨[32]⟩) ⟨Lib.itoa (x k)⟩))) : lpO f N word = some ⟨lineL word.b ((List.range N).map x)⟩ :=
  lpO_st (fun k => (⟨lineL word.b ((List.range k).map x)⟩ : Str)) (by simp [lineL, numsL]) fun k hk => by
    have hlen : (lineL word.b ((List.range k).map x)).length ≤ 1200 := lineL_len hw (fun n hn => by
      obtain ⟨j, hj, rfl⟩ := List.mem_map.1 hn
      have hj' : j < k := by simpa using hj
      exact hx j (by omega)) (by simp; omega)
    rw [h k ⟨lineL word.b ((List.range k).map x)⟩ hk hlen]
    simp [List.range_succ, lineL, numsL, sadd]

def actWord (k : Int) : List UInt8 := bif k == 1 then [97, 100, 109, 105, 116] else bif k == 2 then [115, 117, 98, 109, 105, 116] else bif k == 3 then [115, 101, 119] else bif k == 6 then [108, 97, 99, 107] else bif k == 4 then [114, 111, 117, 110, 100] else [121, 101, 97, 114]
def actArgs (a : GAct) : List Int := bif a.Kind == 2 then [a.A, a.B] else bif a.Kind == 4 || a.Kind == 5 then [] else [a.A]
def actL (a : GAct) : Str := ⟨lineL (actWord a.Kind) (actArgs a)⟩
def FormatActM (a : GAct) : Str × Bool := bif ActOkM a then (actL a, true) else (⟨[]⟩, false)
theorem actOk_cases {a : GAct} (h : ActOkM a = true) : (a.Kind = 1 ∨ a.Kind = 2 ∨ a.Kind = 3 ∨ a.Kind = 4 ∨ a.Kind = 5 ∨ a.Kind = 6) ∧ 0 ≤ a.A ∧ a.A ≤ 999 ∧ 0 ≤ a.B ∧ a.B ≤ 9 := by
  unfold ActOkM at h
  cases k1 : a.Kind == 1
  · cases k2 : a.Kind == 2
    · cases k3 : a.Kind == 3
      · cases k6 : a.Kind == 6
        · cases k4 : a.Kind == 4
          · cases k5 : a.Kind == 5
            · rw [k1, k2, k3, k4, k5, k6] at h; cases h
            · rw [k1, k2, k3, k4, k5, k6] at h
              simp at h k5
              exact ⟨by omega, by omega, by omega, by omega, by omega⟩
          · rw [k1, k2, k3, k4, k6] at h
            simp at h k4
            exact ⟨by omega, by omega, by omega, by omega, by omega⟩
        · rw [k1, k2, k3, k6] at h
          simp [inR] at h k6
          exact ⟨by omega, by omega, by omega, by omega, by omega⟩
      · rw [k1, k2, k3] at h
        simp [inR] at h k3
        exact ⟨by omega, by omega, by omega, by omega, by omega⟩
    · rw [k1, k2] at h
      simp [inR] at h k2
      exact ⟨by omega, by omega, by omega, by omega, by omega⟩
  · rw [k1] at h
    simp [inR] at h k1
    exact ⟨by omega, by omega, by omega, by omega, by omega⟩

theorem impl_FormatAct_eq (a : GAct) : impl_FormatAct a = some (FormatActM a) := by
  unfold impl_FormatAct FormatActM
  rw [impl_ActOk_eq]
  simp only [Option.bind_some]
  cases h : ActOkM a
  · rfl
  obtain ⟨hk, a0, a1, b0, b1⟩ := actOk_cases h
  have one : ∀ n ∈ ([a.A] : List Int), 0 ≤ n ∧ n ≤ 1000000000 := fun n hn => by
    rw [List.mem_singleton.1 hn]; omega
  have two : ∀ n ∈ ([a.A, a.B] : List Int), 0 ≤ n ∧ n ≤ 1000000000 := fun n hn => by
    simp only [List.mem_cons, List.not_mem_nil, or_false] at hn
    rcases hn with rfl | rfl <;> omega
  simp only [Bool.not_true, cond_false, cond_true]
  rw [impl_lineOf_eq (by simp) one (by simp), impl_lineOf_eq (by simp) two (by simp), impl_lineOf_eq (by simp) one (by simp), impl_lineOf_eq (by simp) one (by simp)]
  unfold actL actWord actArgs
  rcases hk with k | k | k | k | k | k <;> rw [k] <;> rfl

theorem spec_FormatAct_eq (a : GAct) : spec_FormatAct a = some (FormatActM a) := by
  unfold spec_FormatAct FormatActM
  rw [spec_ActOk_eq]
  simp only [Option.bind_some]
  cases h : ActOkM a
  · rfl
  obtain ⟨hk, a0, a1, b0, b1⟩ := actOk_cases h
  have hx : ∀ k : Nat, k < 2 → 0 ≤ gx ([a.A, a.B] : List Int) k ∧ gx ([a.A, a.B] : List Int) k ≤ 1000000000 := fun k hk => by
    have h2 : k = 0 ∨ k = 1 := by omega
    rcases h2 with rfl | rfl
    · show 0 ≤ a.A ∧ a.A ≤ 1000000000; omega
    · show 0 ≤ a.B ∧ a.B ≤ 1000000000; omega
  have lp : ∀ (N : Nat) (word : Str), N ≤ 2 → word.b.length ≤ 100 → lpO (spec_FormatAct_L1 a) N word = some ⟨lineL word.b ((List.range N).map fun k => gx ([a.A, a.B] : List Int) k)⟩ := fun N word hN hw => line_loop word hw (fun k hk => hx k (by omega)) (by omega) fun k s hk hs => by
    have h1 := hx k (by omega)
    have h2 := itoa_len h1.1 h1.2
    unfold spec_FormatAct_L1
    rw [gd_pos (by simp only [List.length_cons, List.length_nil]; omega), gd_pos (by simp only [List.length_cons, List.length_nil]; omega), spec_FormatInt_all h1.1 h1.2]
    simp only [Option.bind_some, sadd, List.length_append, List.length_cons, List.length_nil]
    rw [gd_pos (by omega)]
  simp only [Bool.not_true, cond_false, cond_true]
  have hkr : 1 ≤ a.Kind ∧ a.Kind ≤ 6 := by omega
  rw [gd_pos ⟨by omega, by simp only [List.length_cons, List.length_nil]; omega⟩, gd_pos ⟨by omega, by simp only [List.length_cons, List.length_nil]; omega⟩]
  unfold actL actWord actArgs
  rcases hk with k | k | k | k | k | k <;> rw [k]
  · rw [show (gx ([0, 1, 2, 1, 0, 0, 1] : List Int) (1 : Int).toNat).toNat = 1 from rfl, gd_pos (by omega), lp 1 _ (by omega) (by decide)]; rfl
  · rw [show (gx ([0, 1, 2, 1, 0, 0, 1] : List Int) (2 : Int).toNat).toNat = 2 from rfl, gd_pos (by omega), lp 2 _ (by omega) (by decide)]; rfl
  · rw [show (gx ([0, 1, 2, 1, 0, 0, 1] : List Int) (3 : Int).toNat).toNat = 1 from rfl, gd_pos (by omega), lp 1 _ (by omega) (by decide)]; rfl
  · rw [show (gx ([0, 1, 2, 1, 0, 0, 1] : List Int) (4 : Int).toNat).toNat = 0 from rfl, gd_pos (by omega), lp 0 _ (by omega) (by decide)]; rfl
  · rw [show (gx ([0, 1, 2, 1, 0, 0, 1] : List Int) (5 : Int).toNat).toNat = 0 from rfl, gd_pos (by omega), lp 0 _ (by omega) (by decide)]; rfl
  · rw [show (gx ([0, 1, 2, 1, 0, 0, 1] : List Int) (6 : Int).toNat).toNat = 1 from rfl, gd_pos (by omega), lp 1 _ (by omega) (by decide)]; rfl

theorem actL_len {a : GAct} (h : ActOkM a = true) : (actL a).b.length ≤ 1200 := by
  obtain ⟨hk, a0, a1, b0, b1⟩ := actOk_cases h
  have one : ∀ n ∈ actArgs a, 0 ≤ n ∧ n ≤ 1000000000 := fun n hn => by
    unfold actArgs at hn
    cases h2 : a.Kind == 2
    · cases h4 : a.Kind == 4 || a.Kind == 5
      · rw [h2, h4] at hn
        rw [List.mem_singleton.1 hn]; omega
      · rw [h2, h4] at hn; cases hn
    · rw [h2] at hn
      simp only [cond_true, List.mem_cons, List.not_mem_nil, or_false] at hn
      rcases hn with rfl | rfl <;> omega
  have hl : (actArgs a).length ≤ 100 := by
    unfold actArgs
    cases a.Kind == 2
    · cases a.Kind == 4 || a.Kind == 5 <;> simp
    · simp
  have hw : (actWord a.Kind).length ≤ 100 := by
    unfold actWord
    rcases hk with k | k | k | k | k | k <;> rw [k] <;> decide
  exact lineL_len hw one hl
def scrT (acts : List GAct) : Nat → List UInt8
  | 0 => []
  | k + 1 => scrT acts k ++ ((actL (gx acts k)).b ++ [10])
theorem scrT_len {acts : List GAct} : ∀ k, (∀ j, j < k → ActOkM (gx acts j) = true) → (scrT acts k).length ≤ 1201 * k
  | 0, _ => by simp [scrT]
  | k + 1, h => by
    have h1 := scrT_len k fun j hj => h j (by omega)
    have h2 := actL_len (h k (by omega))
    simp only [scrT, List.length_append, List.length_cons, List.length_nil]
    omega
def ScriptM (acts : List GAct) : Str × Bool := bif decide ((acts.length : Int) > 40) then (⟨[]⟩, false) else bif (List.range acts.length).all (fun k => ActOkM (gx acts k)) then (⟨scrT acts acts.length⟩, true) else (⟨[]⟩, false)

theorem impl_ScriptText_eq (acts : List GAct) : impl_ScriptText acts = some (ScriptM acts) := by
  unfold impl_ScriptText ScriptM
  cases hd : decide ((acts.length : Int) > 40)
  · have hl : acts.length ≤ 40 := by simp at hd; omega
    simp only [cond_false]
    rw [gd_pos (by omega), forO_allSt (f := impl_ScriptText_L1 acts) (N := acts.length) (s0 := (⟨[]⟩ : Str)) (c := ((⟨[]⟩ : Str), false)) (fun k => ActOkM (gx acts k)) (fun k => (⟨scrT acts k⟩ : Str)) rfl (fun k hk hp => by
      unfold impl_ScriptText_L1
      rw [impl_FormatAct_eq]
      unfold FormatActM
      cases h : ActOkM (gx acts k)
      · rfl
      · have h1 := actL_len h
        have h2 := scrT_len k hp
        simp only [cond_true, Option.bind_some, Bool.not_true, cond_false]
        rw [gd_pos (by simp only [List.length_cons, List.length_nil]; omega), gd_pos (by simp only [sadd, List.length_append, List.length_cons, List.length_nil]; omega)]
        rfl)]
    cases (List.range acts.length).all (fun k => ActOkM (gx acts k)) <;> rfl
  · rfl

theorem spec_ScriptText_eq {acts : List GAct} (hlen : acts.length ≤ 1048576) : spec_ScriptText acts = some (ScriptM acts) := by
  unfold spec_ScriptText ScriptM
  rw [gd_pos (by omega)]
  cases hd : decide ((acts.length : Int) > 40)
  · have hl : acts.length ≤ 40 := by simp at hd; omega
    rw [forO_allSt (f := spec_ScriptText_L1 acts) (N := acts.length) (s0 := ([] : List UInt8)) (c := ((⟨[]⟩ : Str), false)) (fun k => ActOkM (gx acts k)) (fun k => scrT acts k) rfl (fun k hk hp => by
      unfold spec_ScriptText_L1
      rw [spec_FormatAct_eq, hd]
      unfold FormatActM
      cases h : ActOkM (gx acts k)
      · rfl
      · have h1 := actL_len h
        have h2 := scrT_len k hp
        simp only [cond_true, Option.bind_some, Bool.not_true, Bool.or_self, cond_false]
        rw [gd_pos (by simp only [List.length_cons, List.length_nil]; omega), gd_pos (by simp only [sadd, List.length_append, List.length_cons, List.length_nil]; omega)]
        rfl)]
    cases (List.range acts.length).all (fun k => ActOkM (gx acts k)) <;> rfl
  · have hl : 0 < acts.length := by simp at hd; omega
    rw [forO_retAt (f := spec_ScriptText_L1 acts) (fun _ => ([] : List UInt8)) rfl 0 hl (fun k hk => by omega) (c := ((⟨[]⟩ : Str), false)) (by
      unfold spec_ScriptText_L1
      rw [spec_FormatAct_eq, hd]
      simp only [Option.bind_some, Bool.or_true, cond_true])]
    rfl

theorem same_ScriptText (acts : List GAct) (h : Sm.ok acts) : ∃ w, spec_ScriptText acts = some w ∧ impl_ScriptText acts = some w := ⟨_, spec_ScriptText_eq h.1, impl_ScriptText_eq acts⟩

theorem p_FnExactScriptText (a0 : List GAct) (f0 : Fit.ok a0) : laws_FnExactScriptText a0 = some true := by
  unfold laws_FnExactScriptText
  obtain ⟨r0, hr0, hc0⟩ := sz_ActS a0 1048576 (by omega) (by omega) f0.1
  rcases hc0 with hc0 | ⟨s0, u0, w0⟩
  · simp [hr0, hc0]
  have n0 : ¬ r0 < 0 := by omega
  obtain ⟨w, hs, hi⟩ := same_ScriptText a0 s0
  simp [hr0, n0, to_ActS a0 s0, eq_ActS a0 s0, hs, hi, seq_self]
end Go.Proofs.YtkahnmhkfmjomadDoor
