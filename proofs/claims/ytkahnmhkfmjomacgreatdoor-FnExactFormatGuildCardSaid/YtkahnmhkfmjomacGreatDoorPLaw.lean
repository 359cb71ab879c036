/-
  The plain laws: what the functions compute, in Lean alone.
-/
import Derived.Test.YtkahnmhkfmjomacGreatDoorPure
namespace Go.Proofs.YtkahnmhkfmjomacGreatDoor
open Go

theorem gd_pos {α : Type} {p : Prop} [Decidable p] (h : p) (t : Option α) : gd p t = t := by simp [gd, h]
@[simp] theorem sq_inl {J C : Type} (j : J) (k : J → Option C) : sq (some (.inl j)) k = k j := rfl
@[simp] theorem sq_inr {J C : Type} (c : C) (k : J → Option C) : sq (some (.inr c)) k = some c := rfl

section
variable {S C : Type} {f : Nat → S → Option (Res S C)} {N : Nat}
theorem forO_at (st : Nat → S) (h : ∀ k, k < N → f k (st k) = some (.next (st (k + 1)))) : ∀ m k, k + m = N → forO f m k (st k) = some (.inl (st N))
  | 0, k, e => by simp at e; subst e; rfl
  | m + 1, k, e => by
    rw [forO, h k (by omega)]
    exact forO_at st h m (k + 1) (by omega)
theorem forO_st (st : Nat → S) {s0 : S} (h0 : s0 = st 0) (h : ∀ k, k < N → f k (st k) = some (.next (st (k + 1)))) : forO f N 0 s0 = some (.inl (st N)) := by
  rw [h0]; exact forO_at st h N 0 (by omega)
theorem forO_upto (st : Nat → S) (K : Nat) (hK : K < N) (h : ∀ k, k < K → f k (st k) = some (.next (st (k + 1)))) : ∀ m k, k + m = N → k ≤ K → forO f m k (st k) = forO f (N - K) K (st K)
  | 0, k, e, hk => by omega
  | m + 1, k, e, hk => by
    rcases Nat.lt_or_ge k K with hlt | hge
    · rw [forO, h k hlt]
      exact forO_upto st K hK h m (k + 1) (by omega) (by omega)
    · have : k = K := by omega
      subst this
      rw [show N - k = m + 1 by omega]
theorem forO_retAt (st : Nat → S) {s0 : S} (h0 : s0 = st 0) (K : Nat) (hK : K < N) (h : ∀ k, k < K → f k (st k) = some (.next (st (k + 1)))) {c : C} (hr : f K (st K) = some (.ret c)) : forO f N 0 s0 = some (.inr c) := by
  rw [h0, forO_upto st K hK h N 0 (by omega) (by omega), show N - K = (N - K - 1) + 1 by omega, forO, hr]; rfl
theorem forO_brkAt (st : Nat → S) {s0 : S} (h0 : s0 = st 0) (K : Nat) (hK : K < N) (h : ∀ k, k < K → f k (st k) = some (.next (st (k + 1)))) {s' : S} (hr : f K (st K) = some (.brk s')) : forO f N 0 s0 = some (.inl s') := by
  rw [h0, forO_upto st K hK h N 0 (by omega) (by omega), show N - K = (N - K - 1) + 1 by omega, forO, hr]; rfl
/-- A loop that looks for the first place where p fails. -/
theorem forO_all (p : Nat → Bool) {s : S} {c : C} (h : ∀ k, k < N → f k s = some (bif p k then .next s else .ret c)) : forO f N 0 s = some (bif (List.range N).all p then .inl s else .inr c) := by
  cases ha : (List.range N).all p with
  | true =>
    rw [List.all_eq_true] at ha
    exact forO_st (fun _ => s) rfl fun k hk => by rw [h k hk, ha k (by simpa using hk)]; rfl
  | false =>
    have : ∃ k, k < N ∧ p k = false := by
      rw [List.all_eq_false] at ha
      obtain ⟨k, hk, hp⟩ := ha
      exact ⟨k, by simpa using hk, by simpa using hp⟩
    have hmin : ∃ k, k < N ∧ p k = false ∧ ∀ j, j < k → p j = true := by
      obtain ⟨k, hk, hp⟩ := this
      induction k using Nat.strongRecOn with
      | _ k ih =>
        by_cases hx : ∃ j, j < k ∧ p j = false
        · obtain ⟨j, hj, hpj⟩ := hx
          exact ih j hj (by omega) hpj
        · refine ⟨k, hk, hp, fun j hj => ?_⟩
          cases hpj : p j with
          | true => rfl
          | false => exact absurd ⟨j, hj, hpj⟩ hx
    obtain ⟨k, hk, hp, hall⟩ := hmin
    exact forO_retAt (fun _ => s) rfl k hk (fun j hj => by rw [h j (by omega), hall j hj]; rfl) (by rw [h k hk, hp]; rfl)
/-- A loop that returns at the first place where p holds. -/
theorem forO_find (p : Nat → Bool) {s : S} (c : Nat → C) (h : ∀ k, k < N → f k s = some (bif p k then .ret (c k) else .next s)) : forO f N 0 s = some (match (List.range N).find? p with | some k => .inr (c k) | none => .inl s) := by
  cases ha : (List.range N).find? p with
  | none =>
    rw [List.find?_eq_none] at ha
    exact forO_st (fun _ => s) rfl fun k hk => by
      rw [h k hk]
      have := ha k (by simpa using hk)
      simp at this
      rw [this]; rfl
  | some K =>
    have hp := List.find?_some ha
    have hK : K < N := by simpa using List.mem_of_find?_eq_some ha
    refine forO_retAt (fun _ => s) rfl K hK (fun j hj => ?_) (by rw [h K hK, hp]; rfl)
    rw [h j (by omega)]
    have : p j = false := by
      rw [List.find?_range_eq_some] at ha
      simpa using ha.2.2 j hj
    rw [this]; rfl
end
section
variable {S : Type} {f : Nat → S → Option (Res S Empty)} {N : Nat}
theorem lpO_st (st : Nat → S) {s0 : S} (h0 : s0 = st 0) (h : ∀ k, k < N → f k (st k) = some (.next (st (k + 1)))) : lpO f N s0 = some (st N) := by
  unfold lpO; rw [forO_st st h0 h]; rfl
/-- A state that each round turns by g. -/
def fold {S : Type} (g : Nat → S → S) (s0 : S) : Nat → S
  | 0 => s0
  | n + 1 => g n (fold g s0 n)
theorem lpO_fold (g : Nat → S → S) {s0 : S} (h : ∀ k, k < N → f k (fold g s0 k) = some (.next (g k (fold g s0 k)))) : lpO f N s0 = some (fold g s0 N) :=
  lpO_st (fold g s0) rfl h
end
section
variable {α : Type} {f : Nat → List α → Option (Res (List α) Empty)} {N : Nat}
theorem lpO_app (F : Nat → α) {xs : List α} (h : ∀ k s, k < N → s.length = xs.length + k → f k s = some (.next (s ++ [F k]))) : lpO f N xs = some (xs ++ (List.range N).map F) :=
  lpO_st (fun k => xs ++ (List.range k).map F) (by simp) fun k hk => by
    rw [h k _ hk (by simp)]
    simp [List.range_succ]
theorem lpO_filter (p : Nat → Bool) (F : Nat → α) {xs : List α} (h : ∀ k s, k < N → s.length ≤ xs.length + k → f k s = some (.next (bif p k then s ++ [F k] else s))) : lpO f N xs = some (xs ++ ((List.range N).filter p).map F) :=
  lpO_st (fun k => xs ++ ((List.range k).filter p).map F) (by simp) fun k hk => by
    rw [h k _ hk (by
      have := List.length_filter_le p (List.range k)
      simp at this ⊢; omega)]
    cases hp : p k <;> simp [List.range_succ, List.filter_append, hp]
theorem lpO_cat (F : Nat → List α) {xs : List α} (h : ∀ k s, k < N → s = xs ++ (List.range k).flatMap F → f k s = some (.next (s ++ F k))) : lpO f N xs = some (xs ++ (List.range N).flatMap F) :=
  lpO_st (fun k => xs ++ (List.range k).flatMap F) (by simp) fun k hk => by
    rw [h k _ hk rfl]
    simp [List.range_succ]
end
theorem map_gx {α β : Type} [Rep α] (F : α → β) (xs : List α) : (List.range xs.length).map (fun k => F (gx xs k)) = xs.map F := by
  apply List.ext_getElem
  · simp
  · intro i h1 h2
    simp at h1
    simp [gx, List.getD, h1]
theorem all_gx {α : Type} [Rep α] (F : α → Bool) (xs : List α) : (List.range xs.length).all (fun k => F (gx xs k)) = xs.all F := by
  have := map_gx F xs
  calc (List.range xs.length).all (fun k => F (gx xs k)) = ((List.range xs.length).map (fun k => F (gx xs k))).all id := by simp [List.all_map]
    _ = xs.all F := by rw [this]; simp [List.all_map]
theorem gx_lt {α : Type} [Rep α] {xs : List α} {k : Nat} (h : k < xs.length) : gx xs k = xs[k] := by simp [gx, List.getD, h]
theorem gx_mem {α : Type} [Rep α] {xs : List α} {k : Nat} (h : k < xs.length) : gx xs k ∈ xs := by rw [gx_lt h]; exact List.getElem_mem h
theorem wr_of {n : Int} (h1 : -4611686018427387904 ≤ n) (h2 : n ≤ 4611686018427387904) : wr n = n := wr_id (by omega) (by omega)

/-- What is small enough for all bounds. -/
class Sm (α : Type) where
  ok : α → Prop
instance : Sm Int := ⟨fun _ => True⟩
instance : Sm Bool := ⟨fun _ => True⟩
instance : Sm Str := ⟨fun s => s.b.length ≤ 1048576⟩
instance (α : Type) [Sm α] : Sm (List α) := ⟨fun xs => xs.length ≤ 1048576 ∧ ∀ x ∈ xs, Sm.ok x⟩
theorem sm_len {α : Type} [Sm α] {xs : List α} (h : Sm.ok xs) : xs.length ≤ 1048576 := h.1
theorem sm_gx {α : Type} [Sm α] [Rep α] {xs : List α} (h : Sm.ok xs) {k : Nat} (hk : k < xs.length) : Sm.ok (gx xs k) := h.2 _ (gx_mem hk)
theorem sm_ints {xs : List Int} (h : xs.length ≤ 1048576) : Sm.ok xs := ⟨h, fun _ _ => trivial⟩

theorem gx_set_ne {α : Type} [Rep α] {xs : List α} {k j : Nat} {e : α} (h : j ≠ k) : gx (xs.set k e) j = gx xs j := by
  simp [gx, List.getD, List.getElem?_set_ne (Ne.symm h)]
theorem gx_ext {α : Type} [Rep α] {xs ys : List α} (hl : xs.length = ys.length) (h : ∀ k, k < xs.length → gx xs k = gx ys k) : xs = ys := by
  apply List.ext_getElem hl
  intro i h1 h2
  have := h i h1
  rwa [gx_lt h1, gx_lt h2] at this

theorem to_list {α : Type} [Rep α] {f : Nat → List α → Option (Res (List α) Empty)} (a : List α) (z : α) (h : ∀ k s, k < a.length → s.length = a.length → f k s = some (.next (s.set k (gx a k)))) : lpO f a.length (List.replicate a.length z) = some a := by
  have := lpO_st (f := f) (N := a.length) (fun k => a.take k ++ List.replicate (a.length - k) z) (s0 := List.replicate a.length z) (by simp) fun k hk => by
    rw [h k _ hk (by simp; omega)]
    congr 2
    apply List.ext_getElem
    · simp; omega
    · intro i h1 h2
      rw [List.getElem_set]
      split
      · rename_i e; subst e
        rw [gx_lt hk, List.getElem_append_left (by simp; omega)]
        simp
      · rename_i hne
        rcases Nat.lt_or_ge i k with hi | hi
        · rw [List.getElem_append_left (by simp; omega), List.getElem_append_left (by simp; omega)]; simp
        · rw [List.getElem_append_right (by simp; omega), List.getElem_append_right (by simp; omega)]; simp
  simpa using this
theorem all_next {C : Type} {f : Nat → Unit → Option (Res Unit C)} {N : Nat} (h : ∀ k, k < N → f k () = some (.next ())) : forO f N 0 () = some (.inl ()) := forO_st (fun _ => ()) rfl h

theorem mark_list {α : Type} [Rep α] {f : Nat → List α × Int → Option (Res (List α × Int) Empty)} (a : List α) (j0 B M : Int) (R : α → Int → Int → Prop) (hB : 0 ≤ B) (hM : j0 + B * a.length ≤ M)
    (h : ∀ k s j, k < a.length → s.length = a.length → gx s k = gx a k → j0 ≤ j → j + B ≤ M → ∃ e j', f k (s, j) = some (.next (s.set k e, j')) ∧ j ≤ j' ∧ j' ≤ j + B ∧ R e j j') :
    ∃ (a' : List α) (js : Nat → Int), lpO f a.length (a, j0) = some (a', js a.length) ∧ a'.length = a.length ∧ js 0 = j0 ∧ j0 ≤ js a.length ∧ js a.length ≤ j0 + B * a.length ∧ ∀ k, k < a.length → R (gx a' k) (js k) (js (k + 1)) ∧ j0 ≤ js k := by
  have key : ∀ m k (s : List α) (j : Int), k + m = a.length → s.length = a.length → (∀ i, k ≤ i → i < a.length → gx s i = gx a i) → j0 ≤ j → j ≤ j0 + B * k →
      ∃ (a' : List α) (js : Nat → Int), forO f m k (s, j) = some (.inl (a', js a.length)) ∧ a'.length = a.length ∧ js k = j ∧ j ≤ js a.length ∧ js a.length ≤ j0 + B * a.length ∧ (∀ i, i < k → gx a' i = gx s i) ∧ ∀ i, k ≤ i → i < a.length → R (gx a' i) (js i) (js (i + 1)) ∧ j ≤ js i := by
    intro m
    induction m with
    | zero =>
      intro k s j hk hl _ h0 h1
      have e : k = a.length := by omega
      subst e
      exact ⟨s, fun _ => j, rfl, hl, rfl, Int.le_refl _, h1, fun _ _ => rfl, fun i h1 h2 => by omega⟩
    | succ m ih =>
      intro k s j hk hl hs h0 h1
      have hle : B * (k : Int) + B ≤ B * a.length := by
        have : (k : Int) + 1 ≤ a.length := by omega
        have := Int.mul_le_mul_of_nonneg_left this hB
        rw [Int.mul_add, Int.mul_one] at this
        exact this
      obtain ⟨e, j', hf, g1, g2, hR⟩ := h k s j (by omega) hl (hs k (Nat.le_refl _) (by omega)) h0 (by omega)
      obtain ⟨a', js, i1, i2, i3, i3', i4, i5, i6⟩ := ih (k + 1) (s.set k e) j' (by omega) (by simpa using hl) (fun i h1 h2 => by rw [gx_set_ne (by omega)]; exact hs i (by omega) h2) (by omega) (by
        have e1 : B * ((k + 1 : Nat) : Int) = B * k + B := by rw [Int.natCast_add, Int.mul_add]; simp
        rw [e1]; omega)
      refine ⟨a', fun i => if i = k then j else js i, ?_, i2, by simp, ?_, ?_, fun i hi => ?_, fun i h1 h2 => ?_⟩
      · rw [forO, hf]
        have hne : a.length ≠ k := by omega
        simp only [Option.bind_some, hne, if_false]
        exact i1
      · have hne : a.length ≠ k := by omega
        simp only [hne, if_false]
        omega
      · have hne : a.length ≠ k := by omega
        simp only [hne, if_false]
        exact i4
      · rw [i5 i (by omega), gx_set_ne (by omega)]
      · rcases Nat.eq_or_lt_of_le h1 with e1 | e1
        · subst e1
          have hne : k + 1 ≠ k := by omega
          simp only [if_true, hne, if_false]
          rw [i3, i5 k (by omega), gx_set (by omega)]
          exact ⟨hR, Int.le_refl _⟩
        · have n1 : i ≠ k := by omega
          have n2 : i + 1 ≠ k := by omega
          simp only [n1, n2, if_false]
          obtain ⟨q1, q2⟩ := i6 i (by omega) h2
          exact ⟨q1, by omega⟩
  obtain ⟨a', js, i1, i2, i3, i3', i4, _, i6⟩ := key a.length 0 a j0 (by omega) rfl (fun _ _ _ => rfl) (Int.le_refl _) (by simp)
  refine ⟨a', js, ?_, i2, i3, i3', i4, fun k hk => i6 k (Nat.zero_le _) hk⟩
  unfold lpO
  rw [i1]; rfl
theorem held_list {C : Type} {f : Nat → Int → Option (Res Int C)} {N : Nat} (js : Nat → Int) {j0 : Int} (h0 : js 0 = j0) (h : ∀ k, k < N → f k (js k) = some (.next (js (k + 1)))) : forO f N 0 j0 = some (.inl (js N)) := forO_st js h0.symm h
/-- Sizes: each round takes off what an element has, or ends. -/
theorem size_list {f : Nat → Int → Option (Res Int Int)} {N : Nat} (P : Nat → Prop) (l : Int) (h : ∀ k j, k < N → 0 ≤ j → j ≤ l → (f k j = some (.ret (-1))) ∨ ∃ j', f k j = some (.next j') ∧ 0 ≤ j' ∧ j' ≤ j ∧ P k) (hl : 0 ≤ l) :
    forO f N 0 l = some (.inr (-1)) ∨ ∃ j, forO f N 0 l = some (.inl j) ∧ 0 ≤ j ∧ j ≤ l ∧ ∀ k, k < N → P k := by
  have key : ∀ m k j, k + m = N → 0 ≤ j → j ≤ l → (∀ i, i < k → P i) → forO f m k j = some (.inr (-1)) ∨ ∃ j', forO f m k j = some (.inl j') ∧ 0 ≤ j' ∧ j' ≤ l ∧ ∀ i, i < N → P i := by
    intro m
    induction m with
    | zero => intro k j hk h0 h1 hP; exact .inr ⟨j, rfl, h0, h1, fun i hi => hP i (by omega)⟩
    | succ m ih =>
      intro k j hk h0 h1 hP
      rcases h k j (by omega) h0 h1 with hr | ⟨j', hr, g1, g2, g3⟩
      · left; rw [forO, hr]; rfl
      · rw [forO, hr]
        exact ih (k + 1) j' (by omega) g1 (by omega) (fun i hi => by
          rcases Nat.lt_or_ge i k with h | h
          · exact hP i h
          · have : i = k := by omega
            subst this; exact g3)
  exact key N 0 l (by omega) hl (Int.le_refl _) (fun i hi => by omega)
theorem all_of_gx {α : Type} [Rep α] {xs : List α} {P : α → Prop} (h : ∀ k, k < xs.length → P (gx xs k)) : ∀ x ∈ xs, P x := fun x hx => by
  obtain ⟨i, hi, rfl⟩ := List.getElem_of_mem hx
  have := h i hi
  rwa [gx_lt hi] at this

-- type GCell
instance : Sm GCell := ⟨fun _ => True⟩

@[simp] theorem to_Cell (a : GCell) : laws_toCell a = some a := by cases a; rfl

@[simp] theorem eq_Cell (a : GCell) : laws_eqCell a a = some true := by simp [laws_eqCell]

theorem to_CellS (a : List GCell) (hs : Sm.ok a) : laws_toCellS a = some a := by
  have hl := sm_len hs
  unfold laws_toCellS
  rw [gd_pos (by omega), gd_pos (by omega), to_list (f := laws_toCellS_L1 a) a _ (fun k s hk hl' => by
    simp only [laws_toCellS_L1, to_Cell, Option.bind_some]
    rw [gd_pos (by omega)])]
  rfl

theorem eq_CellS (a : List GCell) (hs : Sm.ok a) : laws_eqCellS a a = some true := by
  have hl := sm_len hs
  unfold laws_eqCellS
  simp only [bne_self_eq_false, cond_false]
  rw [gd_pos (by omega), all_next (f := laws_eqCellS_L1 a a) (fun k hk => by
    simp only [laws_eqCellS_L1, eq_Cell (gx a k), Option.bind_some]
    rw [gd_pos hk]; rfl)]
  rfl

theorem sz_CellS (a : List GCell) (l : Int) (h0 : 0 ≤ l) (h1 : l ≤ 1048576) (hf : a.length ≤ maxLen) : ∃ r, laws_szCellS a l = some r ∧ (r < 0 ∨ (Sm.ok a ∧ 0 ≤ r ∧ r ≤ l)) := by
  unfold maxLen at hf
  have e : wr (l - (a.length : Int)) = l - (a.length : Int) := wr_id (by omega) (by omega)
  unfold laws_szCellS
  rw [e]
  by_cases h : l - (a.length : Int) < 0
  · exact ⟨-1, by simp [h], .inl (by omega)⟩
  · exact ⟨l - (a.length : Int), by simp [h], .inr ⟨⟨by omega, fun _ _ => trivial⟩, by omega, by omega⟩⟩

theorem mk_CellS (a : List GCell) (j : Int) (hs : Sm.ok a) (h0 : 0 ≤ j) (h1 : j ≤ 1152921504606846976) : ∃ a' j', laws_markCellS a j = some (j', a') ∧ a'.length = a.length ∧ j ≤ j' ∧ j' ≤ j + 3145728 := by
  have hl := sm_len hs
  have hst : ∀ k s i, k < a.length → s.length = a.length → gx s k = gx a k → j ≤ i → i + 3 ≤ j + 3145728 → ∃ e j', laws_markCellS_L1 k (s, i) = some (.next (s.set k e, j')) ∧ i ≤ j' ∧ j' ≤ i + 3 ∧ (fun _ _ _ => True) e i j' := fun k s i hk hl' hg g0 g1 => by
    have e0 : wr (i + 1) = i + 1 := wr_of (by omega) (by omega)
    have e1 : wr (i + 1 + 1) = i + 1 + 1 := wr_of (by omega) (by omega)
    have e2 : wr (i + 1 + 1 + 1) = i + 1 + 1 + 1 := wr_of (by omega) (by omega)
    exact ⟨(GCell.mk (i) (i + 1) (i + 1 + 1)), i + 1 + 1 + 1, by simp only [laws_markCellS_L1, hg, e0, e1, e2, Option.bind_some], by omega, by omega, trivial⟩
  obtain ⟨a', js, q1, q2, q3, q4, q5, q6⟩ := mark_list (f := laws_markCellS_L1) a j 3 (j + 3145728) (fun _ _ _ => True) (by decide) (by omega) hst
  refine ⟨a', js a.length, ?_, q2, q4, by omega⟩
  unfold laws_markCellS; rw [gd_pos (by omega), q1]; rfl

-- type GBlock
instance : Sm GBlock := ⟨fun x => Sm.ok x.Cells⟩

theorem to_Block (a : GBlock) (hs : Sm.ok a) : laws_toBlock a = some a := by simp only [laws_toBlock, to_CellS a.Cells hs, Option.bind_some]

theorem eq_Block (a : GBlock) (hs : Sm.ok a) : laws_eqBlock a a = some true := by simp only [laws_eqBlock, bne_self_eq_false, cond_false, Option.bind_some, Bool.not_true, eq_CellS a.Cells hs]

theorem sz_Block (a : GBlock) (l : Int) (h0 : 0 ≤ l) (h1 : l ≤ 1048576) (hf : Fit.ok a) : ∃ r, laws_szBlock a l = some r ∧ (r < 0 ∨ (Sm.ok a ∧ 0 ≤ r ∧ r ≤ l)) := by
  obtain ⟨f0, f1⟩ := hf
  unfold laws_szBlock
  obtain ⟨r0, hr0, hc0⟩ := sz_CellS a.Cells l (by omega) (by omega) f1.1
  rcases hc0 with hc0 | ⟨s0, u0, w0⟩
  · exact ⟨-1, by simp [hr0, hc0], .inl (by omega)⟩
  have p0 : ¬ r0 < 0 := by omega
  exact ⟨r0, by simp [hr0, p0], .inr ⟨s0, by omega, by omega⟩⟩

-- type GMember
instance : Sm GMember := ⟨fun _ => True⟩

@[simp] theorem to_Member (a : GMember) : laws_toMember a = some a := by cases a; rfl

@[simp] theorem eq_Member (a : GMember) : laws_eqMember a a = some true := by simp [laws_eqMember]

theorem to_MemberS (a : List GMember) (hs : Sm.ok a) : laws_toMemberS a = some a := by
  have hl := sm_len hs
  unfold laws_toMemberS
  rw [gd_pos (by omega), gd_pos (by omega), to_list (f := laws_toMemberS_L1 a) a _ (fun k s hk hl' => by
    simp only [laws_toMemberS_L1, to_Member, Option.bind_some]
    rw [gd_pos (by omega)])]
  rfl

theorem eq_MemberS (a : List GMember) (hs : Sm.ok a) : laws_eqMemberS a a = some true := by
  have hl := sm_len hs
  unfold laws_eqMemberS
  simp only [bne_self_eq_false, cond_false]
  rw [gd_pos (by omega), all_next (f := laws_eqMemberS_L1 a a) (fun k hk => by
    simp only [laws_eqMemberS_L1, eq_Member (gx a k), Option.bind_some]
    rw [gd_pos hk]; rfl)]
  rfl

theorem sz_MemberS (a : List GMember) (l : Int) (h0 : 0 ≤ l) (h1 : l ≤ 1048576) (hf : a.length ≤ maxLen) : ∃ r, laws_szMemberS a l = some r ∧ (r < 0 ∨ (Sm.ok a ∧ 0 ≤ r ∧ r ≤ l)) := by
  unfold maxLen at hf
  have e : wr (l - (a.length : Int)) = l - (a.length : Int) := wr_id (by omega) (by omega)
  unfold laws_szMemberS
  rw [e]
  by_cases h : l - (a.length : Int) < 0
  · exact ⟨-1, by simp [h], .inl (by omega)⟩
  · exact ⟨l - (a.length : Int), by simp [h], .inr ⟨⟨by omega, fun _ _ => trivial⟩, by omega, by omega⟩⟩

theorem mk_MemberS (a : List GMember) (j : Int) (hs : Sm.ok a) (h0 : 0 ≤ j) (h1 : j ≤ 1152921504606846976) : ∃ a' j', laws_markMemberS a j = some (j', a') ∧ a'.length = a.length ∧ j ≤ j' ∧ j' ≤ j + 3145728 := by
  have hl := sm_len hs
  have hst : ∀ k s i, k < a.length → s.length = a.length → gx s k = gx a k → j ≤ i → i + 3 ≤ j + 3145728 → ∃ e j', laws_markMemberS_L1 k (s, i) = some (.next (s.set k e, j')) ∧ i ≤ j' ∧ j' ≤ i + 3 ∧ (fun _ _ _ => True) e i j' := fun k s i hk hl' hg g0 g1 => by
    have e0 : wr (i + 1) = i + 1 := wr_of (by omega) (by omega)
    have e1 : wr (i + 1 + 1) = i + 1 + 1 := wr_of (by omega) (by omega)
    have e2 : wr (i + 1 + 1 + 1) = i + 1 + 1 + 1 := wr_of (by omega) (by omega)
    exact ⟨(GMember.mk (i) (i + 1) (i + 1 + 1)), i + 1 + 1 + 1, by simp only [laws_markMemberS_L1, hg, e0, e1, e2, Option.bind_some], by omega, by omega, trivial⟩
  obtain ⟨a', js, q1, q2, q3, q4, q5, q6⟩ := mark_list (f := laws_markMemberS_L1) a j 3 (j + 3145728) (fun _ _ _ => True) (by decide) (by omega) hst
  refine ⟨a', js a.length, ?_, q2, q4, by omega⟩
  unfold laws_markMemberS; rw [gd_pos (by omega), q1]; rfl

theorem to_IntS (a : List Int) (hs : Sm.ok a) : laws_toIntS a = some a := by
  have hl := sm_len hs
  unfold laws_toIntS
  rw [gd_pos (by omega), gd_pos (by omega), to_list (f := laws_toIntS_L1 a) a _ (fun k s hk hl' => by
    simp only [laws_toIntS_L1, Option.bind_some]
    rw [gd_pos (by omega)])]
  rfl

theorem eq_IntS (a : List Int) (hs : Sm.ok a) : laws_eqIntS a a = some true := by
  have hl := sm_len hs
  unfold laws_eqIntS
  simp only [bne_self_eq_false, cond_false]
  rw [gd_pos (by omega), all_next (f := laws_eqIntS_L1 a a) (fun k hk => by
    simp [laws_eqIntS_L1, hk, gd])]
  rfl

theorem sz_IntS (a : List Int) (l : Int) (h0 : 0 ≤ l) (h1 : l ≤ 1048576) (hf : a.length ≤ maxLen) : ∃ r, laws_szIntS a l = some r ∧ (r < 0 ∨ (Sm.ok a ∧ 0 ≤ r ∧ r ≤ l)) := by
  unfold maxLen at hf
  have e : wr (l - (a.length : Int)) = l - (a.length : Int) := wr_id (by omega) (by omega)
  unfold laws_szIntS
  rw [e]
  by_cases h : l - (a.length : Int) < 0
  · exact ⟨-1, by simp [h], .inl (by omega)⟩
  · exact ⟨l - (a.length : Int), by simp [h], .inr ⟨⟨by omega, fun _ _ => trivial⟩, by omega, by omega⟩⟩

theorem mk_IntS (a : List Int) (j : Int) (hs : Sm.ok a) (h0 : 0 ≤ j) (h1 : j ≤ 1152921504606846976) : ∃ a' j', laws_markIntS a j = some (j', a') ∧ a'.length = a.length ∧ j ≤ j' ∧ j' ≤ j + 1048576 := by
  have hl := sm_len hs
  have hst : ∀ k s i, k < a.length → s.length = a.length → gx s k = gx a k → j ≤ i → i + 1 ≤ j + 1048576 → ∃ e j', laws_markIntS_L1 k (s, i) = some (.next (s.set k e, j')) ∧ i ≤ j' ∧ j' ≤ i + 1 ∧ (fun _ _ _ => True) e i j' := fun k s i hk hl' hg g0 g1 => by
    have e0 : wr (i + 1) = i + 1 := wr_of (by omega) (by omega)
    exact ⟨i, i + 1, by simp only [laws_markIntS_L1, hg, e0, Option.bind_some], by omega, by omega, trivial⟩
  obtain ⟨a', js, q1, q2, q3, q4, q5, q6⟩ := mark_list (f := laws_markIntS_L1) a j 1 (j + 1048576) (fun _ _ _ => True) (by decide) (by omega) hst
  refine ⟨a', js a.length, ?_, q2, q4, by omega⟩
  unfold laws_markIntS; rw [gd_pos (by omega), q1]; rfl

-- type GEntry
instance : Sm GEntry := ⟨fun x => Sm.ok x.Block⟩

theorem to_Entry (a : GEntry) (hs : Sm.ok a) : laws_toEntry a = some a := by simp only [laws_toEntry, to_Block a.Block hs, Option.bind_some]

theorem eq_Entry (a : GEntry) (hs : Sm.ok a) : laws_eqEntry a a = some true := by simp only [laws_eqEntry, bne_self_eq_false, cond_false, Option.bind_some, Bool.not_true, eq_Block a.Block hs]

theorem sz_Entry (a : GEntry) (l : Int) (h0 : 0 ≤ l) (h1 : l ≤ 1048576) (hf : Fit.ok a) : ∃ r, laws_szEntry a l = some r ∧ (r < 0 ∨ (Sm.ok a ∧ 0 ≤ r ∧ r ≤ l)) := by
  obtain ⟨f0, f1, f2⟩ := hf
  unfold laws_szEntry
  obtain ⟨r0, hr0, hc0⟩ := sz_Block a.Block l (by omega) (by omega) f2
  rcases hc0 with hc0 | ⟨s0, u0, w0⟩
  · exact ⟨-1, by simp [hr0, hc0], .inl (by omega)⟩
  have p0 : ¬ r0 < 0 := by omega
  exact ⟨r0, by simp [hr0, p0], .inr ⟨s0, by omega, by omega⟩⟩

theorem to_EntryS (a : List GEntry) (hs : Sm.ok a) : laws_toEntryS a = some a := by
  have hl := sm_len hs
  unfold laws_toEntryS
  rw [gd_pos (by omega), gd_pos (by omega), to_list (f := laws_toEntryS_L1 a) a _ (fun k s hk hl' => by
    simp only [laws_toEntryS_L1, to_Entry (gx a k) (sm_gx hs hk), Option.bind_some]
    rw [gd_pos (by omega)])]
  rfl

theorem eq_EntryS (a : List GEntry) (hs : Sm.ok a) : laws_eqEntryS a a = some true := by
  have hl := sm_len hs
  unfold laws_eqEntryS
  simp only [bne_self_eq_false, cond_false]
  rw [gd_pos (by omega), all_next (f := laws_eqEntryS_L1 a a) (fun k hk => by
    simp only [laws_eqEntryS_L1, eq_Entry (gx a k) (sm_gx hs hk), Option.bind_some]
    rw [gd_pos hk]; rfl)]
  rfl

theorem sz_EntryS (a : List GEntry) (l : Int) (h0 : 0 ≤ l) (h1 : l ≤ 1048576) (hf : Fit.ok a) : ∃ r, laws_szEntryS a l = some r ∧ (r < 0 ∨ (Sm.ok a ∧ 0 ≤ r ∧ r ≤ l)) := by
  have hf1 := hf.1
  unfold maxLen at hf1
  have e : wr (l - (a.length : Int)) = l - (a.length : Int) := wr_id (by omega) (by omega)
  unfold laws_szEntryS
  rw [e]
  by_cases h : l - (a.length : Int) < 0
  · exact ⟨-1, by simp [h], .inl (by omega)⟩
  · simp only [h, decide_false, cond_false]
    rw [gd_pos (by omega)]
    rcases size_list (f := laws_szEntryS_L1 a) (N := a.length) (fun k => Sm.ok (gx a k)) (l - (a.length : Int)) (fun k j hk g0 g1 => by
      obtain ⟨r, hr, hc⟩ := sz_Entry (gx a k) j g0 (by omega) (hf.2 _ (gx_mem hk))
      simp only [laws_szEntryS_L1, hr, Option.bind_some]
      rcases hc with hc | ⟨c1, c2, c3⟩
      · left; simp [hc]
      · right
        have : ¬ r < 0 := by omega
        exact ⟨r, by simp [this], c2, c3, c1⟩) (by omega) with hr | ⟨j, hr, g0, g1, g2⟩
    · exact ⟨-1, by rw [hr]; rfl, .inl (by omega)⟩
    · exact ⟨j, by rw [hr]; rfl, .inr ⟨⟨by omega, all_of_gx g2⟩, g0, by omega⟩⟩

theorem mk_EntryS (a : List GEntry) (j : Int) (hs : Sm.ok a) (h0 : 0 ≤ j) (h1 : j ≤ 576460752303423488) : ∃ a' j', laws_markEntryS a j = some (j', a') ∧ a'.length = a.length ∧ j ≤ j' ∧ j' ≤ j + 3298538029056 := by
  have hl := sm_len hs
  have hst : ∀ k s i, k < a.length → s.length = a.length → gx s k = gx a k → j ≤ i → i + 3145731 ≤ j + 3298538029056 → ∃ e j', laws_markEntryS_L1 k (s, i) = some (.next (s.set k e, j')) ∧ i ≤ j' ∧ j' ≤ i + 3145731 ∧ (fun _ _ _ => True) e i j' := fun k s i hk hl' hg g0 g1 => by
    have e0 : wr (i + 1) = i + 1 := wr_of (by omega) (by omega)
    have e1 : wr (i + 1 + 1) = i + 1 + 1 := wr_of (by omega) (by omega)
    have e2 : wr (i + 1 + 1 + 1) = i + 1 + 1 + 1 := wr_of (by omega) (by omega)
    obtain ⟨b0, c0, m0, l0, lo0, hi0⟩ := mk_CellS ((gx a k).Block.Cells) (i + 1 + 1 + 1) (sm_gx hs hk) (by omega) (by omega)
    exact ⟨(GEntry.mk (i) (i + 1) (GBlock.mk (i + 1 + 1) (b0))), c0, by simp only [laws_markEntryS_L1, hg, e0, e1, e2, m0, Option.bind_some], by omega, by omega, trivial⟩
  obtain ⟨a', js, q1, q2, q3, q4, q5, q6⟩ := mark_list (f := laws_markEntryS_L1) a j 3145731 (j + 3298538029056) (fun _ _ _ => True) (by decide) (by omega) hst
  refine ⟨a', js a.length, ?_, q2, q4, by omega⟩
  unfold laws_markEntryS; rw [gd_pos (by omega), q1]; rfl

-- type GBooking
instance : Sm GBooking := ⟨fun _ => True⟩

@[simp] theorem to_Booking (a : GBooking) : laws_toBooking a = some a := by cases a; rfl

@[simp] theorem eq_Booking (a : GBooking) : laws_eqBooking a a = some true := by simp [laws_eqBooking]

theorem to_BookingS (a : List GBooking) (hs : Sm.ok a) : laws_toBookingS a = some a := by
  have hl := sm_len hs
  unfold laws_toBookingS
  rw [gd_pos (by omega), gd_pos (by omega), to_list (f := laws_toBookingS_L1 a) a _ (fun k s hk hl' => by
    simp only [laws_toBookingS_L1, to_Booking, Option.bind_some]
    rw [gd_pos (by omega)])]
  rfl

theorem eq_BookingS (a : List GBooking) (hs : Sm.ok a) : laws_eqBookingS a a = some true := by
  have hl := sm_len hs
  unfold laws_eqBookingS
  simp only [bne_self_eq_false, cond_false]
  rw [gd_pos (by omega), all_next (f := laws_eqBookingS_L1 a a) (fun k hk => by
    simp only [laws_eqBookingS_L1, eq_Booking (gx a k), Option.bind_some]
    rw [gd_pos hk]; rfl)]
  rfl

theorem sz_BookingS (a : List GBooking) (l : Int) (h0 : 0 ≤ l) (h1 : l ≤ 1048576) (hf : a.length ≤ maxLen) : ∃ r, laws_szBookingS a l = some r ∧ (r < 0 ∨ (Sm.ok a ∧ 0 ≤ r ∧ r ≤ l)) := by
  unfold maxLen at hf
  have e : wr (l - (a.length : Int)) = l - (a.length : Int) := wr_id (by omega) (by omega)
  unfold laws_szBookingS
  rw [e]
  by_cases h : l - (a.length : Int) < 0
  · exact ⟨-1, by simp [h], .inl (by omega)⟩
  · exact ⟨l - (a.length : Int), by simp [h], .inr ⟨⟨by omega, fun _ _ => trivial⟩, by omega, by omega⟩⟩

theorem mk_BookingS (a : List GBooking) (j : Int) (hs : Sm.ok a) (h0 : 0 ≤ j) (h1 : j ≤ 1152921504606846976) : ∃ a' j', laws_markBookingS a j = some (j', a') ∧ a'.length = a.length ∧ j ≤ j' ∧ j' ≤ j + 4194304 := by
  have hl := sm_len hs
  have hst : ∀ k s i, k < a.length → s.length = a.length → gx s k = gx a k → j ≤ i → i + 4 ≤ j + 4194304 → ∃ e j', laws_markBookingS_L1 k (s, i) = some (.next (s.set k e, j')) ∧ i ≤ j' ∧ j' ≤ i + 4 ∧ (fun _ _ _ => True) e i j' := fun k s i hk hl' hg g0 g1 => by
    have e0 : wr (i + 1) = i + 1 := wr_of (by omega) (by omega)
    have e1 : wr (i + 1 + 1) = i + 1 + 1 := wr_of (by omega) (by omega)
    have e2 : wr (i + 1 + 1 + 1) = i + 1 + 1 + 1 := wr_of (by omega) (by omega)
    have e3 : wr (i + 1 + 1 + 1 + 1) = i + 1 + 1 + 1 + 1 := wr_of (by omega) (by omega)
    exact ⟨(GBooking.mk (i) (i + 1) (i + 1 + 1) (i + 1 + 1 + 1)), i + 1 + 1 + 1 + 1, by simp only [laws_markBookingS_L1, hg, e0, e1, e2, e3, Option.bind_some], by omega, by omega, trivial⟩
  obtain ⟨a', js, q1, q2, q3, q4, q5, q6⟩ := mark_list (f := laws_markBookingS_L1) a j 4 (j + 4194304) (fun _ _ _ => True) (by decide) (by omega) hst
  refine ⟨a', js a.length, ?_, q2, q4, by omega⟩
  unfold laws_markBookingS; rw [gd_pos (by omega), q1]; rfl

-- type GGuild
instance : Sm GGuild := ⟨fun x => Sm.ok x.Members ∧ Sm.ok x.Stock ∧ Sm.ok x.Entries ∧ Sm.ok x.Books⟩

theorem to_Guild (a : GGuild) (hs : Sm.ok a) : laws_toGuild a = some a := by simp only [laws_toGuild, to_MemberS a.Members hs.1, to_IntS a.Stock hs.2.1, to_EntryS a.Entries hs.2.2.1, to_BookingS a.Books hs.2.2.2, Option.bind_some]

theorem eq_Guild (a : GGuild) (hs : Sm.ok a) : laws_eqGuild a a = some true := by simp only [laws_eqGuild, bne_self_eq_false, cond_false, Option.bind_some, Bool.not_true, eq_MemberS a.Members hs.1, eq_IntS a.Stock hs.2.1, eq_EntryS a.Entries hs.2.2.1, eq_BookingS a.Books hs.2.2.2]

theorem sz_Guild (a : GGuild) (l : Int) (h0 : 0 ≤ l) (h1 : l ≤ 1048576) (hf : Fit.ok a) : ∃ r, laws_szGuild a l = some r ∧ (r < 0 ∨ (Sm.ok a ∧ 0 ≤ r ∧ r ≤ l)) := by
  obtain ⟨f0, f1, f2, f3, f4, f5⟩ := hf
  unfold laws_szGuild
  obtain ⟨r0, hr0, hc0⟩ := sz_MemberS a.Members l (by omega) (by omega) f0.1
  rcases hc0 with hc0 | ⟨s0, u0, w0⟩
  · exact ⟨-1, by simp [hr0, hc0], .inl (by omega)⟩
  have p0 : ¬ r0 < 0 := by omega
  obtain ⟨r1, hr1, hc1⟩ := sz_IntS a.Stock r0 (by omega) (by omega) f1.1
  rcases hc1 with hc1 | ⟨s1, u1, w1⟩
  · exact ⟨-1, by simp [hr1, hc1, hr0, p0], .inl (by omega)⟩
  have p1 : ¬ r1 < 0 := by omega
  obtain ⟨r2, hr2, hc2⟩ := sz_EntryS a.Entries r1 (by omega) (by omega) f2
  rcases hc2 with hc2 | ⟨s2, u2, w2⟩
  · exact ⟨-1, by simp [hr2, hc2, hr0, p0, hr1, p1], .inl (by omega)⟩
  have p2 : ¬ r2 < 0 := by omega
  obtain ⟨r3, hr3, hc3⟩ := sz_BookingS a.Books r2 (by omega) (by omega) f3.1
  rcases hc3 with hc3 | ⟨s3, u3, w3⟩
  · exact ⟨-1, by simp [hr3, hc3, hr0, p0, hr1, p1, hr2, p2], .inl (by omega)⟩
  have p3 : ¬ r3 < 0 := by omega
  exact ⟨r3, by simp [hr0, p0, hr1, p1, hr2, p2, hr3, p3], .inr ⟨⟨s0, s1, s2, s3⟩, by omega, by omega⟩⟩

theorem mk_Guild (a : GGuild) (j : Int) (hs : Sm.ok a) (h0 : 0 ≤ j) (h1 : j ≤ 288230376151711744) : ∃ b0 b1 b2 b3 j', laws_markGuild a j = some (j', b0, b1, b2, b3) ∧ j ≤ j' ∧ j' ≤ j + 3298546417664 := by
  obtain ⟨b0, c0, m0, l0, lo0, hi0⟩ := mk_MemberS a.Members j hs.1 (by omega) (by omega)
  obtain ⟨b1, c1, m1, l1, lo1, hi1⟩ := mk_IntS a.Stock c0 hs.2.1 (by omega) (by omega)
  obtain ⟨b2, c2, m2, l2, lo2, hi2⟩ := mk_EntryS a.Entries c1 hs.2.2.1 (by omega) (by omega)
  obtain ⟨b3, c3, m3, l3, lo3, hi3⟩ := mk_BookingS a.Books c2 hs.2.2.2 (by omega) (by omega)
  exact ⟨b0, b1, b2, b3, c3, by simp only [laws_markGuild, m0, m1, m2, m3, Option.bind_some], by omega, by omega⟩

theorem eq_StringS (a : List Str) (hs : Sm.ok a) : laws_eqStringS a a = some true := by
  have hl := sm_len hs
  unfold laws_eqStringS
  simp only [bne_self_eq_false, cond_false]
  rw [gd_pos (by omega), all_next (f := laws_eqStringS_L1 a a) (fun k hk => by
    simp [laws_eqStringS_L1, hk, seq, gd])]
  rfl

def inR (x a b : Int) : Bool := decide (x ≥ a) && decide (x ≤ b)
theorem inR_iff {x a b : Int} : inR x a b = true ↔ a ≤ x ∧ x ≤ b := by simp [inR]
theorem inR_not {x a b : Int} : inR x a b = false ↔ ¬(a ≤ x ∧ x ≤ b) := by rw [← inR_iff]; simp

@[simp] theorem l01In_eq (x a b : Int) : spec_l01In x a b = some (inR x a b) := rfl

@[simp] theorem within_eq (x a b : Int) : impl_within x a b = some (inR x a b) := rfl

@[simp] theorem isColor_eq (a : Int) : impl_isColor a = some (inR a 0 5) := rfl

def CellOkM (c : GCell) : Bool := inR c.Split 0 2 && inR c.A 0 5 && inR c.B 0 5 && ((c.Split == 0) == (c.A == c.B))

@[simp] theorem spec_CellOk_eq (c : GCell) : spec_CellOk c = some (CellOkM c) := by
  unfold spec_CellOk CellOkM
  simp only [l01In_eq, Option.bind_some]
  cases inR c.Split 0 2 <;> cases inR c.A 0 5 <;> cases inR c.B 0 5 <;> simp

@[simp] theorem impl_CellOk_eq (c : GCell) : impl_CellOk c = some (CellOkM c) := by
  unfold impl_CellOk CellOkM
  simp only [within_eq, isColor_eq, Option.bind_some]
  cases inR c.Split 0 2 <;> cases inR c.A 0 5 <;> cases inR c.B 0 5 <;> simp

theorem cellOk_spec {c : GCell} (h : CellOkM c = true) : 0 ≤ c.Split ∧ c.Split ≤ 2 ∧ 0 ≤ c.A ∧ c.A ≤ 5 ∧ 0 ≤ c.B ∧ c.B ≤ 5 ∧ (c.Split = 0 ↔ c.A = c.B) := by
  simp only [CellOkM, Bool.and_eq_true, inR_iff, beq_iff_eq] at h
  obtain ⟨⟨⟨⟨h1, h2⟩, h3, h4⟩, h5, h6⟩, h7⟩ := h
  refine ⟨h1, h2, h3, h4, h5, h6, ?_⟩
  have e1 : (c.Split == 0) = decide (c.Split = 0) := by cases h : c.Split == 0 <;> simp_all
  have e2 : (c.A == c.B) = decide (c.A = c.B) := by cases h : c.A == c.B <;> simp_all
  rw [e1, e2] at h7
  constructor
  · intro h; simp [h] at h7; exact h7
  · intro h; simp [h] at h7; exact h7
theorem cellOk_of {c : GCell} (h1 : 0 ≤ c.Split) (h2 : c.Split ≤ 2) (h3 : 0 ≤ c.A) (h4 : c.A ≤ 5) (h5 : 0 ≤ c.B) (h6 : c.B ≤ 5) (h7 : c.Split = 0 ↔ c.A = c.B) : CellOkM c = true := by
  have e1 : inR c.Split 0 2 = true := inR_iff.2 ⟨h1, h2⟩
  have e2 : inR c.A 0 5 = true := inR_iff.2 ⟨h3, h4⟩
  have e3 : inR c.B 0 5 = true := inR_iff.2 ⟨h5, h6⟩
  unfold CellOkM
  rw [e1, e2, e3]
  by_cases h : c.Split = 0
  · have := h7.1 h; simp [h, this]
  · have : ¬ c.A = c.B := fun e => h (h7.2 e)
    have q1 : (c.Split == 0) = false := beq_eq_false_iff_ne.2 h
    have q2 : (c.A == c.B) = false := beq_eq_false_iff_ne.2 this
    rw [q1, q2]; rfl

def BlockOkM (b : GBlock) : Bool := inR b.Size 1 4 && ((b.Cells.length : Int) == b.Size * b.Size) && b.Cells.all CellOkM
theorem size_cases {n : Int} (h : inR n 1 4 = true) : n = 1 ∨ n = 2 ∨ n = 3 ∨ n = 4 := by
  rw [inR_iff] at h; omega

@[simp] theorem spec_BlockOk_eq (b : GBlock) : spec_BlockOk b = some (BlockOkM b) := by
  unfold spec_BlockOk BlockOkM
  simp only [l01In_eq, Option.bind_some]
  cases h : inR b.Size 1 4
  · rfl
  · have hw : wr (b.Size * b.Size) = b.Size * b.Size := by rcases size_cases h with e | e | e | e <;> rw [e] <;> decide
    rw [hw]
    cases hl : ((b.Cells.length : Int) == b.Size * b.Size)
    · have : (((b.Cells.length : Nat) : Int) != b.Size * b.Size) = true := by simp [bne, hl]
      simp [this]
    · have hl' : (b.Cells.length : Int) = b.Size * b.Size := by simpa using hl
      have : (((b.Cells.length : Nat) : Int) != b.Size * b.Size) = false := by simp [bne, hl]
      simp only [this, Bool.not_true, cond_false, Option.bind_some]
      rw [gd_pos (by rcases size_cases h with e | e | e | e <;> rw [e] at hl' <;> omega), forO_all (f := spec_BlockOk_L1 b) (fun k => CellOkM (gx b.Cells k)) (fun k hk => by
        simp only [spec_BlockOk_L1, spec_CellOk_eq, Option.bind_some]; cases CellOkM (gx b.Cells k) <;> rfl), all_gx]
      cases b.Cells.all CellOkM <;> rfl

@[simp] theorem impl_BlockOk_eq (b : GBlock) : impl_BlockOk b = some (BlockOkM b) := by
  unfold impl_BlockOk BlockOkM
  simp only [within_eq, Option.bind_some]
  cases h : inR b.Size 1 4
  · rfl
  · have hw : wr (b.Size * b.Size) = b.Size * b.Size := by rcases size_cases h with e | e | e | e <;> rw [e] <;> decide
    rw [hw]
    cases hl : ((b.Cells.length : Int) == b.Size * b.Size)
    · have : (((b.Cells.length : Nat) : Int) != b.Size * b.Size) = true := by simp [bne, hl]
      simp [this]
    · have hl' : (b.Cells.length : Int) = b.Size * b.Size := by simpa using hl
      have : (((b.Cells.length : Nat) : Int) != b.Size * b.Size) = false := by simp [bne, hl]
      simp only [this, Bool.not_true, cond_false, Option.bind_some]
      rw [gd_pos (by rcases size_cases h with e | e | e | e <;> rw [e] at hl' <;> omega), forO_all (f := impl_BlockOk_L1 b) (fun k => CellOkM (gx b.Cells k)) (fun k hk => by
        simp only [impl_BlockOk_L1, impl_CellOk_eq, Option.bind_some]; cases CellOkM (gx b.Cells k) <;> rfl), all_gx]
      cases b.Cells.all CellOkM <;> rfl

/-- A valid block: its side as a number, and its cells. -/
theorem blockOk_spec {b : GBlock} (h : BlockOkM b = true) : ∃ n : Nat, b.Size = n ∧ 1 ≤ n ∧ n ≤ 4 ∧ b.Cells.length = n * n ∧ ∀ c ∈ b.Cells, CellOkM c = true := by
  simp only [BlockOkM, Bool.and_eq_true, beq_iff_eq, List.all_eq_true] at h
  obtain ⟨⟨h1, h2⟩, h3⟩ := h
  rcases size_cases h1 with e | e | e | e <;> rw [e] at h2
  · exact ⟨1, e, by omega, by omega, by omega, h3⟩
  · exact ⟨2, e, by omega, by omega, by omega, h3⟩
  · exact ⟨3, e, by omega, by omega, by omega, h3⟩
  · exact ⟨4, e, by omega, by omega, by omega, h3⟩
theorem blockOk_of {n : Nat} {cs : List GCell} (h1 : 1 ≤ n) (h2 : n ≤ 4) (hl : cs.length = n * n) (hc : ∀ c ∈ cs, CellOkM c = true) : BlockOkM ⟨n, cs⟩ = true := by
  simp only [BlockOkM, Bool.and_eq_true, beq_iff_eq, List.all_eq_true]
  exact ⟨⟨inR_iff.2 ⟨by omega, by omega⟩, by rw [hl]; simp⟩, hc⟩
theorem blockOk_sm {b : GBlock} (h : BlockOkM b = true) : Sm.ok b := by
  obtain ⟨n, _, h1, h2, hl, _⟩ := blockOk_spec h
  have : n * n ≤ 4 * 4 := Nat.mul_le_mul h2 h2
  exact ⟨by omega, fun _ _ => trivial⟩
theorem zero_sm : Sm.ok (⟨0, []⟩ : GBlock) := ⟨by simp, fun _ h => by simp at h⟩

def TurnCellM (c : GCell) : GCell := bif CellOkM c then (bif c.Split == 1 then ⟨2, c.B, c.A⟩ else bif c.Split == 2 then ⟨1, c.A, c.B⟩ else c) else ⟨0, 0, 0⟩
theorem turnCell_ok {c : GCell} (h : CellOkM c = true) : CellOkM (TurnCellM c) = true := by
  obtain ⟨h1, h2, h3, h4, h5, h6, h7⟩ := cellOk_spec h
  unfold TurnCellM
  rw [h]
  by_cases e1 : c.Split = 1
  · simp only [e1, beq_self_eq_true, cond_true]
    exact cellOk_of (show (0 : Int) ≤ 2 by decide) (show (2 : Int) ≤ 2 by decide) h5 h6 h3 h4 ⟨fun h => by simp at h, fun h => by have := h7.2 h.symm; omega⟩
  · by_cases e2 : c.Split = 2
    · have : (c.Split == 1) = false := by simp [e1]
      simp only [e2, cond_true, cond_false, beq_self_eq_true, show ((2 : Int) == 1) = false from rfl]
      exact cellOk_of (show (0 : Int) ≤ 1 by decide) (show (1 : Int) ≤ 2 by decide) h3 h4 h5 h6 ⟨fun h => by simp at h, fun h => by have := h7.2 h; omega⟩
    · rw [beq_eq_false_iff_ne.2 e1, beq_eq_false_iff_ne.2 e2]; exact h

def MirrorCellM (c : GCell) : GCell := bif CellOkM c then (bif c.Split == 0 then c else ⟨3 - c.Split, c.B, c.A⟩) else ⟨0, 0, 0⟩
theorem mirrorCell_ok {c : GCell} (h : CellOkM c = true) : CellOkM (MirrorCellM c) = true := by
  obtain ⟨h1, h2, h3, h4, h5, h6, h7⟩ := cellOk_spec h
  unfold MirrorCellM
  rw [h]
  by_cases e0 : c.Split = 0
  · simp [e0, h]
  · have : (c.Split == 0) = false := by simp [e0]
    simp only [this, cond_true, cond_false]
    exact cellOk_of (by simp only; omega) (by simp only; omega) h5 h6 h3 h4 ⟨fun h => by simp only at h; omega, fun h => absurd (h7.2 h.symm) e0⟩

def CellAtM (b : GBlock) (x y : Int) : GCell := bif BlockOkM b && inR x 0 (b.Size - 1) && inR y 0 (b.Size - 1) then gx b.Cells (y * b.Size + x).toNat else ⟨0, 0, 0⟩
theorem idx_lt {n y x : Nat} (hy : y < n) (hx : x < n) : y * n + x < n * n := by
  have := Nat.mul_le_mul_right n (show y + 1 ≤ n from hy)
  rw [Nat.add_mul] at this; omega
theorem idx_lt2 {h w y x : Nat} (hy : y < h) (hx : x < w) : y * w + x < h * w := by
  have := Nat.mul_le_mul_right w (show y + 1 ≤ h from hy)
  rw [Nat.add_mul] at this; omega
theorem cellAtM_nat {b : GBlock} {n x y : Nat} (h : BlockOkM b = true) (hn : b.Size = n) (hx : x < n) (hy : y < n) : CellAtM b x y = gx b.Cells (y * n + x) := by
  have e1 : inR (x : Int) 0 (b.Size - 1) = true := inR_iff.2 ⟨by omega, by omega⟩
  have e2 : inR (y : Int) 0 (b.Size - 1) = true := inR_iff.2 ⟨by omega, by omega⟩
  have e3 : ((y : Int) * b.Size + x).toNat = y * n + x := by
    rw [hn]
    have : ((y : Int) * (n : Int) + (x : Int)) = ((y * n + x : Nat) : Int) := by simp
    rw [this, Int.toNat_natCast]
  simp [CellAtM, h, e1, e2, e3]

theorem impl_isPlace_eq (b : GBlock) (x y : Int) : impl_Block_isPlace b x y = some (BlockOkM b && inR x 0 (b.Size - 1) && inR y 0 (b.Size - 1)) := by
  unfold impl_Block_isPlace
  simp only [impl_BlockOk_eq, within_eq, Option.bind_some]
  cases h : BlockOkM b
  · rfl
  · obtain ⟨n, hn, h1, h2, _⟩ := blockOk_spec h
    rw [wr_of (by omega) (by omega)]
    cases inR x 0 (b.Size - 1) <;> cases inR y 0 (b.Size - 1) <;> rfl

@[simp] theorem impl_CellAt_eq (b : GBlock) (x y : Int) : impl_CellAt b x y = some (CellAtM b x y) := by
  unfold impl_CellAt CellAtM
  simp only [impl_isPlace_eq, Option.bind_some]
  cases h : (BlockOkM b && inR x 0 (b.Size - 1) && inR y 0 (b.Size - 1))
  · rfl
  · simp only [Bool.and_eq_true, inR_iff] at h
    obtain ⟨⟨h0, hx⟩, hy⟩ := h
    obtain ⟨n, hn, h1, h2, hl, _⟩ := blockOk_spec h0
    rw [hn] at hx hy ⊢
    obtain ⟨x', rfl⟩ := Int.eq_ofNat_of_zero_le hx.1
    obtain ⟨y', rfl⟩ := Int.eq_ofNat_of_zero_le hy.1
    have hlt : y' * n + x' < n * n := idx_lt (by omega) (by omega)
    have hnn : n * n ≤ 4 * 4 := Nat.mul_le_mul h2 h2
    have hy' : y' * n ≤ n * n := by omega
    have e : wr (wr ((y' : Int) * (n : Int)) + (x' : Int)) = ((y' * n + x' : Nat) : Int) := by
      have : (y' : Int) * (n : Int) = ((y' * n : Nat) : Int) := by simp
      rw [this, wr_of (n := ((y' * n : Nat) : Int)) (by omega) (by omega), wr_of (by omega) (by omega)]; simp
    have e' : ((y' : Int) * (n : Int) + (x' : Int)) = ((y' * n + x' : Nat) : Int) := by simp
    rw [e, e', gd_pos ⟨by omega, by omega⟩]
    rfl

/-- A sum. -/
def isum : List Int → Int
  | [] => 0
  | x :: r => x + isum r
theorem isum_append : ∀ xs ys : List Int, isum (xs ++ ys) = isum xs + isum ys
  | [], ys => by simp [isum]
  | x :: r, ys => by simp [isum, isum_append r ys]; omega
theorem isum_bound {B : Int} : ∀ {xs : List Int}, (∀ x ∈ xs, 0 ≤ x ∧ x ≤ B) → 0 ≤ isum xs ∧ isum xs ≤ B * xs.length
  | [], _ => by simp [isum]
  | x :: r, h => by
    obtain ⟨h1, h2⟩ := isum_bound (xs := r) fun y hy => h y (by simp [hy])
    obtain ⟨h3, h4⟩ := h x (by simp)
    have e : B * ((x :: r).length : Int) = B * r.length + B := by
      rw [List.length_cons, Int.natCast_add, Int.mul_add]; simp
    rw [e]
    simp only [isum]; omega
theorem lpO_sum {f : Nat → Int → Option (Res Int Empty)} {N : Nat} (g : Nat → Int) {s0 B : Int} (h : ∀ k s, k < N → 0 ≤ s → s + B ≤ 4611686018427387904 → f k s = some (.next (s + g k))) (hg : ∀ k, k < N → 0 ≤ g k ∧ g k ≤ B) (hB : 0 ≤ B) (h0 : 0 ≤ s0) (hN : s0 + B * N ≤ 4611686018427387904) : lpO f N s0 = some (s0 + isum ((List.range N).map g)) :=
  lpO_st (fun k => s0 + isum ((List.range k).map g)) (by simp [isum]) fun k hk => by
    have hb := isum_bound (B := B) (xs := (List.range k).map g) fun x hx => by
      simp only [List.mem_map, List.mem_range] at hx
      obtain ⟨i, hi, rfl⟩ := hx
      exact hg i (by omega)
    have hmul : B * ((k + 1 : Nat) : Int) ≤ B * N := Int.mul_le_mul_of_nonneg_left (by omega) hB
    have hm1 : B * ((k + 1 : Nat) : Int) = B * k + B := by rw [Int.natCast_add, Int.mul_add]; simp
    simp only [List.length_map, List.length_range] at hb
    have e : isum ((List.range (k + 1)).map g) = isum ((List.range k).map g) + g k := by
      rw [List.range_succ, List.map_append, isum_append]; simp [isum]
    rw [h k _ hk (by omega) (by omega), e, Int.add_assoc]

theorem gx_range {α : Type} [Rep α] (F : Nat → α) {m i : Nat} (h : i < m) : gx ((List.range m).map F) i = F i := by
  rw [gx_lt (by simpa using h)]; simp

theorem prev_idx {k N : Nat} (hk : k < N) (hN : N ≤ 4611686018427387904) (h0 : decide ((k : Int) > 0) = true) : wr ((k : Int) - 1) = ((k - 1 : Nat) : Int) ∧ k - 1 < N := by
  have : (k : Int) > 0 := of_decide_eq_true h0
  exact ⟨by rw [wr_of (by omega) (by omega)]; omega, by omega⟩

def memP (xs : List GMember) (k : Nat) : Bool := inR (gx xs k).Number 1 999 && inR (gx xs k).Since 1900 2999 && inR (gx xs k).Paid (wr ((gx xs k).Since - 1)) 2999 && !(decide ((k : Int) > 0) && decide ((gx xs k).Number ≤ (gx xs (k - 1)).Number))
def MembersOkM (xs : List GMember) : Bool := (List.range xs.length).all (memP xs) && decide (((xs.length : Nat) : Int) ≤ 40)
theorem memOk_len {xs : List GMember} (h : MembersOkM xs = true) : xs.length ≤ 40 := by
  simp only [MembersOkM, Bool.and_eq_true, decide_eq_true_eq] at h; omega

theorem spec_MembersOk_eq (xs : List GMember) (hl : xs.length ≤ 4611686018427387904) : spec_MembersOk xs = some (MembersOkM xs) := by
  unfold spec_MembersOk MembersOkM
  rw [gd_pos hl, forO_all (f := spec_MembersOk_L1 xs) (c := false) (memP xs) (fun k hk => by
    simp only [spec_MembersOk_L1, l01In_eq, Option.bind_some, memP]
    cases hd : decide ((k : Int) > 0)
    · cases inR (gx xs k).Number 1 999 <;> cases inR (gx xs k).Since 1900 2999 <;> cases inR (gx xs k).Paid (wr ((gx xs k).Since - 1)) 2999 <;> rfl
    · obtain ⟨e1, e2⟩ := prev_idx hk hl hd
      simp only [e1, Int.toNat_natCast, cond_true]
      rw [gd_pos ⟨by omega, by omega⟩]
      cases inR (gx xs k).Number 1 999 <;> cases inR (gx xs k).Since 1900 2999 <;> cases inR (gx xs k).Paid (wr ((gx xs k).Since - 1)) 2999 <;> cases decide ((gx xs k).Number ≤ (gx xs (k - 1)).Number) <;> rfl)]
  cases (List.range xs.length).all (memP xs) <;> rfl

theorem impl_MembersOk_eq (xs : List GMember) (hl : xs.length ≤ 4611686018427387904) : impl_MembersOk xs = some (MembersOkM xs) := by
  unfold impl_MembersOk MembersOkM
  rw [gd_pos hl, forO_all (f := impl_MembersOk_L1 xs) (c := false) (memP xs) (fun k hk => by
    simp only [impl_MembersOk_L1, within_eq, Option.bind_some, memP]
    cases hd : decide ((k : Int) > 0)
    · cases inR (gx xs k).Number 1 999 <;> cases inR (gx xs k).Since 1900 2999 <;> cases inR (gx xs k).Paid (wr ((gx xs k).Since - 1)) 2999 <;> rfl
    · obtain ⟨e1, e2⟩ := prev_idx hk hl hd
      simp only [e1, Int.toNat_natCast, cond_true]
      rw [gd_pos ⟨by omega, by omega⟩]
      cases inR (gx xs k).Number 1 999 <;> cases inR (gx xs k).Since 1900 2999 <;> cases inR (gx xs k).Paid (wr ((gx xs k).Since - 1)) 2999 <;> cases decide ((gx xs k).Number ≤ (gx xs (k - 1)).Number) <;> rfl)]
  cases (List.range xs.length).all (memP xs) <;> rfl

def StockOkM (xs : List Int) : Bool := xs.all (fun n => inR n 0 1000000) && (((xs.length : Nat) : Int) == 6)
theorem stockOk_len {xs : List Int} (h : StockOkM xs = true) : xs.length = 6 := by
  simp only [StockOkM, Bool.and_eq_true, beq_iff_eq] at h; omega

theorem spec_StockOk_eq (xs : List Int) (hl : xs.length ≤ 4611686018427387904) : spec_StockOk xs = some (StockOkM xs) := by
  unfold spec_StockOk StockOkM
  rw [gd_pos hl, forO_all (f := spec_StockOk_L1 xs) (c := false) (fun k => inR (gx xs k) 0 1000000) (fun k hk => by
    simp only [spec_StockOk_L1, l01In_eq, Option.bind_some]; cases inR (gx xs k) 0 1000000 <;> rfl), all_gx (fun n => inR n 0 1000000)]
  cases xs.all (fun n => inR n 0 1000000) <;> rfl

theorem impl_allWithin_eq (xs : List Int) (a b : Int) (hl : xs.length ≤ 4611686018427387904) : impl_allWithin xs a b = some (xs.all fun n => inR n a b) := by
  unfold impl_allWithin
  rw [gd_pos hl, forO_all (f := impl_allWithin_L1 xs a b) (c := false) (fun k => inR (gx xs k) a b) (fun k hk => by
    simp only [impl_allWithin_L1, within_eq, Option.bind_some]; cases inR (gx xs k) a b <;> rfl), all_gx (fun n => inR n a b)]
  cases xs.all (fun n => inR n a b) <;> rfl

theorem impl_StockOk_eq (xs : List Int) (hl : xs.length ≤ 4611686018427387904) : impl_StockOk xs = some (StockOkM xs) := by
  unfold impl_StockOk StockOkM
  rw [impl_allWithin_eq xs _ _ hl]
  cases (((xs.length : Nat) : Int) == 6) <;> cases xs.all (fun n => inR n 0 1000000) <;> rfl

def ledP (xs : List GBooking) (k : Nat) : Bool := inR (gx xs k).Day 0 9999 && inR (gx xs k).From 0 4 && inR (gx xs k).To 0 4 && !((gx xs k).From == (gx xs k).To) && inR (gx xs k).Sum 1 100000 && !(decide ((k : Int) > 0) && decide ((gx xs k).Day < (gx xs (k - 1)).Day))
def LedgerOkM (xs : List GBooking) : Bool := (List.range xs.length).all (ledP xs) && decide (((xs.length : Nat) : Int) ≤ 60)
theorem ledOk_len {xs : List GBooking} (h : LedgerOkM xs = true) : xs.length ≤ 60 := by
  simp only [LedgerOkM, Bool.and_eq_true, decide_eq_true_eq] at h; omega

theorem spec_LedgerOk_eq (xs : List GBooking) (hl : xs.length ≤ 4611686018427387904) : spec_LedgerOk xs = some (LedgerOkM xs) := by
  unfold spec_LedgerOk LedgerOkM
  rw [gd_pos hl, forO_all (f := spec_LedgerOk_L1 xs) (c := false) (ledP xs) (fun k hk => by
    simp only [spec_LedgerOk_L1, l01In_eq, Option.bind_some, ledP]
    cases hd : decide ((k : Int) > 0)
    · cases inR (gx xs k).Day 0 9999 <;> cases inR (gx xs k).From 0 4 <;> cases inR (gx xs k).To 0 4 <;> cases ((gx xs k).From == (gx xs k).To) <;> cases inR (gx xs k).Sum 1 100000 <;> rfl
    · obtain ⟨e1, e2⟩ := prev_idx hk hl hd
      simp only [e1, Int.toNat_natCast, cond_true]
      rw [gd_pos ⟨by omega, by omega⟩]
      cases inR (gx xs k).Day 0 9999 <;> cases inR (gx xs k).From 0 4 <;> cases inR (gx xs k).To 0 4 <;> cases ((gx xs k).From == (gx xs k).To) <;> cases inR (gx xs k).Sum 1 100000 <;> cases decide ((gx xs k).Day < (gx xs (k - 1)).Day) <;> rfl)]
  cases (List.range xs.length).all (ledP xs) <;> rfl

theorem impl_LedgerOk_eq (xs : List GBooking) (hl : xs.length ≤ 4611686018427387904) : impl_LedgerOk xs = some (LedgerOkM xs) := by
  unfold impl_LedgerOk LedgerOkM
  rw [gd_pos hl, forO_all (f := impl_LedgerOk_L1 xs) (c := false) (ledP xs) (fun k hk => by
    simp only [impl_LedgerOk_L1, within_eq, Option.bind_some, ledP]
    cases hd : decide ((k : Int) > 0)
    · cases inR (gx xs k).Day 0 9999 <;> cases inR (gx xs k).From 0 4 <;> cases inR (gx xs k).To 0 4 <;> cases ((gx xs k).From == (gx xs k).To) <;> cases inR (gx xs k).Sum 1 100000 <;> rfl
    · obtain ⟨e1, e2⟩ := prev_idx hk hl hd
      simp only [e1, Int.toNat_natCast, cond_true]
      rw [gd_pos ⟨by omega, by omega⟩]
      cases inR (gx xs k).Day 0 9999 <;> cases inR (gx xs k).From 0 4 <;> cases inR (gx xs k).To 0 4 <;> cases ((gx xs k).From == (gx xs k).To) <;> cases inR (gx xs k).Sum 1 100000 <;> cases decide ((gx xs k).Day < (gx xs (k - 1)).Day) <;> rfl)]
  cases (List.range xs.length).all (ledP xs) <;> rfl

def EntryOkM (e : GEntry) : Bool := inR e.Owner 0 99 && inR e.Day 0 9999 && BlockOkM e.Block

@[simp] theorem spec_EntryOk_eq (e : GEntry) : spec_EntryOk e = some (EntryOkM e) := by
  unfold spec_EntryOk EntryOkM
  simp only [l01In_eq, spec_BlockOk_eq, Option.bind_some]
  cases inR e.Owner 0 99 <;> cases inR e.Day 0 9999 <;> rfl

@[simp] theorem impl_EntryOk_eq (e : GEntry) : impl_EntryOk e = some (EntryOkM e) := by
  unfold impl_EntryOk EntryOkM
  simp only [within_eq, impl_BlockOk_eq, Option.bind_some]
  cases inR e.Owner 0 99 <;> cases inR e.Day 0 9999 <;> rfl

def memberM (xs : List GMember) (n : Int) : Bool := !((List.range xs.length).all fun k => !((gx xs k).Number == n))

theorem spec_l38Member_eq (xs : List GMember) (n : Int) (hl : xs.length ≤ 4611686018427387904) : spec_l38Member xs n = some (memberM xs n) := by
  unfold spec_l38Member memberM
  rw [gd_pos hl, forO_all (f := spec_l38Member_L1 xs n) (c := true) (fun k => !((gx xs k).Number == n)) (fun k hk => by
    simp only [spec_l38Member_L1]; cases ((gx xs k).Number == n) <;> rfl)]
  cases (List.range xs.length).all (fun k => !((gx xs k).Number == n)) <;> rfl

theorem impl_isMember_eq (xs : List GMember) (n : Int) (hl : xs.length ≤ 4611686018427387904) : impl_isMember xs n = some (memberM xs n) := by
  unfold impl_isMember memberM
  rw [gd_pos hl, forO_all (f := impl_isMember_L1 xs n) (c := true) (fun k => !((gx xs k).Number == n)) (fun k hk => by
    simp only [impl_isMember_L1]; cases ((gx xs k).Number == n) <;> rfl)]
  cases (List.range xs.length).all (fun k => !((gx xs k).Number == n)) <;> rfl

def GoodM (xs : List GMember) (y : Int) : List Int := bif MembersOkM xs then ((List.range xs.length).filter fun k => decide ((gx xs k).Paid ≥ y)).map fun k => (gx xs k).Number else []
theorem good_len (xs : List GMember) (y : Int) : (GoodM xs y).length ≤ 40 := by
  unfold GoodM
  cases h : MembersOkM xs
  · simp
  · have h1 := memOk_len h
    have h2 := List.length_filter_le (fun k => decide ((gx xs k).Paid ≥ y)) (List.range xs.length)
    simp at h2 ⊢; omega

theorem impl_GoodStanding_eq (xs : List GMember) (y : Int) (hl : xs.length ≤ 4611686018427387904) : impl_GoodStanding xs y = some (GoodM xs y) := by
  unfold impl_GoodStanding GoodM
  rw [impl_MembersOk_eq xs hl]
  cases h : MembersOkM xs
  · rfl
  have h1 := memOk_len h
  simp only [Option.bind_some, Bool.not_true, cond_false, cond_true]
  rw [gd_pos hl, lpO_filter (f := impl_GoodStanding_L1 xs y) (xs := []) (fun k => decide ((gx xs k).Paid ≥ y)) (fun k => (gx xs k).Number) (fun k s hk hs => by
    simp only [impl_GoodStanding_L1]
    rw [gd_pos (by simp at hs; omega)]
    cases decide ((gx xs k).Paid ≥ y) <;> rfl)]
  rfl

theorem spec_GoodStanding_eq (xs : List GMember) (y : Int) (hl : xs.length ≤ 4611686018427387904) : spec_GoodStanding xs y = some (GoodM xs y) := by
  unfold spec_GoodStanding GoodM
  rw [gd_pos hl]
  cases h : MembersOkM xs
  · rcases Nat.eq_zero_or_pos xs.length with e | e
    · rw [e]; rfl
    · unfold lpO
      rw [forO_brkAt (f := spec_GoodStanding_L1 xs y) (fun _ => []) rfl 0 e (fun k hk => by omega) (s' := []) (by
        simp only [spec_GoodStanding_L1, spec_MembersOk_eq xs hl, h, Option.bind_some, cond_false])]
      rfl
  have h1 := memOk_len h
  simp only [cond_true]
  rw [lpO_filter (f := spec_GoodStanding_L1 xs y) (xs := []) (fun k => decide ((gx xs k).Paid ≥ y)) (fun k => (gx xs k).Number) (fun k s hk hs => by
    simp only [spec_GoodStanding_L1, spec_MembersOk_eq xs hl, h, Option.bind_some, cond_true]
    rw [gd_pos (by simp at hs; omega)]
    cases decide ((gx xs k).Paid ≥ y) <;> rfl)]
  rfl

def RoundsM (g : GGuild) : Int := bif inR (GoodM g.Members g.Year).length 2 10 then (GoodM g.Members g.Year).length - 1 else 0

theorem spec_SwapRounds_eq (g : GGuild) (hl : g.Members.length ≤ 4611686018427387904) : spec_SwapRounds g = some (RoundsM g) := by
  unfold spec_SwapRounds RoundsM
  have := good_len g.Members g.Year
  rw [spec_GoodStanding_eq _ _ hl]
  simp only [Option.bind_some, l01In_eq, wr_of (n := ((GoodM g.Members g.Year).length : Int) - 1) (by omega) (by omega)]
  cases inR (GoodM g.Members g.Year).length 2 10 <;> rfl

theorem impl_SwapRounds_eq (g : GGuild) (hl : g.Members.length ≤ 4611686018427387904) : impl_SwapRounds g = some (RoundsM g) := by
  unfold impl_SwapRounds RoundsM
  have := good_len g.Members g.Year
  rw [impl_GoodStanding_eq _ _ hl]
  simp only [Option.bind_some, within_eq, wr_of (n := ((GoodM g.Members g.Year).length : Int) - 1) (by omega) (by omega)]
  cases inR (GoodM g.Members g.Year).length 2 10 <;> rfl

/-- Lists of a length that loops may have. -/
def GL (g : GGuild) : Prop := g.Members.length ≤ 4611686018427387904 ∧ g.Stock.length ≤ 4611686018427387904 ∧ g.Entries.length ≤ 4611686018427387904 ∧ g.Books.length ≤ 4611686018427387904
theorem sm_GL {g : GGuild} (h : Sm.ok g) : GL g := by
  obtain ⟨h1, h2, h3, h4⟩ := h
  have := sm_len h1; have := sm_len h2; have := sm_len h3; have := sm_len h4
  exact ⟨by omega, by omega, by omega, by omega⟩
def entP (g : GGuild) (k : Nat) : Bool := EntryOkM (gx g.Entries k) && memberM g.Members (gx g.Entries k).Owner && !(decide ((k : Int) > 0) && decide ((gx g.Entries k).Day < (gx g.Entries (k - 1)).Day))
def GuildOkM (g : GGuild) : Bool := MembersOkM g.Members && StockOkM g.Stock && LedgerOkM g.Books && !decide (((g.Entries.length : Nat) : Int) > 10) && inR g.Year 1900 2999 && (List.range g.Entries.length).all (entP g) && inR g.Round 0 (RoundsM g)

theorem spec_GuildOk_eq (g : GGuild) (h : GL g) : spec_GuildOk g = some (GuildOkM g) := by
  obtain ⟨h1, h2, h3, h4⟩ := h
  unfold spec_GuildOk GuildOkM
  simp only [spec_MembersOk_eq _ h1, spec_StockOk_eq _ h2, spec_LedgerOk_eq _ h4, l01In_eq, Option.bind_some, spec_SwapRounds_eq _ h1]
  cases MembersOkM g.Members
  · rfl
  cases StockOkM g.Stock
  · rfl
  cases LedgerOkM g.Books
  · rfl
  cases decide (((g.Entries.length : Nat) : Int) > 10)
  · cases inR g.Year 1900 2999
    · rfl
    simp only [Bool.not_true, Bool.not_false, cond_false, Option.bind_some]
    rw [gd_pos h3, forO_all (f := spec_GuildOk_L1 g) (c := false) (entP g) (fun k hk => by
      simp only [spec_GuildOk_L1, spec_EntryOk_eq, spec_l38Member_eq _ _ h1, Option.bind_some, entP]
      cases hd : decide ((k : Int) > 0)
      · cases EntryOkM (gx g.Entries k) <;> cases memberM g.Members (gx g.Entries k).Owner <;> rfl
      · obtain ⟨e1, e2⟩ := prev_idx hk h3 hd
        simp only [e1, Int.toNat_natCast, cond_true]
        rw [gd_pos ⟨by omega, by omega⟩]
        cases EntryOkM (gx g.Entries k) <;> cases memberM g.Members (gx g.Entries k).Owner <;> cases decide ((gx g.Entries k).Day < (gx g.Entries (k - 1)).Day) <;> rfl)]
    cases (List.range g.Entries.length).all (entP g) <;> rfl
  · rfl

theorem impl_GuildOk_eq (g : GGuild) (h : GL g) : impl_GuildOk g = some (GuildOkM g) := by
  obtain ⟨h1, h2, h3, h4⟩ := h
  unfold impl_GuildOk GuildOkM
  simp only [impl_MembersOk_eq _ h1, impl_StockOk_eq _ h2, impl_LedgerOk_eq _ h4, within_eq, Option.bind_some, impl_SwapRounds_eq _ h1]
  cases MembersOkM g.Members
  · rfl
  cases StockOkM g.Stock
  · rfl
  cases LedgerOkM g.Books
  · rfl
  cases decide (((g.Entries.length : Nat) : Int) > 10)
  · simp only [Bool.not_true, Bool.not_false, cond_false, Option.bind_some]
    rw [gd_pos h3, forO_all (f := impl_GuildOk_L1 g) (c := false) (entP g) (fun k hk => by
      simp only [impl_GuildOk_L1, impl_EntryOk_eq, impl_isMember_eq _ _ h1, Option.bind_some, entP]
      cases hd : decide ((k : Int) > 0)
      · cases EntryOkM (gx g.Entries k) <;> cases memberM g.Members (gx g.Entries k).Owner <;> rfl
      · obtain ⟨e1, e2⟩ := prev_idx hk h3 hd
        simp only [e1, Int.toNat_natCast, cond_true]
        rw [gd_pos ⟨by omega, by omega⟩]
        cases EntryOkM (gx g.Entries k) <;> cases memberM g.Members (gx g.Entries k).Owner <;> cases decide ((gx g.Entries k).Day < (gx g.Entries (k - 1)).Day) <;> rfl)]
    cases (List.range g.Entries.length).all (entP g) <;> cases inR g.Year 1900 2999 <;> rfl
  · rfl

def digM (a : Int) : UInt8 := UInt8.ofNat (48 + a.toNat)
theorem digM_inj {a b : Int} (h1 : 0 ≤ a) (h2 : a ≤ 5) (h3 : 0 ≤ b) (h4 : b ≤ 5) (h : digM a = digM b) : a = b := by
  have ha : a = 0 ∨ a = 1 ∨ a = 2 ∨ a = 3 ∨ a = 4 ∨ a = 5 := by omega
  have hb : b = 0 ∨ b = 1 ∨ b = 2 ∨ b = 3 ∨ b = 4 ∨ b = 5 := by omega
  rcases ha with rfl | rfl | rfl | rfl | rfl | rfl <;> rcases hb with rfl | rfl | rfl | rfl | rfl | rfl <;> first | rfl | exact absurd h (by decide)
def cellTextM (c : GCell) : List UInt8 := bif c.Split == 1 then [digM c.A, 47, digM c.B] else bif c.Split == 2 then [digM c.A, 92, digM c.B] else [digM c.A]
theorem cellText_inj {c d : GCell} {r q : List UInt8} (hc : CellOkM c = true) (hd : CellOkM d = true) (h : (cellTextM c ++ [59]) ++ r = (cellTextM d ++ [59]) ++ q) : c = d ∧ r = q := by
  obtain ⟨c1, c2, c3, c4, c5, c6, c7⟩ := cellOk_spec hc
  obtain ⟨d1, d2, d3, d4, d5, d6, d7⟩ := cellOk_spec hd
  obtain ⟨cs, ca, cb⟩ := c
  obtain ⟨ds, da, db⟩ := d
  simp only at c1 c2 c3 c4 c5 c6 c7 d1 d2 d3 d4 d5 d6 d7
  have hcs : cs = 0 ∨ cs = 1 ∨ cs = 2 := by omega
  have hds : ds = 0 ∨ ds = 1 ∨ ds = 2 := by omega
  rcases hcs with rfl | rfl | rfl <;> rcases hds with rfl | rfl | rfl <;> simp [cellTextM] at h
  · obtain ⟨e1, e2⟩ := h
    have := digM_inj c3 c4 d3 d4 e1
    have h1 := c7.1 rfl
    have h2 := d7.1 rfl
    subst this; subst h1; subst h2
    exact ⟨rfl, e2⟩
  · obtain ⟨e1, e2, e3⟩ := h
    have := digM_inj c3 c4 d3 d4 e1
    have h2 := digM_inj c5 c6 d5 d6 e2
    subst this; subst h2
    exact ⟨rfl, e3⟩
  · obtain ⟨e1, e2, e3⟩ := h
    have := digM_inj c3 c4 d3 d4 e1
    have h2 := digM_inj c5 c6 d5 d6 e2
    subst this; subst h2
    exact ⟨rfl, e3⟩
def cellsTextM (l : List GCell) : List UInt8 := l.flatMap fun c => cellTextM c ++ [59]
theorem cellsText_inj : ∀ {l m : List GCell}, (∀ c ∈ l, CellOkM c = true) → (∀ c ∈ m, CellOkM c = true) → cellsTextM l = cellsTextM m → l = m
  | [], [], _, _, _ => rfl
  | [], d :: m, _, _, h => by simp [cellsTextM] at h
  | c :: l, [], _, _, h => by simp [cellsTextM] at h
  | c :: l, d :: m, hl, hm, h => by
    have h' : (cellTextM c ++ [59]) ++ cellsTextM l = (cellTextM d ++ [59]) ++ cellsTextM m := by simpa [cellsTextM] using h
    obtain ⟨e1, e2⟩ := cellText_inj (hl c (by simp)) (hm d (by simp)) h'
    rw [e1, cellsText_inj (fun x hx => hl x (by simp [hx])) (fun x hx => hm x (by simp [hx])) e2]
def textM (b : GBlock) : Str := ⟨bif BlockOkM b then cellsTextM b.Cells else []⟩
theorem text_inj {b d : GBlock} (hb : BlockOkM b = true) (hd : BlockOkM d = true) (h : textM b = textM d) : b = d := by
  obtain ⟨n, hn, h1, h2, hl, hc⟩ := blockOk_spec hb
  obtain ⟨m, hm, g1, g2, gl, gc⟩ := blockOk_spec hd
  have e : cellsTextM b.Cells = cellsTextM d.Cells := by
    have := congrArg Str.b h
    simpa [textM, hb, hd] using this
  have e2 := cellsText_inj hc gc e
  have e3 : n * n = m * m := by rw [← hl, ← gl, e2]
  have e4 : n = m := by
    have hn' : n = 1 ∨ n = 2 ∨ n = 3 ∨ n = 4 := by omega
    have hm' : m = 1 ∨ m = 2 ∨ m = 3 ∨ m = 4 := by omega
    rcases hn' with rfl | rfl | rfl | rfl <;> rcases hm' with rfl | rfl | rfl | rfl <;> simp_all
  obtain ⟨bs, bc⟩ := b
  obtain ⟨ds, dc⟩ := d
  simp only at hn hm e2
  rw [hn, hm, e4, e2]
theorem cellText_len (c : GCell) : (cellTextM c).length ≤ 3 := by
  unfold cellTextM
  cases c.Split == 1 <;> cases c.Split == 2 <;> simp
theorem cellsText_len (l : List GCell) : (cellsTextM l).length ≤ 4 * l.length := by
  induction l with
  | nil => simp [cellsTextM]
  | cons c l ih =>
    have := cellText_len c
    simp only [cellsTextM, List.flatMap_cons, List.length_append, List.length_cons, List.length_nil] at ih ⊢
    omega
theorem text_len {b : GBlock} : (textM b).b.length ≤ 64 := by
  unfold textM
  cases h : BlockOkM b
  · simp
  · obtain ⟨n, hn, h1, h2, hl, hc⟩ := blockOk_spec h
    have := cellsText_len b.Cells
    have hnn : n * n ≤ 4 * 4 := Nat.mul_le_mul h2 h2
    simp only [cond_true]
    omega
theorem textM_eq {b d : GBlock} (hb : BlockOkM b = true) (hd : BlockOkM d = true) : (textM b = textM d) ↔ b = d := ⟨text_inj hb hd, fun h => by rw [h]⟩

def sameCellM (c d : GCell) : Bool := c.Split == d.Split && c.A == d.A && c.B == d.B
theorem sameCell_iff {c d : GCell} : sameCellM c d = true ↔ c = d := by
  obtain ⟨a, b, e⟩ := c
  obtain ⟨a', b', e'⟩ := d
  simp [sameCellM, and_assoc]
theorem beqs3 (a b c d e f : Int) : beqs [a, b, c] [d, e, f] = (a == d && b == e && c == f) := by simp [beqs, Bool.and_assoc]
def SameBlockM (b d : GBlock) : Bool := b.Size == d.Size && b.Cells.length == d.Cells.length && (List.range b.Cells.length).all fun k => sameCellM (gx b.Cells k) (gx d.Cells k)
theorem sameBlock_iff {b d : GBlock} : SameBlockM b d = true ↔ b = d := by
  constructor
  · intro h
    simp only [SameBlockM, Bool.and_eq_true, beq_iff_eq, List.all_eq_true, List.mem_range, sameCell_iff] at h
    obtain ⟨⟨h1, h2⟩, h3⟩ := h
    have := gx_ext h2 h3
    obtain ⟨s, c⟩ := b
    obtain ⟨s', c'⟩ := d
    simp_all
  · rintro rfl
    simp [SameBlockM, sameCell_iff]
theorem sameBlock_refl (b : GBlock) : SameBlockM b b = true := sameBlock_iff.2 rfl
theorem nat_beq_int (a b : Nat) : ((a : Int) == (b : Int)) = (a == b) := by
  rw [Bool.eq_iff_iff, beq_iff_eq, beq_iff_eq]; omega

theorem spec_FormatInt_small {a : Int} (h0 : 0 ≤ a) (h1 : a ≤ 5) : spec_FormatInt a = some ⟨[digM a]⟩ := by
  have ha : a = 0 ∨ a = 1 ∨ a = 2 ∨ a = 3 ∨ a = 4 ∨ a = 5 := by omega
  have key : ∀ (s s' s'' : Int × Str), spec_FormatInt_L1 s = some (.next s') → spec_FormatInt_L1 s' = some (.brk s'') → wlO spec_FormatInt_L1 18446744073709551616 s = some s'' := fun s s' s'' h1 h2 => by
    have : ∀ n, wlO spec_FormatInt_L1 (n + 2) s = some s'' := fun n => by
      unfold wlO
      rw [whO, h1]
      simp only [Option.bind_some]
      rw [whO, h2]
      rfl
    exact this 18446744073709551614
  rcases ha with rfl | rfl | rfl | rfl | rfl | rfl
  · rfl
  · unfold spec_FormatInt
    rw [key (1, ⟨[]⟩) (0, ⟨[49]⟩) (0, ⟨[49]⟩) rfl rfl]; rfl
  · unfold spec_FormatInt
    rw [key (2, ⟨[]⟩) (0, ⟨[50]⟩) (0, ⟨[50]⟩) rfl rfl]; rfl
  · unfold spec_FormatInt
    rw [key (3, ⟨[]⟩) (0, ⟨[51]⟩) (0, ⟨[51]⟩) rfl rfl]; rfl
  · unfold spec_FormatInt
    rw [key (4, ⟨[]⟩) (0, ⟨[52]⟩) (0, ⟨[52]⟩) rfl rfl]; rfl
  · unfold spec_FormatInt
    rw [key (5, ⟨[]⟩) (0, ⟨[53]⟩) (0, ⟨[53]⟩) rfl rfl]; rfl

theorem spec_CellText_eq {c : GCell} (h : CellOkM c = true) : spec_CellText c = some ⟨cellTextM c⟩ := by
  obtain ⟨h1, h2, h3, h4, h5, h6, h7⟩ := cellOk_spec h
  unfold spec_CellText cellTextM
  simp only [spec_CellOk_eq, h, spec_FormatInt_small h3 h4, spec_FormatInt_small h5 h6, Option.bind_some, Bool.not_true, cond_false]
  cases c.Split == 1
  · cases c.Split == 2
    · rfl
    · simp only [cond_true, cond_false]
      rw [gd_pos (by simp), gd_pos (by simp [sadd])]; rfl
  · simp only [cond_true]
    rw [gd_pos (by simp), gd_pos (by simp [sadd])]; rfl

theorem tdiv_nat (a b : Nat) : ((a : Int)).tdiv (b : Int) = ((a / b : Nat) : Int) := rfl
theorem tmod_nat (a b : Nat) : ((a : Int)).tmod (b : Int) = ((a % b : Nat) : Int) := rfl
def tgtM (w h dx dy i : Nat) : Nat := (i / w + dy) % h * w + (i % w + dx) % w
def sameAtM (l : List GBlock) (w h dx dy : Nat) : Bool := (List.range (h * w)).all fun i => SameBlockM (gx l i) (gx l (tgtM w h dx dy i))
theorem all_grid {h w : Nat} (P : Nat → Nat → Bool) (hw : 0 < w) : ((List.range (h * w)).all fun i => P (i / w) (i % w)) = (List.range h).all fun y => (List.range w).all fun x => P y x := by
  rw [Bool.eq_iff_iff]
  simp only [List.all_eq_true, List.mem_range]
  constructor
  · intro H y hy x hx
    have := H (y * w + x) (idx_lt2 hy hx)
    rwa [show (y * w + x) / w = y by rw [Nat.mul_comm, Nat.mul_add_div hw, Nat.div_eq_of_lt hx]; rfl, show (y * w + x) % w = x by rw [Nat.mul_comm, Nat.mul_add_mod, Nat.mod_eq_of_lt hx]] at this
  · intro H i hi
    exact H _ ((Nat.div_lt_iff_lt_mul hw).2 hi) _ (Nat.mod_lt _ hw)
theorem sameAt_grid {l : List GBlock} {w h dx dy : Nat} (hw : 0 < w) : sameAtM l w h dx dy = (List.range h).all fun y => (List.range w).all fun x => SameBlockM (gx l (y * w + x)) (gx l ((y + dy) % h * w + (x + dx) % w)) := by
  rw [← all_grid (fun y x => SameBlockM (gx l (y * w + x)) (gx l ((y + dy) % h * w + (x + dx) % w))) hw]
  unfold sameAtM tgtM
  congr 1
  funext i
  congr 2
  rw [Nat.mul_comm]
  exact (Nat.div_add_mod i w).symm
theorem tgt_lt {w h dx dy i : Nat} (hw : 0 < w) (hh : 0 < h) : tgtM w h dx dy i < h * w := idx_lt2 (Nat.mod_lt _ hh) (Nat.mod_lt _ hw)

def tab6 (f : Nat → Int) : List Int := (List.range 6).map f
theorem tab6_len (f : Nat → Int) : (tab6 f).length = 6 := by simp [tab6]
theorem tab6_gx (f : Nat → Int) {a : Nat} (ha : a < 6) : gx (tab6 f) a = f a := gx_range f ha
theorem tab6_congr {f g : Nat → Int} (h : ∀ a, a < 6 → f a = g a) : tab6 f = tab6 g := List.map_congr_left fun a ha => h a (by simpa using ha)
theorem tab6_set (f : Nat → Int) (a : Nat) (v : Int) : (tab6 f).set a v = tab6 fun i => bif i == a then v else f i := by
  apply gx_ext
  · simp [tab6]
  · intro k hk
    have hk' : k < 6 := by simpa [tab6] using hk
    rw [tab6_gx _ hk']
    by_cases e : k = a
    · subst e
      rw [gx_set (by rw [tab6_len]; exact hk')]; simp
    · rw [gx_set_ne e, tab6_gx _ hk', beq_eq_false_iff_ne.2 e, cond_false]
def wcM (a : Int) (c : GCell) : Int := bif c.Split == 0 then (bif c.A == a then 1 else 0) else 0
def hcM (a : Int) (c : GCell) : Int := bif c.Split == 0 then 0 else (bif c.A == a then 1 else 0) + (bif c.B == a then 1 else 0)
theorem wc_bound (a : Int) (c : GCell) : 0 ≤ wcM a c ∧ wcM a c ≤ 2 := by unfold wcM; cases c.Split == 0 <;> cases c.A == a <;> simp
theorem hc_bound (a : Int) (c : GCell) : 0 ≤ hcM a c ∧ hcM a c ≤ 2 := by unfold hcM; cases c.Split == 0 <;> cases c.A == a <;> cases c.B == a <;> simp
theorem wc_turn (a : Int) {c : GCell} (h : CellOkM c = true) : wcM a (TurnCellM c) = wcM a c := by
  unfold TurnCellM wcM
  rw [h]
  by_cases e1 : c.Split = 1
  · simp [e1]
  · by_cases e2 : c.Split = 2
    · simp [e2]
    · rw [beq_eq_false_iff_ne.2 e1, beq_eq_false_iff_ne.2 e2]; rfl
theorem hc_turn (a : Int) {c : GCell} (h : CellOkM c = true) : hcM a (TurnCellM c) = hcM a c := by
  unfold TurnCellM hcM
  rw [h]
  by_cases e1 : c.Split = 1
  · simp [e1, Int.add_comm]
  · by_cases e2 : c.Split = 2
    · simp [e2]
    · rw [beq_eq_false_iff_ne.2 e1, beq_eq_false_iff_ne.2 e2]; rfl
theorem mirror_split {c : GCell} (h : CellOkM c = true) (h0 : c.Split ≠ 0) : (MirrorCellM c).Split ≠ 0 ∧ (MirrorCellM c).A = c.B ∧ (MirrorCellM c).B = c.A := by
  obtain ⟨h1, h2, _⟩ := cellOk_spec h
  have e : (c.Split == 0) = false := by simp [h0]
  unfold MirrorCellM
  rw [h, e]
  simp only [cond_true, cond_false]
  refine ⟨?_, trivial, trivial⟩
  omega
theorem wc_mirror (a : Int) {c : GCell} (h : CellOkM c = true) : wcM a (MirrorCellM c) = wcM a c := by
  by_cases e0 : c.Split = 0
  · unfold MirrorCellM; simp [h, e0]
  · obtain ⟨m1, m2, m3⟩ := mirror_split h e0
    unfold wcM
    rw [beq_eq_false_iff_ne.2 m1, beq_eq_false_iff_ne.2 e0]
    rfl
theorem hc_mirror (a : Int) {c : GCell} (h : CellOkM c = true) : hcM a (MirrorCellM c) = hcM a c := by
  by_cases e0 : c.Split = 0
  · unfold MirrorCellM; simp [h, e0]
  · obtain ⟨m1, m2, m3⟩ := mirror_split h e0
    unfold hcM
    rw [beq_eq_false_iff_ne.2 m1, beq_eq_false_iff_ne.2 e0, m2, m3]
    simp only [cond_false]; omega
theorem nat_toNat_beq {x : Int} (h : 0 ≤ x) (a : Nat) : (a == x.toNat) = (x == (a : Int)) := by
  rw [Bool.eq_iff_iff]; simp; omega
def wsM (cs : List GCell) (a : Int) : Int := isum (cs.map (wcM a))
def hsM (cs : List GCell) (a : Int) : Int := isum (cs.map (hcM a))
theorem ws_bound {cs : List GCell} (hl : cs.length ≤ 16) (a : Int) : 0 ≤ wsM cs a ∧ wsM cs a ≤ 32 := by
  have := isum_bound (B := 2) (xs := cs.map (wcM a)) (fun x hx => by
    simp only [List.mem_map] at hx; obtain ⟨c, _, rfl⟩ := hx; exact wc_bound a c)
  simp only [List.length_map] at this
  unfold wsM; omega
theorem hs_bound {cs : List GCell} (hl : cs.length ≤ 16) (a : Int) : 0 ≤ hsM cs a ∧ hsM cs a ≤ 32 := by
  have := isum_bound (B := 2) (xs := cs.map (hcM a)) (fun x hx => by
    simp only [List.mem_map] at hx; obtain ⟨c, _, rfl⟩ := hx; exact hc_bound a c)
  simp only [List.length_map] at this
  unfold hsM; omega
theorem mul_b {v x B : Int} (h0 : 0 ≤ v) (h1 : v ≤ B) (x0 : 0 ≤ x) (x1 : x ≤ 32) : 0 ≤ v * x ∧ v * x ≤ B * 32 :=
  ⟨Int.mul_nonneg h0 x0, Int.mul_le_mul h1 x1 x0 (by omega)⟩
/-- The cells of a block, counted into two tables. -/
theorem cell_loop {f : Nat → List Int × List Int → Option (Res (List Int × List Int) Empty)} {cs : List GCell} (hc : ∀ c ∈ cs, CellOkM c = true) (hl : cs.length ≤ 16) {vw vh B M : Int} (w0 : 0 ≤ vw) (w1 : vw ≤ B) (h0 : 0 ≤ vh) (h1 : vh ≤ B) (hM : M + B * 34 ≤ 4611686018427387904) (hB : 0 ≤ B)
    (h : ∀ k (w h : List Int), k < cs.length → w.length = 6 → h.length = 6 → (∀ a, a < 6 → 0 ≤ gx w a ∧ gx w a + B ≤ 4611686018427387904) → (∀ a, a < 6 → 0 ≤ gx h a ∧ gx h a + B ≤ 4611686018427387904) →
      f k (w, h) = some (.next (bif (gx cs k).Split == 0 then (w.set (gx cs k).A.toNat (gx w (gx cs k).A.toNat + vw), h) else (w, (h.set (gx cs k).A.toNat (gx h (gx cs k).A.toNat + vh)).set (gx cs k).B.toNat (gx h (gx cs k).B.toNat + vh)))))
    {W H : Nat → Int} (hW : ∀ a, a < 6 → 0 ≤ W a ∧ W a ≤ M) (hH : ∀ a, a < 6 → 0 ≤ H a ∧ H a ≤ M) :
    lpO f cs.length (tab6 W, tab6 H) = some (tab6 fun a => W a + vw * wsM cs a, tab6 fun a => H a + vh * hsM cs a) := by
  have hs0 : (tab6 W, tab6 H) = (tab6 fun a => W a + vw * wsM (cs.take 0) a, tab6 fun a => H a + vh * hsM (cs.take 0) a) := by simp [wsM, hsM, isum]
  have hend : (tab6 fun a => W a + vw * wsM cs a, tab6 fun a => H a + vh * hsM cs a) = (tab6 fun a => W a + vw * wsM (cs.take cs.length) a, tab6 fun a => H a + vh * hsM (cs.take cs.length) a) := by simp
  rw [hend]
  refine lpO_st (fun j => (tab6 fun a => W a + vw * wsM (cs.take j) a, tab6 fun a => H a + vh * hsM (cs.take j) a)) hs0 fun j hj => ?_
  have hok := hc _ (gx_mem hj)
  obtain ⟨c1, c2, c3, c4, c5, c6, c7⟩ := cellOk_spec hok
  have tl : (cs.take j).length ≤ 16 := by simp; omega
  have bw : ∀ a, a < 6 → 0 ≤ W a + vw * wsM (cs.take j) a ∧ W a + vw * wsM (cs.take j) a ≤ M + B * 32 := fun a ha => by
    obtain ⟨b1, b2⟩ := ws_bound tl a
    have := mul_b w0 w1 b1 b2
    have := hW a ha
    omega
  have bh : ∀ a, a < 6 → 0 ≤ H a + vh * hsM (cs.take j) a ∧ H a + vh * hsM (cs.take j) a ≤ M + B * 32 := fun a ha => by
    obtain ⟨b1, b2⟩ := hs_bound tl a
    have := mul_b h0 h1 b1 b2
    have := hH a ha
    omega
  have sw : ∀ a : Nat, wsM (cs.take (j + 1)) a = wsM (cs.take j) a + wcM a (gx cs j) := fun a => by
    unfold wsM
    rw [List.take_succ_eq_append_getElem hj, List.map_append, isum_append, ← gx_lt hj]; simp [isum]
  have sh : ∀ a : Nat, hsM (cs.take (j + 1)) a = hsM (cs.take j) a + hcM a (gx cs j) := fun a => by
    unfold hsM
    rw [List.take_succ_eq_append_getElem hj, List.map_append, isum_append, ← gx_lt hj]; simp [isum]
  rw [h j _ _ hj (tab6_len _) (tab6_len _) (fun a ha => by rw [tab6_gx _ ha]; have := bw a ha; omega) (fun a ha => by rw [tab6_gx _ ha]; have := bh a ha; omega)]
  congr 2
  have hA : (gx cs j).A.toNat < 6 := by omega
  have hB' : (gx cs j).B.toNat < 6 := by omega
  cases hsp : (gx cs j).Split == 0
  · have hne : (gx cs j).A ≠ (gx cs j).B := fun e => by
      have := c7.2 e
      rw [this] at hsp; cases hsp
    simp only [cond_false]
    rw [tab6_gx _ hA, tab6_gx _ hB', tab6_set, tab6_set]
    congr 1
    · exact tab6_congr fun a ha => by rw [sw]; simp [wcM, hsp]
    · exact tab6_congr fun a ha => by
        rw [sh]
        unfold hcM
        rw [hsp, nat_toNat_beq c3, nat_toNat_beq c5]
        simp only [cond_false]
        cases hb : (gx cs j).B == (a : Int)
        · cases hx : (gx cs j).A == (a : Int)
          · simp
          · have e : (gx cs j).A.toNat = a := by have := eq_of_beq hx; omega
            simp only [cond_true, cond_false, e, Int.mul_add]; omega
        · have e : (gx cs j).B.toNat = a := by have := eq_of_beq hb; omega
          have hx : ((gx cs j).A == (a : Int)) = false := by
            rw [beq_eq_false_iff_ne]
            have := eq_of_beq hb
            omega
          simp only [cond_true, cond_false, e, hx, Int.mul_add]; omega
  · simp only [cond_true]
    rw [tab6_gx _ hA, tab6_set]
    congr 1
    · exact tab6_congr fun a ha => by
        rw [sw]
        unfold wcM
        rw [hsp, nat_toNat_beq c3]
        simp only [cond_true]
        cases hx : (gx cs j).A == (a : Int)
        · simp
        · have e : (gx cs j).A.toNat = a := by have := eq_of_beq hx; omega
          simp only [cond_true, e, Int.mul_add]; omega
    · exact tab6_congr fun a ha => by rw [sh]; simp [hcM, hsp]

def enoughM (st need : List Int) : Bool := (List.range 6).all fun a => !decide (gx need a > gx st a)
theorem tab_stock {f : Nat → Int} (h : ∀ a, a < 6 → 0 ≤ f a ∧ f a ≤ 1000000) : StockOkM (tab6 f) = true := by
  simp only [StockOkM, tab6_len, Bool.and_eq_true, List.all_eq_true, beq_self_eq_true, and_true]
  constructor
  · intro x hx
    simp only [tab6, List.mem_map, List.mem_range] at hx
    obtain ⟨a, ha, rfl⟩ := hx
    exact inR_iff.2 (h a ha)
  · rfl
theorem stock_spec {xs : List Int} (h : StockOkM xs = true) : xs.length = 6 ∧ ∀ a, a < 6 → 0 ≤ gx xs a ∧ gx xs a ≤ 1000000 := by
  have hl := stockOk_len h
  refine ⟨hl, fun a ha => ?_⟩
  simp only [StockOkM, Bool.and_eq_true, List.all_eq_true] at h
  exact inR_iff.1 (h.1 _ (gx_mem (by omega)))

theorem guild_parts {g : GGuild} (h : GuildOkM g = true) : MembersOkM g.Members = true ∧ StockOkM g.Stock = true ∧ LedgerOkM g.Books = true ∧ g.Entries.length ≤ 10 ∧ ∀ k, k < g.Entries.length → BlockOkM (gx g.Entries k).Block = true := by
  simp only [GuildOkM, Bool.and_eq_true, List.all_eq_true, List.mem_range] at h
  obtain ⟨⟨⟨⟨⟨⟨h1, h2⟩, h3⟩, h4⟩, h5⟩, h6⟩, h7⟩ := h
  refine ⟨h1, h2, h3, ?_, fun k hk => ?_⟩
  · simp at h4; omega
  · have := h6 k hk
    simp only [entP, EntryOkM, Bool.and_eq_true] at this
    exact this.1.1.2

theorem impl_FormatInt_small {a : Int} (h0 : 0 ≤ a) (h1 : a ≤ 5) : impl_FormatInt a = some ⟨[digM a]⟩ := by
  unfold impl_FormatInt strconv_Itoa
  rw [gd_pos ⟨h0, by omega⟩]
  rfl

theorem impl_CellText_eq {c : GCell} (h : CellOkM c = true) : impl_CellText c = some ⟨cellTextM c⟩ := by
  obtain ⟨h1, h2, h3, h4, h5, h6, h7⟩ := cellOk_spec h
  have hs : c.Split = 0 ∨ c.Split = 1 ∨ c.Split = 2 := by omega
  unfold impl_CellText cellTextM
  simp only [impl_CellOk_eq, h, impl_FormatInt_small h3 h4, impl_FormatInt_small h5 h6, Option.bind_some, Bool.not_true, cond_false]
  rcases hs with e | e | e <;> rw [e]
  · rfl
  · rfl
  · rfl

theorem whO_down {S C : Type} {f : S → Option (Res S C)} (I : S → Prop) (ct : S → Nat) (h : ∀ s, I s → (∃ s', I s' ∧ ct s' < ct s ∧ f s = some (.next s')) ∨ ∃ s', I s' ∧ f s = some (.brk s')) : ∀ (n fuel : Nat) (s : S), I s → ct s ≤ n → n < fuel → ∃ s', I s' ∧ whO f fuel s = some (.inl s')
  | _, 0, _, _, _, hf => absurd hf (by omega)
  | n, fuel + 1, s, hs, hn, hf => by
    rcases h s hs with ⟨s', h1, h2, h3⟩ | ⟨s', h1, h3⟩
    · cases n with
      | zero => omega
      | succ n =>
        obtain ⟨s2, k1, k2⟩ := whO_down I ct h n fuel s' h1 (by omega) (by omega)
        exact ⟨s2, k1, by rw [whO, h3]; exact k2⟩
    · exact ⟨s', h1, by rw [whO, h3]; rfl⟩

theorem wlO_down {S : Type} {f : S → Option (Res S Empty)} (I : S → Prop) (ct : S → Nat) (h : ∀ s, I s → (∃ s', I s' ∧ ct s' < ct s ∧ f s = some (.next s')) ∨ ∃ s', I s' ∧ f s = some (.brk s')) {fuel : Nat} {s : S} (hs : I s) (hf : ct s < fuel) : ∃ s', I s' ∧ wlO f fuel s = some s' := by
  obtain ⟨s', h1, h2⟩ := whO_down I ct h (ct s) fuel s hs (Nat.le_refl _) hf
  exact ⟨s', h1, by unfold wlO; rw [h2]; rfl⟩

theorem guild_round {g : GGuild} (h : GuildOkM g = true) : 0 ≤ g.Round ∧ g.Round ≤ RoundsM g := by
  simp only [GuildOkM, Bool.and_eq_true] at h
  exact inR_iff.1 h.2

theorem rounds_bound (g : GGuild) : 0 ≤ RoundsM g ∧ RoundsM g ≤ 9 := by
  unfold RoundsM
  cases h : inR ((GoodM g.Members g.Year).length : Int) 2 10
  · simp
  · have := inR_iff.1 h
    simp only [cond_true]; omega
theorem guild_year {g : GGuild} (h : GuildOkM g = true) : 1900 ≤ g.Year ∧ g.Year ≤ 2999 := by
  simp only [GuildOkM, Bool.and_eq_true] at h
  exact inR_iff.1 h.1.1.2

theorem seq_self (s : Str) : seq s s = true := by unfold seq; simp

theorem dec_len : ∀ (k u : Nat), u < 10 ^ (k + 1) → (Lib.decDigits u).length ≤ k + 1
  | 0, u, h => by rw [Lib.decDigits, dif_pos (by simpa using h)]; simp
  | k + 1, u, h => by
    by_cases hu : u < 10
    · rw [Lib.decDigits, dif_pos hu]; simp
    · rw [Nat.pow_succ] at h
      rw [Lib.decDigits, dif_neg hu, List.length_append]
      have := dec_len k (u / 10) (by omega)
      simp; omega
theorem itoa_nat {n : Int} (h0 : 0 ≤ n) : Lib.itoa n = Lib.decDigits n.toNat := by
  unfold Lib.itoa
  rw [if_neg (by omega)]
theorem itoa_len {n : Int} (h0 : 0 ≤ n) (h1 : n ≤ 1000000000) : (Lib.itoa n).length ≤ 10 := by
  rw [itoa_nat h0]
  exact dec_len 9 _ (by have : (10 : Nat) ^ (9 + 1) = 10000000000 := by decide
                        omega)

theorem impl_FormatInt_b_eq {n : Int} (h0 : 0 ≤ n) (h1 : n ≤ 1000000000) : impl_FormatInt_b n = some ⟨Lib.itoa n⟩ := by
  unfold impl_FormatInt_b strconv_Itoa_b
  rw [gd_pos ⟨by omega, by omega⟩]
  rfl

theorem spec_figure {m : Nat} (h : m < 10) : spec_l01Figure ((m : Nat) : Int) = some (UInt8.ofNat (48 + m)) := by
  unfold spec_l01Figure u8of
  rw [decide_eq_true (show ((m : Nat) : Int) < 10 by omega), cond_true, wr_of (by omega) (by omega)]
  have : ((48 + (m : Int)) % 256).toNat = 48 + m := by omega
  rw [this]
theorem spec_digits : ∀ (k m : Nat), m ≤ k → 0 < m → m ≤ 1000000000 → ∀ (s : Str) (fuel : Nat), s.b.length + m ≤ 2000000000 → m + 1 < fuel → whO spec_FormatInt_L1 fuel ((m : Int), s) = some (.inl (0, ⟨Lib.decDigits m ++ s.b⟩))
  | 0, m, hk, hm, _, _, _, _, _ => absurd hm (by omega)
  | k + 1, m, hk, hm, hb, s, fuel, hs, hf => by
    obtain ⟨fuel, rfl⟩ : ∃ q, fuel = q + 1 := ⟨fuel - 1, by omega⟩
    have hstep : spec_FormatInt_L1 ((m : Int), s) = some (.next (((m / 10 : Nat) : Int), ⟨UInt8.ofNat (48 + m % 10) :: s.b⟩)) := by
      unfold spec_FormatInt_L1
      have h1 : (((m : Int) != 0)) = true := by simp; omega
      have h2 : (m : Int).tmod 10 = ((m % 10 : Nat) : Int) := rfl
      have h3 : (m : Int).tdiv 10 = ((m / 10 : Nat) : Int) := rfl
      simp only [h1, cond_true, h2, h3]
      rw [decide_eq_false (show ¬ ((m % 10 : Nat) : Int) < 0 by omega), cond_false, spec_figure (by omega)]
      simp only [Option.bind_some, List.length_cons, List.length_nil]
      rw [gd_pos (by omega), wr_of (by omega) (by omega)]
      rfl
    rw [whO, hstep]
    simp only [Option.bind_some]
    by_cases h10 : m < 10
    · obtain ⟨fuel, rfl⟩ : ∃ q, fuel = q + 1 := ⟨fuel - 1, by omega⟩
      have e0 : m / 10 = 0 := by omega
      have e1 : m % 10 = m := by omega
      rw [e0, e1, Lib.decDigits, dif_pos h10, whO]
      rfl
    · rw [spec_digits k (m / 10) (by omega) (by omega) (by omega) _ fuel (by simp only [List.length_cons]; omega) (by omega)]
      rw [show Lib.decDigits m = Lib.decDigits (m / 10) ++ [UInt8.ofNat (48 + m % 10)] by rw [Lib.decDigits, dif_neg h10]]
      simp
theorem spec_FormatInt_all {n : Int} (h0 : 0 ≤ n) (h1 : n ≤ 1000000000) : spec_FormatInt n = some ⟨Lib.itoa n⟩ := by
  obtain ⟨m, rfl⟩ := Int.eq_ofNat_of_zero_le h0
  rw [itoa_nat h0, Int.toNat_natCast]
  unfold spec_FormatInt
  by_cases hz : m = 0
  · subst hz
    rw [Lib.decDigits]
    rfl
  · have hb : (((m : Nat) : Int) == 0) = false := by simpa using hz
    rw [hb, cond_false]
    have := spec_digits m m (Nat.le_refl _) (by omega) (by omega) ⟨[]⟩ 18446744073709551616 (by simp only [List.length_nil]; omega) (by omega)
    unfold wlO
    rw [this]
    simp only [Option.map_some, lpk, Option.bind_some]
    rw [decide_eq_false (show ¬ ((m : Nat) : Int) < 0 by omega)]
    simp

/-- Numbers behind blanks. -/
def numsL (ns : List Int) : List UInt8 := (ns.map fun n => 32 :: Lib.itoa n).flatten
def lineL (word : List UInt8) (ns : List Int) : List UInt8 := word ++ numsL ns
theorem numsL_len : ∀ {ns : List Int}, (∀ n ∈ ns, 0 ≤ n ∧ n ≤ 1000000000) → (numsL ns).length ≤ 11 * ns.length
  | [], _ => by simp [numsL]
  | n :: ns, h => by
    have h1 := numsL_len (ns := ns) fun x hx => h x (by simp [hx])
    have h2 := itoa_len (h n (by simp)).1 (h n (by simp)).2
    unfold numsL at h1 ⊢
    simp only [List.map_cons, List.flatten_cons, List.length_append, List.length_cons]
    omega
theorem lineL_len {word : List UInt8} {ns : List Int} (hw : word.length ≤ 100) (h : ∀ n ∈ ns, 0 ≤ n ∧ n ≤ 1000000000) (hl : ns.length ≤ 100) : (lineL word ns).length ≤ 1200 := by
  have := numsL_len h
  unfold lineL
  rw [List.length_append]; omega

theorem impl_lineOf_eq {word : Str} {ns : List Int} (hw : word.b.length ≤ 100) (h : ∀ n ∈ ns, 0 ≤ n ∧ n ≤ 1000000000) (hl : ns.length ≤ 100) : impl_lineOf word ns = some ⟨lineL word.b ns⟩ := by
  have hlen := lineL_len hw h hl
  unfold impl_lineOf
  rw [gd_pos (by omega), lpO_app (f := impl_lineOf_L1 ns) (xs := [word]) (fun k => (⟨Lib.itoa (gx ns k)⟩ : Str)) (fun k s hk hs => by
    have hn := h _ (gx_mem hk)
    unfold impl_lineOf_L1
    rw [impl_FormatInt_b_eq hn.1 hn.2]
    simp only [Option.bind_some]
    rw [gd_pos (by simp at hs; omega)])]
  simp only [Option.bind_some]
  rw [map_gx (fun n => (⟨Lib.itoa n⟩ : Str)) ns]
  have hj : Lib.join ((([word] : List Str) ++ ns.map fun n => (⟨Lib.itoa n⟩ : Str)).map Str.b) [32] = lineL word.b ns := by
    rw [List.singleton_append, List.map_cons, List.map_map, Lib.join_cons]
    unfold lineL numsL Lib.joinTail
    rw [List.map_map]
    rfl
  unfold strings_Join
  simp only [hj]
  rw [gd_pos ⟨by simp; omega, by omega⟩]
  rfl

/-- A loop that writes numbers behind a word. -/
theorem line_loop {f : Nat → Str → Option (Res Str Empty)} {N : Nat} {x : Nat → Int} (word : Str) (hw : word.b.length ≤ 100) (hx : ∀ k, k < N → 0 ≤ x k ∧ x k ≤ 1000000000) (hN : N ≤ 100) (h : ∀ k s, k < N → s.b.length ≤ 1200 → f k s = some (.next (sadd (sadd s ⟨[32]⟩) ⟨Lib.itoa (x k)⟩))) : lpO f N word = some ⟨lineL word.b ((List.range N).map x)⟩ :=
  lpO_st (fun k => (⟨lineL word.b ((List.range k).map x)⟩ : Str)) (by simp [lineL, numsL]) fun k hk => by
    have hlen : (lineL word.b ((List.range k).map x)).length ≤ 1200 := lineL_len hw (fun n hn => by
      obtain ⟨j, hj, rfl⟩ := List.mem_map.1 hn
      have hj' : j < k := by simpa using hj
      exact hx j (by omega)) (by simp; omega)
    rw [h k ⟨lineL word.b ((List.range k).map x)⟩ hk hlen]
    simp [List.range_succ, lineL, numsL, sadd]

theorem cellText_le (c : GCell) : (cellTextM c).length ≤ 3 := by
  unfold cellTextM
  cases c.Split == 1
  · cases c.Split == 2 <;> simp
  · simp
/-- Cells one behind the other: rows are parted by semicolons. -/
def blkT (c : Nat → List UInt8) (n : Nat) : Nat → List UInt8
  | 0 => []
  | k + 1 => blkT c n k ++ ((bif decide (k > 0) && (k % n == 0) then [59] else bif decide (k > 0) then [44] else []) ++ c k)
theorem blkT_len {c : Nat → List UInt8} {n : Nat} (h : ∀ k, (c k).length ≤ 3) : ∀ k, (blkT c n k).length ≤ 4 * k
  | 0 => by simp [blkT]
  | k + 1 => by
    have h1 := blkT_len (n := n) h k
    have h2 := h k
    unfold blkT
    cases decide (k > 0) && (k % n == 0)
    · cases decide (k > 0)
      · simp; omega
      · simp; omega
    · simp; omega
theorem blk_rows (c : Nat → List UInt8) {n : Nat} (h1 : 1 ≤ n) (h4 : n ≤ 4) : Lib.join ((List.range n).map fun y => Lib.join ((List.range n).map fun x => c (y * n + x)) [44]) [59] = blkT c n (n * n) := by
  have hn : n = 1 ∨ n = 2 ∨ n = 3 ∨ n = 4 := by omega
  rcases hn with rfl | rfl | rfl | rfl <;> simp [blkT, List.range, List.range.loop, Lib.join_cons, Lib.joinTail]
def blockTextM (b : GBlock) : List UInt8 := bif BlockOkM b then blkT (fun k => cellTextM (gx b.Cells k)) b.Size.toNat b.Cells.length else []
theorem blockText_len (b : GBlock) : (blockTextM b).length ≤ 64 := by
  unfold blockTextM
  cases h : BlockOkM b
  · simp
  · obtain ⟨n, hn, n1, n4, hl, _⟩ := blockOk_spec h
    have hnn : n * n ≤ 4 * 4 := Nat.mul_le_mul n4 n4
    have := blkT_len (c := fun k => cellTextM (gx b.Cells k)) (n := b.Size.toNat) (fun k => cellText_le _) b.Cells.length
    rw [cond_true]; omega

theorem spec_BlockText_eq {b : GBlock} (hlen : b.Cells.length ≤ 1048576) : spec_BlockText b = some ⟨blockTextM b⟩ := by
  unfold spec_BlockText blockTextM
  rw [gd_pos (by omega)]
  cases h : BlockOkM b
  · rcases Nat.eq_zero_or_pos b.Cells.length with e | e
    · rw [e]; rfl
    · unfold lpO
      rw [forO_brkAt (f := spec_BlockText_L1 b) (fun _ => (⟨[]⟩ : Str)) rfl 0 e (fun k hk => by omega) (s' := ⟨[]⟩) (by
        simp only [spec_BlockText_L1, spec_BlockOk_eq, h, Option.bind_some, cond_false])]
      rfl
  · obtain ⟨n, hn, n1, n4, hl, hc⟩ := blockOk_spec h
    have hnn : n * n ≤ 4 * 4 := Nat.mul_le_mul n4 n4
    rw [lpO_st (f := spec_BlockText_L1 b) (s0 := (⟨[]⟩ : Str)) (fun k => (⟨blkT (fun k => cellTextM (gx b.Cells k)) b.Size.toNat k⟩ : Str)) rfl (fun k hk => by
      have hbl := blkT_len (c := fun k => cellTextM (gx b.Cells k)) (n := b.Size.toNat) (fun k => cellText_le _) k
      have hcl := cellText_le (gx b.Cells k)
      have hck := hc _ (gx_mem hk)
      have hbn : b.Size.toNat = n := by omega
      simp only [spec_BlockText_L1, spec_BlockOk_eq, h, Option.bind_some, cond_true, spec_CellText_eq hck, blkT]
      have hm : (((k : Nat) : Int).tmod b.Size == 0) = (k % b.Size.toNat == 0) := by
        rw [hn, tmod_nat, Int.toNat_natCast]
        exact nat_beq_int _ 0
      have hd : decide (((k : Nat) : Int) > 0) = decide (k > 0) := by
        rw [Bool.eq_iff_iff, decide_eq_true_iff, decide_eq_true_iff]; omega
      rw [hm, hd]
      cases hk0 : decide (k > 0)
      · simp only [cond_false, Option.bind_some, Bool.false_and]
        rw [gd_pos (by omega)]
        rfl
      · simp only [cond_true, Bool.true_and]
        rw [gd_pos (by omega)]
        simp only [Option.bind_some]
        cases k % b.Size.toNat == 0
        · simp only [cond_false]
          rw [gd_pos (by simp only [List.length_cons, List.length_nil]; omega)]
          simp only [Option.bind_some]
          rw [gd_pos (by simp only [sadd, List.length_append, List.length_cons, List.length_nil]; omega)]
          simp [sadd]
        · simp only [cond_true]
          rw [gd_pos (by simp only [List.length_cons, List.length_nil]; omega)]
          simp only [Option.bind_some]
          rw [gd_pos (by simp only [sadd, List.length_append, List.length_cons, List.length_nil]; omega)]
          simp [sadd])]
    rfl

theorem join_le (sep : List UInt8) : ∀ (xs : List (List UInt8)) (B : Nat), (∀ x ∈ xs, x.length ≤ B) → sep.length ≤ 1 → (Lib.join xs sep).length ≤ (B + 1) * xs.length
  | [], _, _, _ => by simp [Lib.join_nil]
  | x :: r, B, h, hs => by
    have hx := h x (by simp)
    have ht : ∀ r : List (List UInt8), (∀ x ∈ r, x.length ≤ B) → (Lib.joinTail sep r).length ≤ (B + 1) * r.length := fun r => by
      induction r with
      | nil => intro _; simp [Lib.joinTail]
      | cons y r ih =>
        intro hr
        have h1 := ih fun z hz => hr z (by simp [hz])
        have h2 := hr y (by simp)
        unfold Lib.joinTail at h1 ⊢
        simp only [List.map_cons, List.flatten_cons, List.length_append, List.length_cons] at h1 ⊢
        rw [Nat.mul_add]; omega
    have h2 := ht r fun y hy => h y (by simp [hy])
    rw [Lib.join_cons, List.length_append, List.length_cons, Nat.mul_add]
    omega
theorem impl_BlockText_eq (b : GBlock) : impl_BlockText b = some ⟨blockTextM b⟩ := by
  unfold impl_BlockText blockTextM
  rw [impl_BlockOk_eq]
  simp only [Option.bind_some]
  cases h : BlockOkM b
  · rfl
  · obtain ⟨n, hn, n1, n4, hl, hc⟩ := blockOk_spec h
    have hnn : n * n ≤ 4 * 4 := Nat.mul_le_mul n4 n4
    have row : ∀ y, y < n → lpO (impl_BlockText_L2 b y) n ([] : List Str) = some ((List.range n).map fun x => (⟨cellTextM (gx b.Cells (y * n + x))⟩ : Str)) := fun y hy => by
      rw [lpO_app (f := impl_BlockText_L2 b y) (xs := []) (fun x => (⟨cellTextM (gx b.Cells (y * n + x))⟩ : Str)) (fun x s hx hs => by
        have hi := idx_lt hy hx
        simp only [impl_BlockText_L2, impl_CellAt_eq, Option.bind_some]
        rw [cellAtM_nat h hn hx hy, impl_CellText_eq (hc _ (gx_mem (by omega)))]
        simp only [Option.bind_some]
        rw [gd_pos (by simp at hs; omega)])]
      rfl
    have rowj : ∀ y, y < n → strings_Join ((List.range n).map fun x => (⟨cellTextM (gx b.Cells (y * n + x))⟩ : Str)) ⟨[44]⟩ = some ⟨Lib.join ((List.range n).map fun x => cellTextM (gx b.Cells (y * n + x))) [44]⟩ := fun y hy => by
      have e : ((List.range n).map fun x => (⟨cellTextM (gx b.Cells (y * n + x))⟩ : Str)).map Str.b = (List.range n).map fun x => cellTextM (gx b.Cells (y * n + x)) := by rw [List.map_map]; rfl
      have hle := join_le [44] ((List.range n).map fun x => cellTextM (gx b.Cells (y * n + x))) 3 (fun z hz => by
        obtain ⟨x, _, rfl⟩ := List.mem_map.1 hz
        exact cellText_le _) (by simp)
      simp only [List.length_map, List.length_range] at hle
      unfold strings_Join
      rw [e, gd_pos ⟨by simp; omega, by simp only; omega⟩]
    have hrl : ∀ y, (Lib.join ((List.range n).map fun x => cellTextM (gx b.Cells (y * n + x))) [44]).length ≤ 16 := fun y => by
      have hle := join_le [44] ((List.range n).map fun x => cellTextM (gx b.Cells (y * n + x))) 3 (fun z hz => by
        obtain ⟨x, _, rfl⟩ := List.mem_map.1 hz
        exact cellText_le _) (by simp)
      simp only [List.length_map, List.length_range] at hle
      omega
    simp only [Bool.not_true, cond_false, cond_true, hn, Int.toNat_natCast]
    rw [gd_pos (by omega), lpO_app (f := impl_BlockText_L1 b) (xs := []) (fun y => (⟨Lib.join ((List.range n).map fun x => cellTextM (gx b.Cells (y * n + x))) [44]⟩ : Str)) (fun y s hy hs => by
      unfold impl_BlockText_L1
      rw [hn, Int.toNat_natCast, row y hy]
      simp only [Option.bind_some]
      rw [rowj y hy]
      simp only [Option.bind_some]
      rw [gd_pos (by simp at hs; omega)])]
    have e : (([] : List Str) ++ (List.range n).map fun y => (⟨Lib.join ((List.range n).map fun x => cellTextM (gx b.Cells (y * n + x))) [44]⟩ : Str)).map Str.b = (List.range n).map fun y => Lib.join ((List.range n).map fun x => cellTextM (gx b.Cells (y * n + x))) [44] := by rw [List.nil_append, List.map_map]; rfl
    have hle := join_le [59] ((List.range n).map fun y => Lib.join ((List.range n).map fun x => cellTextM (gx b.Cells (y * n + x))) [44]) 16 (fun z hz => by
      obtain ⟨y, _, rfl⟩ := List.mem_map.1 hz
      exact hrl y) (by simp)
    simp only [List.length_map, List.length_range] at hle
    simp only [Option.bind_some]
    unfold strings_Join
    rw [e, gd_pos ⟨by simp; omega, by simp only; omega⟩]
    simp only [Option.bind_some]
    rw [blk_rows (fun k => cellTextM (gx b.Cells k)) n1 n4, hl]

def entL (e : GEntry) : Str := ⟨((Lib.itoa e.Owner ++ [32]) ++ Lib.itoa e.Day) ++ [32] ++ blockTextM e.Block⟩
def roundL (g : GGuild) : Str := ⟨([114, 111, 117, 110, 100, 32] ++ Lib.itoa g.Round) ++ [47] ++ Lib.itoa (RoundsM g)⟩
def headL (g : GGuild) : List Str := [⟨lineL [109, 101, 109, 98, 101, 114, 115] (g.Members.map fun m => m.Number)⟩, ⟨lineL [115, 116, 111, 99, 107] g.Stock⟩]
def FormatGuildM (g : GGuild) : List Str := bif GuildOkM g then headL g ++ g.Entries.map entL ++ [roundL g, ⟨lineL [121, 101, 97, 114] [g.Year]⟩] else []
theorem guild_nums {g : GGuild} (h : GuildOkM g = true) : g.Members.length ≤ 40 ∧ g.Stock.length = 6 ∧ g.Entries.length ≤ 10 ∧ (∀ n ∈ g.Members.map (fun m => m.Number), 0 ≤ n ∧ n ≤ 1000000000) ∧ (∀ n ∈ g.Stock, 0 ≤ n ∧ n ≤ 1000000000) ∧ (∀ k, k < g.Entries.length → (0 ≤ (gx g.Entries k).Owner ∧ (gx g.Entries k).Owner ≤ 1000000000) ∧ (0 ≤ (gx g.Entries k).Day ∧ (gx g.Entries k).Day ≤ 1000000000)) ∧ (0 ≤ g.Round ∧ g.Round ≤ 1000000000) ∧ (0 ≤ RoundsM g ∧ RoundsM g ≤ 1000000000) ∧ 0 ≤ g.Year ∧ g.Year ≤ 1000000000 := by
  obtain ⟨m1, m2, m3, m4, m5⟩ := guild_parts h
  obtain ⟨sl, sb⟩ := stock_spec m2
  have rb := rounds_bound g
  have gr := guild_round h
  have gy := guild_year h
  refine ⟨memOk_len m1, sl, m4, fun n hn => ?_, fun n hn => ?_, fun k hk => ?_, by omega, by omega, by omega⟩
  · obtain ⟨m, hm, rfl⟩ := List.mem_map.1 hn
    simp only [MembersOkM, Bool.and_eq_true, List.all_eq_true, List.mem_range] at m1
    obtain ⟨k, hk, rfl⟩ := List.getElem_of_mem hm
    have := m1.1 k hk
    rw [← gx_lt hk]
    simp only [memP, Bool.and_eq_true] at this
    have := inR_iff.1 this.1.1.1
    omega
  · obtain ⟨k, hk, rfl⟩ := List.getElem_of_mem hn
    have := sb k (by omega)
    rw [← gx_lt hk]
    omega
  · simp only [GuildOkM, Bool.and_eq_true, List.all_eq_true, List.mem_range] at h
    have := h.1.2 k hk
    simp only [entP, EntryOkM, Bool.and_eq_true] at this
    have o := inR_iff.1 this.1.1.1.1
    have d := inR_iff.1 this.1.1.1.2
    omega

theorem impl_FormatGuild_eq {g : GGuild} (hg : GL g) : impl_FormatGuild g = some (FormatGuildM g) := by
  unfold impl_FormatGuild FormatGuildM
  rw [impl_GuildOk_eq g hg]
  simp only [Option.bind_some]
  cases h : GuildOkM g
  · rfl
  obtain ⟨ml, sl, el, hm, hs, he, ⟨r0, r1⟩, ⟨q0, q1⟩, y0, y1⟩ := guild_nums h
  have i1 := itoa_len r0 r1
  have i2 := itoa_len q0 q1
  simp only [Bool.not_true, cond_false, cond_true]
  rw [gd_pos (by omega), lpO_app (f := impl_FormatGuild_L1 g) (xs := []) (fun k => (gx g.Members k).Number) (fun k s hk hs => by
    unfold impl_FormatGuild_L1
    rw [gd_pos (by simp at hs; omega)]), map_gx (fun m : GMember => m.Number) g.Members, List.nil_append]
  simp only [Option.bind_some]
  rw [impl_lineOf_eq (by simp) hm (by simp; omega)]
  simp only [Option.bind_some]
  rw [impl_lineOf_eq (by simp) hs (by omega)]
  simp only [Option.bind_some]
  rw [show ([(⟨lineL [109, 101, 109, 98, 101, 114, 115] (g.Members.map fun m => m.Number)⟩ : Str), ⟨lineL [115, 116, 111, 99, 107] g.Stock⟩] : List Str) = headL g from rfl]
  rw [gd_pos (by omega), lpO_app (f := impl_FormatGuild_L2 g) (xs := headL g) (fun k => entL (gx g.Entries k)) (fun k s hk hs => by
    obtain ⟨⟨o0, o1⟩, d0, d1⟩ := he k hk
    have a1 := itoa_len o0 o1
    have a2 := itoa_len d0 d1
    have a3 := blockText_len (gx g.Entries k).Block
    have hsl : s.length ≤ 12 := by simp [headL] at hs; omega
    unfold impl_FormatGuild_L2
    rw [impl_FormatInt_b_eq o0 o1]
    simp only [Option.bind_some]
    rw [gd_pos (by simp only [List.length_cons, List.length_nil]; omega), impl_FormatInt_b_eq d0 d1]
    simp only [Option.bind_some]
    rw [gd_pos (by simp only [sadd, List.length_append, List.length_cons, List.length_nil]; omega), gd_pos (by simp only [sadd, List.length_append, List.length_cons, List.length_nil]; omega), impl_BlockText_eq]
    simp only [Option.bind_some]
    rw [gd_pos (by simp only [sadd, List.length_append, List.length_cons, List.length_nil]; omega), gd_pos (by omega)]
    rfl), map_gx entL g.Entries]
  simp only [Option.bind_some]
  rw [impl_FormatInt_b_eq r0 r1]
  simp only [Option.bind_some]
  rw [gd_pos (by simp only [List.length_cons, List.length_nil]; omega), gd_pos (by simp only [sadd, List.length_append, List.length_cons, List.length_nil]; omega), impl_SwapRounds_eq g hg.1]
  simp only [Option.bind_some]
  rw [impl_FormatInt_b_eq q0 q1]
  simp only [Option.bind_some]
  rw [gd_pos (by simp only [sadd, List.length_append, List.length_cons, List.length_nil]; omega), impl_lineOf_eq (by simp) (fun n hn => by rw [List.mem_singleton.1 hn]; exact ⟨y0, y1⟩) (by simp)]
  simp only [Option.bind_some]
  rw [gd_pos (by simp [headL]; omega)]
  rfl

theorem spec_FormatGuild_eq {g : GGuild} (hg : GL g) : spec_FormatGuild g = some (FormatGuildM g) := by
  unfold spec_FormatGuild FormatGuildM
  rw [spec_GuildOk_eq g hg]
  simp only [Option.bind_some]
  cases h : GuildOkM g
  · rfl
  obtain ⟨ml, sl, el, hm, hs, he, ⟨r0, r1⟩, ⟨q0, q1⟩, y0, y1⟩ := guild_nums h
  have i1 := itoa_len r0 r1
  have i2 := itoa_len q0 q1
  have i3 := itoa_len y0 y1
  have hmk : ∀ k, k < g.Members.length → 0 ≤ (gx g.Members k).Number ∧ (gx g.Members k).Number ≤ 1000000000 := fun k hk => hm _ (List.mem_map.2 ⟨_, gx_mem hk, rfl⟩)
  have hsk : ∀ k, k < g.Stock.length → 0 ≤ gx g.Stock k ∧ gx g.Stock k ≤ 1000000000 := fun k hk => hs _ (gx_mem hk)
  simp only [Bool.not_true, cond_false, cond_true]
  rw [gd_pos (by omega), line_loop (f := spec_FormatGuild_L1 g) (x := fun k => (gx g.Members k).Number) _ (by simp) hmk (by omega) (fun k s hk hs => by
    obtain ⟨h1, h2⟩ := hmk k hk
    have h3 := itoa_len h1 h2
    unfold spec_FormatGuild_L1
    rw [gd_pos (by simp only [List.length_cons, List.length_nil]; omega), spec_FormatInt_all h1 h2]
    simp only [Option.bind_some, sadd, List.length_append, List.length_cons, List.length_nil]
    rw [gd_pos (by omega)]), map_gx (fun m : GMember => m.Number) g.Members]
  simp only [Option.bind_some]
  rw [gd_pos (by omega), line_loop (f := spec_FormatGuild_L2 g) (x := fun k => gx g.Stock k) _ (by simp) hsk (by omega) (fun k s hk hs => by
    obtain ⟨h1, h2⟩ := hsk k hk
    have h3 := itoa_len h1 h2
    unfold spec_FormatGuild_L2
    rw [gd_pos (by simp only [List.length_cons, List.length_nil]; omega), spec_FormatInt_all h1 h2]
    simp only [Option.bind_some, sadd, List.length_append, List.length_cons, List.length_nil]
    rw [gd_pos (by omega)])]
  have hst : (List.range g.Stock.length).map (fun k => gx g.Stock k) = g.Stock := by
    have := map_gx id g.Stock
    simpa using this
  rw [hst]
  simp only [Option.bind_some]
  rw [show ([(⟨lineL [109, 101, 109, 98, 101, 114, 115] (g.Members.map fun m => m.Number)⟩ : Str), ⟨lineL [115, 116, 111, 99, 107] g.Stock⟩] : List Str) = headL g from rfl]
  rw [gd_pos (by omega), lpO_app (f := spec_FormatGuild_L3 g) (xs := headL g) (fun k => entL (gx g.Entries k)) (fun k s hk hs => by
    obtain ⟨⟨o0, o1⟩, d0, d1⟩ := he k hk
    have a1 := itoa_len o0 o1
    have a2 := itoa_len d0 d1
    have a3 := blockText_len (gx g.Entries k).Block
    have hb := sm_len (blockOk_sm ((guild_parts h).2.2.2.2 k hk))
    have hsl : s.length ≤ 12 := by simp [headL] at hs; omega
    unfold spec_FormatGuild_L3
    rw [spec_FormatInt_all o0 o1]
    simp only [Option.bind_some]
    rw [gd_pos (by simp only [List.length_cons, List.length_nil]; omega), spec_FormatInt_all d0 d1]
    simp only [Option.bind_some]
    rw [gd_pos (by simp only [sadd, List.length_append, List.length_cons, List.length_nil]; omega), gd_pos (by simp only [sadd, List.length_append, List.length_cons, List.length_nil]; omega), spec_BlockText_eq hb]
    simp only [Option.bind_some]
    rw [gd_pos (by simp only [sadd, List.length_append, List.length_cons, List.length_nil]; omega), gd_pos (by omega)]
    rfl), map_gx entL g.Entries]
  simp only [Option.bind_some]
  rw [spec_FormatInt_all r0 r1]
  simp only [Option.bind_some]
  rw [gd_pos (by simp only [List.length_cons, List.length_nil]; omega), gd_pos (by simp only [sadd, List.length_append, List.length_cons, List.length_nil]; omega), spec_SwapRounds_eq g hg.1]
  simp only [Option.bind_some]
  rw [spec_FormatInt_all q0 q1]
  simp only [Option.bind_some]
  rw [gd_pos (by simp only [sadd, List.length_append, List.length_cons, List.length_nil]; omega), spec_FormatInt_all y0 y1]
  simp only [Option.bind_some]
  rw [gd_pos (by simp only [List.length_cons, List.length_nil]; omega), gd_pos (by simp [headL]; omega)]
  simp [roundL, sadd, lineL, numsL]

theorem formatGuild_len {g : GGuild} (h : GuildOkM g = true) : (FormatGuildM g).length = g.Entries.length + 4 := by
  unfold FormatGuildM headL
  rw [h]
  simp

theorem formatGuild_short {g : GGuild} (h : GuildOkM g = true) : ∀ x ∈ FormatGuildM g, x.b.length ≤ 1048576 := fun x hx => by
  obtain ⟨ml, sl, el, hm, hs, he, ⟨r0, r1⟩, ⟨q0, q1⟩, y0, y1⟩ := guild_nums h
  have i1 := itoa_len r0 r1
  have i2 := itoa_len q0 q1
  unfold FormatGuildM headL at hx
  rw [h, cond_true] at hx
  simp only [List.mem_append, List.mem_cons, List.not_mem_nil, or_false, List.mem_map] at hx
  rcases hx with ((rfl | rfl) | ⟨e, hme, rfl⟩) | rfl | rfl
  · have := lineL_len (word := [109, 101, 109, 98, 101, 114, 115]) (by simp) hm (by simp; omega)
    show (lineL _ _).length ≤ _
    omega
  · have := lineL_len (word := [115, 116, 111, 99, 107]) (by simp) hs (by omega)
    show (lineL _ _).length ≤ _
    omega
  · obtain ⟨k, hk, rfl⟩ := List.getElem_of_mem hme
    obtain ⟨⟨o0, o1⟩, d0, d1⟩ := he k hk
    rw [← gx_lt hk]
    have a1 := itoa_len o0 o1
    have a2 := itoa_len d0 d1
    have a3 := blockText_len (gx g.Entries k).Block
    simp only [entL, List.length_append, List.length_cons, List.length_nil]
    omega
  · simp only [roundL, List.length_append, List.length_cons, List.length_nil]
    omega
  · have := lineL_len (word := [121, 101, 97, 114]) (ns := [g.Year]) (by simp) (fun n hn => by rw [List.mem_singleton.1 hn]; exact ⟨y0, y1⟩) (by simp)
    show (lineL _ _).length ≤ _
    omega

theorem same_FormatGuild (g : GGuild) (h : Sm.ok g) : ∃ w, spec_FormatGuild g = some w ∧ impl_FormatGuild g = some w ∧ Sm.ok w := by
  have hg := sm_GL h
  refine ⟨_, spec_FormatGuild_eq hg, impl_FormatGuild_eq hg, ?_⟩
  cases hk : GuildOkM g
  · have : FormatGuildM g = [] := by unfold FormatGuildM; rw [hk]; rfl
    rw [this]
    exact ⟨by simp, fun _ hx => by cases hx⟩
  · have h1 := formatGuild_len hk
    have h2 := (guild_parts hk).2.2.2.1
    exact ⟨by omega, fun x hx => formatGuild_short hk x hx⟩

theorem markText_ok {k : Int} (h0 : 0 ≤ k) (h1 : k ≤ 1000000000) : ∃ t, laws_markText k = some t := by
  unfold laws_markText
  by_cases hk : k ≤ 0
  · rw [decide_eq_true hk]; exact ⟨_, rfl⟩
  · rw [decide_eq_false hk, cond_false]
    obtain ⟨s, ⟨s1, s2⟩, es⟩ := wlO_down (f := laws_markText_L1) (fun s => 0 ≤ s.1 ∧ (s.2.b.length : Int) + s.1 ≤ 1000000000) (fun s => s.1.toNat) (fun s hs => by
      obtain ⟨s1, s2⟩ := hs
      unfold laws_markText_L1
      by_cases hp : s.1 > 0
      · left
        obtain ⟨m, hm⟩ := Int.eq_ofNat_of_zero_le s1
        have hd : s.1.tdiv 10 = ((m / 10 : Nat) : Int) := by rw [hm]; rfl
        rw [decide_eq_true hp, cond_true, gd_pos (by simp only [List.length_cons, List.length_nil]; omega)]
        refine ⟨_, ⟨?_, ?_⟩, ?_, rfl⟩
        · simp only [hd]; rw [wr_of (by omega) (by omega)]; omega
        · simp only [hd, sadd, List.length_append, List.length_cons, List.length_nil]; rw [wr_of (by omega) (by omega)]; omega
        · simp only [hd]; rw [wr_of (by omega) (by omega)]; omega
      · right
        rw [decide_eq_false hp, cond_false]
        exact ⟨s, ⟨s1, s2⟩, rfl⟩) (s := (k, ⟨[]⟩)) (fuel := 18446744073709551616) ⟨h0, by simp only [List.length_nil]; omega⟩ (by simp only; omega)
    rw [es]
    simp only [Option.bind_some]
    rw [gd_pos (by simp only [List.length_cons, List.length_nil]; omega)]
    exact ⟨_, rfl⟩
theorem mh_StringS (a : List Str) (j : Int) (hs : Sm.ok a) (h0 : 0 ≤ j) (h1 : j ≤ 1048576) : ∃ a' j', laws_markStringS a j = some (j', a') ∧ laws_heldStringS a' j = some j' ∧ a'.length = a.length ∧ j ≤ j' ∧ j' ≤ j + 1048576 := by
  have hl := sm_len hs
  have hst : ∀ k s i, k < a.length → s.length = a.length → gx s k = gx a k → j ≤ i → i + 1 ≤ j + 1048576 → ∃ e j', laws_markStringS_L1 k (s, i) = some (.next (s.set k e, j')) ∧ i ≤ j' ∧ j' ≤ i + 1 ∧ (fun e p q => ∀ l n, gx l n = e → laws_heldStringS_L1 l n p = some (.next q)) e i j' := fun k s i hk hl' hg g0 g1 => by
    have e0 : wr (i + 1) = i + 1 := wr_of (by omega) (by omega)
    obtain ⟨t, ht⟩ := markText_ok (k := i) (by omega) (by omega)
    exact ⟨t, i + 1, by simp only [laws_markStringS_L1, ht, e0, Option.bind_some], by omega, by omega, fun l n he => by
      simp only [laws_heldStringS_L1, ht, he, e0, seq_self, Bool.not_true, cond_false, Option.bind_some]⟩
  obtain ⟨a', js, q1, q2, q3, q4, q5, q6⟩ := mark_list (f := laws_markStringS_L1) a j 1 (j + 1048576) (fun e p q => ∀ l n, gx l n = e → laws_heldStringS_L1 l n p = some (.next q)) (by decide) (by omega) hst
  refine ⟨a', js a.length, ?_, ?_, q2, q4, by omega⟩
  · unfold laws_markStringS; rw [gd_pos (by omega), q1]; rfl
  · unfold laws_heldStringS; rw [gd_pos (by omega), q2, held_list (f := laws_heldStringS_L1 a') (N := a.length) js q3 (fun k hk => (q6 k hk).1 a' k rfl)]; rfl

theorem p_FnExactFormatGuild (a0 : GGuild) (f0 : Fit.ok a0) : laws_FnExactFormatGuild a0 = some true := by
  unfold laws_FnExactFormatGuild
  obtain ⟨r0, hr0, hc0⟩ := sz_Guild a0 1048576 (by omega) (by omega) f0
  rcases hc0 with hc0 | ⟨s0, u0, w0⟩
  · simp [hr0, hc0]
  have n0 : ¬ r0 < 0 := by omega
  obtain ⟨w, hs, hi, q0⟩ := same_FormatGuild a0 s0
  obtain ⟨ba0_0, ba0_1, ba0_2, ba0_3, ka0, ma0, la0, ha0⟩ := mk_Guild a0 1 s0 (by omega) (by omega)
  have da : ¬ ka0 < 0 := by omega
  obtain ⟨bw0_0, kw0, mw0, xw0, nw0, lw0, hw0⟩ := mh_StringS w 1 q0 (by omega) (by omega)
  have dw0 : ¬ kw0 < 0 := by omega
  simp [hr0, n0, to_Guild a0 s0, eq_Guild a0 s0, hs, hi, eq_StringS w q0, ma0, mw0, xw0, da, dw0]
end Go.Proofs.YtkahnmhkfmjomacGreatDoor
