/-
  The plain laws: what the functions compute, in Lean alone.
-/
import Derived.Test.YtgimnmlcdidcdagPure
namespace Go.Proofs.Ytgimnmlcdidcdag
open Go

theorem gd_pos {α : Type} {p : Prop} [Decidable p] (h : p) (t : Option α) : gd p t = t := by simp [gd, h]
@[simp] theorem sq_inl {J C : Type} (j : J) (k : J → Option C) : sq (some (.inl j)) k = k j := rfl
@[simp] theorem sq_inr {J C : Type} (c : C) (k : J → Option C) : sq (some (.inr c)) k = some c := rfl

section
variable {S C : Type} {f : Nat → S → Option (Res S C)} {N : Nat}
theorem forO_at (st : Nat → S) (h : ∀ k, k < N → f k (st k) = some (.next (st (k + 1)))) : ∀ m k, k + m = N → forO f m k (st k) = some (.inl (st N))
  | 0, k, e => by simp at e; subst e; rfl
  | m + 1, k, e => by
    rw [forO, h k (by omega)]
    exact forO_at st h m (k + 1) (by omega)
theorem forO_st (st : Nat → S) {s0 : S} (h0 : s0 = st 0) (h : ∀ k, k < N → f k (st k) = some (.next (st (k + 1)))) : forO f N 0 s0 = some (.inl (st N)) := by
  rw [h0]; exact forO_at st h N 0 (by omega)
theorem forO_upto (st : Nat → S) (K : Nat) (hK : K < N) (h : ∀ k, k < K → f k (st k) = some (.next (st (k + 1)))) : ∀ m k, k + m = N → k ≤ K → forO f m k (st k) = forO f (N - K) K (st K)
  | 0, k, e, hk => by omega
  | m + 1, k, e, hk => by
    rcases Nat.lt_or_ge k K with hlt | hge
    · rw [forO, h k hlt]
      exact forO_upto st K hK h m (k + 1) (by omega) (by omega)
    · have : k = K := by omega
      subst this
      rw [show N - k = m + 1 by omega]
theorem forO_retAt (st : Nat → S) {s0 : S} (h0 : s0 = st 0) (K : Nat) (hK : K < N) (h : ∀ k, k < K → f k (st k) = some (.next (st (k + 1)))) {c : C} (hr : f K (st K) = some (.ret c)) : forO f N 0 s0 = some (.inr c) := by
  rw [h0, forO_upto st K hK h N 0 (by omega) (by omega), show N - K = (N - K - 1) + 1 by omega, forO, hr]; rfl
theorem forO_brkAt (st : Nat → S) {s0 : S} (h0 : s0 = st 0) (K : Nat) (hK : K < N) (h : ∀ k, k < K → f k (st k) = some (.next (st (k + 1)))) {s' : S} (hr : f K (st K) = some (.brk s')) : forO f N 0 s0 = some (.inl s') := by
  rw [h0, forO_upto st K hK h N 0 (by omega) (by omega), show N - K = (N - K - 1) + 1 by omega, forO, hr]; rfl
/-- A loop that looks for the first place where p fails. -/
theorem forO_all (p : Nat → Bool) {s : S} {c : C} (h : ∀ k, k < N → f k s = some (bif p k then .next s else .ret c)) : forO f N 0 s = some (bif (List.range N).all p then .inl s else .inr c) := by
  cases ha : (List.range N).all p with
  | true =>
    rw [List.all_eq_true] at ha
    exact forO_st (fun _ => s) rfl fun k hk => by rw [h k hk, ha k (by simpa using hk)]; rfl
  | false =>
    have : ∃ k, k < N ∧ p k = false := by
      rw [List.all_eq_false] at ha
      obtain ⟨k, hk, hp⟩ := ha
      exact ⟨k, by simpa using hk, by simpa using hp⟩
    have hmin : ∃ k, k < N ∧ p k = false ∧ ∀ j, j < k → p j = true := by
      obtain ⟨k, hk, hp⟩ := this
      induction k using Nat.strongRecOn with
      | _ k ih =>
        by_cases hx : ∃ j, j < k ∧ p j = false
        · obtain ⟨j, hj, hpj⟩ := hx
          exact ih j hj (by omega) hpj
        · refine ⟨k, hk, hp, fun j hj => ?_⟩
          cases hpj : p j with
          | true => rfl
          | false => exact absurd ⟨j, hj, hpj⟩ hx
    obtain ⟨k, hk, hp, hall⟩ := hmin
    exact forO_retAt (fun _ => s) rfl k hk (fun j hj => by rw [h j (by omega), hall j hj]; rfl) (by rw [h k hk, hp]; rfl)
/-- A loop that returns at the first place where p holds. -/
theorem forO_find (p : Nat → Bool) {s : S} (c : Nat → C) (h : ∀ k, k < N → f k s = some (bif p k then .ret (c k) else .next s)) : forO f N 0 s = some (match (List.range N).find? p with | some k => .inr (c k) | none => .inl s) := by
  cases ha : (List.range N).find? p with
  | none =>
    rw [List.find?_eq_none] at ha
    exact forO_st (fun _ => s) rfl fun k hk => by
      rw [h k hk]
      have := ha k (by simpa using hk)
      simp at this
      rw [this]; rfl
  | some K =>
    have hp := List.find?_some ha
    have hK : K < N := by simpa using List.mem_of_find?_eq_some ha
    refine forO_retAt (fun _ => s) rfl K hK (fun j hj => ?_) (by rw [h K hK, hp]; rfl)
    rw [h j (by omega)]
    have : p j = false := by
      rw [List.find?_range_eq_some] at ha
      simpa using ha.2.2 j hj
    rw [this]; rfl
end
section
variable {S : Type} {f : Nat → S → Option (Res S Empty)} {N : Nat}
theorem lpO_st (st : Nat → S) {s0 : S} (h0 : s0 = st 0) (h : ∀ k, k < N → f k (st k) = some (.next (st (k + 1)))) : lpO f N s0 = some (st N) := by
  unfold lpO; rw [forO_st st h0 h]; rfl
/-- A state that each round turns by g. -/
def fold {S : Type} (g : Nat → S → S) (s0 : S) : Nat → S
  | 0 => s0
  | n + 1 => g n (fold g s0 n)
theorem lpO_fold (g : Nat → S → S) {s0 : S} (h : ∀ k, k < N → f k (fold g s0 k) = some (.next (g k (fold g s0 k)))) : lpO f N s0 = some (fold g s0 N) :=
  lpO_st (fold g s0) rfl h
end
section
variable {α : Type} {f : Nat → List α → Option (Res (List α) Empty)} {N : Nat}
theorem lpO_app (F : Nat → α) {xs : List α} (h : ∀ k s, k < N → s.length = xs.length + k → f k s = some (.next (s ++ [F k]))) : lpO f N xs = some (xs ++ (List.range N).map F) :=
  lpO_st (fun k => xs ++ (List.range k).map F) (by simp) fun k hk => by
    rw [h k _ hk (by simp)]
    simp [List.range_succ]
theorem lpO_filter (p : Nat → Bool) (F : Nat → α) {xs : List α} (h : ∀ k s, k < N → s.length ≤ xs.length + k → f k s = some (.next (bif p k then s ++ [F k] else s))) : lpO f N xs = some (xs ++ ((List.range N).filter p).map F) :=
  lpO_st (fun k => xs ++ ((List.range k).filter p).map F) (by simp) fun k hk => by
    rw [h k _ hk (by
      have := List.length_filter_le p (List.range k)
      simp at this ⊢; omega)]
    cases hp : p k <;> simp [List.range_succ, List.filter_append, hp]
theorem lpO_cat (F : Nat → List α) {xs : List α} (h : ∀ k s, k < N → s = xs ++ (List.range k).flatMap F → f k s = some (.next (s ++ F k))) : lpO f N xs = some (xs ++ (List.range N).flatMap F) :=
  lpO_st (fun k => xs ++ (List.range k).flatMap F) (by simp) fun k hk => by
    rw [h k _ hk rfl]
    simp [List.range_succ]
end
theorem map_gx {α β : Type} [Rep α] (F : α → β) (xs : List α) : (List.range xs.length).map (fun k => F (gx xs k)) = xs.map F := by
  apply List.ext_getElem
  · simp
  · intro i h1 h2
    simp at h1
    simp [gx, List.getD, h1]
theorem all_gx {α : Type} [Rep α] (F : α → Bool) (xs : List α) : (List.range xs.length).all (fun k => F (gx xs k)) = xs.all F := by
  have := map_gx F xs
  calc (List.range xs.length).all (fun k => F (gx xs k)) = ((List.range xs.length).map (fun k => F (gx xs k))).all id := by simp [List.all_map]
    _ = xs.all F := by rw [this]; simp [List.all_map]
theorem gx_lt {α : Type} [Rep α] {xs : List α} {k : Nat} (h : k < xs.length) : gx xs k = xs[k] := by simp [gx, List.getD, h]
theorem gx_mem {α : Type} [Rep α] {xs : List α} {k : Nat} (h : k < xs.length) : gx xs k ∈ xs := by rw [gx_lt h]; exact List.getElem_mem h
theorem wr_of {n : Int} (h1 : -4611686018427387904 ≤ n) (h2 : n ≤ 4611686018427387904) : wr n = n := wr_id (by omega) (by omega)

/-- What is small enough for all bounds. -/
class Sm (α : Type) where
  ok : α → Prop
instance : Sm Int := ⟨fun _ => True⟩
instance : Sm Bool := ⟨fun _ => True⟩
instance : Sm Str := ⟨fun s => s.b.length ≤ 1048576⟩
instance (α : Type) [Sm α] : Sm (List α) := ⟨fun xs => xs.length ≤ 1048576 ∧ ∀ x ∈ xs, Sm.ok x⟩
theorem sm_len {α : Type} [Sm α] {xs : List α} (h : Sm.ok xs) : xs.length ≤ 1048576 := h.1
theorem sm_gx {α : Type} [Sm α] [Rep α] {xs : List α} (h : Sm.ok xs) {k : Nat} (hk : k < xs.length) : Sm.ok (gx xs k) := h.2 _ (gx_mem hk)
theorem sm_ints {xs : List Int} (h : xs.length ≤ 1048576) : Sm.ok xs := ⟨h, fun _ _ => trivial⟩

theorem gx_set_ne {α : Type} [Rep α] {xs : List α} {k j : Nat} {e : α} (h : j ≠ k) : gx (xs.set k e) j = gx xs j := by
  simp [gx, List.getD, List.getElem?_set_ne (Ne.symm h)]
theorem gx_ext {α : Type} [Rep α] {xs ys : List α} (hl : xs.length = ys.length) (h : ∀ k, k < xs.length → gx xs k = gx ys k) : xs = ys := by
  apply List.ext_getElem hl
  intro i h1 h2
  have := h i h1
  rwa [gx_lt h1, gx_lt h2] at this

theorem to_list {α : Type} [Rep α] {f : Nat → List α → Option (Res (List α) Empty)} (a : List α) (z : α) (h : ∀ k s, k < a.length → s.length = a.length → f k s = some (.next (s.set k (gx a k)))) : lpO f a.length (List.replicate a.length z) = some a := by
  have := lpO_st (f := f) (N := a.length) (fun k => a.take k ++ List.replicate (a.length - k) z) (s0 := List.replicate a.length z) (by simp) fun k hk => by
    rw [h k _ hk (by simp; omega)]
    congr 2
    apply List.ext_getElem
    · simp; omega
    · intro i h1 h2
      rw [List.getElem_set]
      split
      · rename_i e; subst e
        rw [gx_lt hk, List.getElem_append_left (by simp; omega)]
        simp
      · rename_i hne
        rcases Nat.lt_or_ge i k with hi | hi
        · rw [List.getElem_append_left (by simp; omega), List.getElem_append_left (by simp; omega)]; simp
        · rw [List.getElem_append_right (by simp; omega), List.getElem_append_right (by simp; omega)]; simp
  simpa using this
theorem all_next {C : Type} {f : Nat → Unit → Option (Res Unit C)} {N : Nat} (h : ∀ k, k < N → f k () = some (.next ())) : forO f N 0 () = some (.inl ()) := forO_st (fun _ => ()) rfl h

theorem mark_list {α : Type} [Rep α] {f : Nat → List α × Int → Option (Res (List α × Int) Empty)} (a : List α) (j0 B M : Int) (R : α → Int → Int → Prop) (hB : 0 ≤ B) (hM : j0 + B * a.length ≤ M)
    (h : ∀ k s j, k < a.length → s.length = a.length → gx s k = gx a k → j0 ≤ j → j + B ≤ M → ∃ e j', f k (s, j) = some (.next (s.set k e, j')) ∧ j ≤ j' ∧ j' ≤ j + B ∧ R e j j') :
    ∃ (a' : List α) (js : Nat → Int), lpO f a.length (a, j0) = some (a', js a.length) ∧ a'.length = a.length ∧ js 0 = j0 ∧ j0 ≤ js a.length ∧ js a.length ≤ j0 + B * a.length ∧ ∀ k, k < a.length → R (gx a' k) (js k) (js (k + 1)) ∧ j0 ≤ js k := by
  have key : ∀ m k (s : List α) (j : Int), k + m = a.length → s.length = a.length → (∀ i, k ≤ i → i < a.length → gx s i = gx a i) → j0 ≤ j → j ≤ j0 + B * k →
      ∃ (a' : List α) (js : Nat → Int), forO f m k (s, j) = some (.inl (a', js a.length)) ∧ a'.length = a.length ∧ js k = j ∧ j ≤ js a.length ∧ js a.length ≤ j0 + B * a.length ∧ (∀ i, i < k → gx a' i = gx s i) ∧ ∀ i, k ≤ i → i < a.length → R (gx a' i) (js i) (js (i + 1)) ∧ j ≤ js i := by
    intro m
    induction m with
    | zero =>
      intro k s j hk hl _ h0 h1
      have e : k = a.length := by omega
      subst e
      exact ⟨s, fun _ => j, rfl, hl, rfl, Int.le_refl _, h1, fun _ _ => rfl, fun i h1 h2 => by omega⟩
    | succ m ih =>
      intro k s j hk hl hs h0 h1
      have hle : B * (k : Int) + B ≤ B * a.length := by
        have : (k : Int) + 1 ≤ a.length := by omega
        have := Int.mul_le_mul_of_nonneg_left this hB
        rw [Int.mul_add, Int.mul_one] at this
        exact this
      obtain ⟨e, j', hf, g1, g2, hR⟩ := h k s j (by omega) hl (hs k (Nat.le_refl _) (by omega)) h0 (by omega)
      obtain ⟨a', js, i1, i2, i3, i3', i4, i5, i6⟩ := ih (k + 1) (s.set k e) j' (by omega) (by simpa using hl) (fun i h1 h2 => by rw [gx_set_ne (by omega)]; exact hs i (by omega) h2) (by omega) (by
        have e1 : B * ((k + 1 : Nat) : Int) = B * k + B := by rw [Int.natCast_add, Int.mul_add]; simp
        rw [e1]; omega)
      refine ⟨a', fun i => if i = k then j else js i, ?_, i2, by simp, ?_, ?_, fun i hi => ?_, fun i h1 h2 => ?_⟩
      · rw [forO, hf]
        have hne : a.length ≠ k := by omega
        simp only [Option.bind_some, hne, if_false]
        exact i1
      · have hne : a.length ≠ k := by omega
        simp only [hne, if_false]
        omega
      · have hne : a.length ≠ k := by omega
        simp only [hne, if_false]
        exact i4
      · rw [i5 i (by omega), gx_set_ne (by omega)]
      · rcases Nat.eq_or_lt_of_le h1 with e1 | e1
        · subst e1
          have hne : k + 1 ≠ k := by omega
          simp only [if_true, hne, if_false]
          rw [i3, i5 k (by omega), gx_set (by omega)]
          exact ⟨hR, Int.le_refl _⟩
        · have n1 : i ≠ k := by omega
          have n2 : i + 1 ≠ k := by omega
          simp only [n1, n2, if_false]
          obtain ⟨q1, q2⟩ := i6 i (by omega) h2
          exact ⟨q1, by omega⟩
  obtain ⟨a', js, i1, i2, i3, i3', i4, _, i6⟩ := key a.length 0 a j0 (by omega) rfl (fun _ _ _ => rfl) (Int.le_refl _) (by simp)
  refine ⟨a', js, ?_, i2, i3, i3', i4, fun k hk => i6 k (Nat.zero_le _) hk⟩
  unfold lpO
  rw [i1]; rfl
theorem held_list {C : Type} {f : Nat → Int → Option (Res Int C)} {N : Nat} (js : Nat → Int) {j0 : Int} (h0 : js 0 = j0) (h : ∀ k, k < N → f k (js k) = some (.next (js (k + 1)))) : forO f N 0 j0 = some (.inl (js N)) := forO_st js h0.symm h
/-- Sizes: each round takes off what an element has, or ends. -/
theorem size_list {f : Nat → Int → Option (Res Int Int)} {N : Nat} (P : Nat → Prop) (l : Int) (h : ∀ k j, k < N → 0 ≤ j → j ≤ l → (f k j = some (.ret (-1))) ∨ ∃ j', f k j = some (.next j') ∧ 0 ≤ j' ∧ j' ≤ j ∧ P k) (hl : 0 ≤ l) :
    forO f N 0 l = some (.inr (-1)) ∨ ∃ j, forO f N 0 l = some (.inl j) ∧ 0 ≤ j ∧ j ≤ l ∧ ∀ k, k < N → P k := by
  have key : ∀ m k j, k + m = N → 0 ≤ j → j ≤ l → (∀ i, i < k → P i) → forO f m k j = some (.inr (-1)) ∨ ∃ j', forO f m k j = some (.inl j') ∧ 0 ≤ j' ∧ j' ≤ l ∧ ∀ i, i < N → P i := by
    intro m
    induction m with
    | zero => intro k j hk h0 h1 hP; exact .inr ⟨j, rfl, h0, h1, fun i hi => hP i (by omega)⟩
    | succ m ih =>
      intro k j hk h0 h1 hP
      rcases h k j (by omega) h0 h1 with hr | ⟨j', hr, g1, g2, g3⟩
      · left; rw [forO, hr]; rfl
      · rw [forO, hr]
        exact ih (k + 1) j' (by omega) g1 (by omega) (fun i hi => by
          rcases Nat.lt_or_ge i k with h | h
          · exact hP i h
          · have : i = k := by omega
            subst this; exact g3)
  exact key N 0 l (by omega) hl (Int.le_refl _) (fun i hi => by omega)
theorem all_of_gx {α : Type} [Rep α] {xs : List α} {P : α → Prop} (h : ∀ k, k < xs.length → P (gx xs k)) : ∀ x ∈ xs, P x := fun x hx => by
  obtain ⟨i, hi, rfl⟩ := List.getElem_of_mem hx
  have := h i hi
  rwa [gx_lt hi] at this

-- type GCell
instance : Sm GCell := ⟨fun _ => True⟩

@[simp] theorem to_Cell (a : GCell) : laws_toCell a = some a := by cases a; rfl

@[simp] theorem eq_Cell (a : GCell) : laws_eqCell a a = some true := by simp [laws_eqCell]

theorem to_CellS (a : List GCell) (hs : Sm.ok a) : laws_toCellS a = some a := by
  have hl := sm_len hs
  unfold laws_toCellS
  rw [gd_pos (by omega), gd_pos (by omega), to_list (f := laws_toCellS_L1 a) a _ (fun k s hk hl' => by
    simp only [laws_toCellS_L1, to_Cell, Option.bind_some]
    rw [gd_pos (by omega)])]
  rfl

theorem eq_CellS (a : List GCell) (hs : Sm.ok a) : laws_eqCellS a a = some true := by
  have hl := sm_len hs
  unfold laws_eqCellS
  simp only [bne_self_eq_false, cond_false]
  rw [gd_pos (by omega), all_next (f := laws_eqCellS_L1 a a) (fun k hk => by
    simp only [laws_eqCellS_L1, eq_Cell (gx a k), Option.bind_some]
    rw [gd_pos hk]; rfl)]
  rfl

theorem sz_CellS (a : List GCell) (l : Int) (h0 : 0 ≤ l) (h1 : l ≤ 1048576) (hf : a.length ≤ maxLen) : ∃ r, laws_szCellS a l = some r ∧ (r < 0 ∨ (Sm.ok a ∧ 0 ≤ r ∧ r ≤ l)) := by
  unfold maxLen at hf
  have e : wr (l - (a.length : Int)) = l - (a.length : Int) := wr_id (by omega) (by omega)
  unfold laws_szCellS
  rw [e]
  by_cases h : l - (a.length : Int) < 0
  · exact ⟨-1, by simp [h], .inl (by omega)⟩
  · exact ⟨l - (a.length : Int), by simp [h], .inr ⟨⟨by omega, fun _ _ => trivial⟩, by omega, by omega⟩⟩

-- type GBlock
instance : Sm GBlock := ⟨fun x => Sm.ok x.Cells⟩

theorem to_Block (a : GBlock) (hs : Sm.ok a) : laws_toBlock a = some a := by simp only [laws_toBlock, to_CellS a.Cells hs, Option.bind_some]

theorem eq_Block (a : GBlock) (hs : Sm.ok a) : laws_eqBlock a a = some true := by simp only [laws_eqBlock, bne_self_eq_false, cond_false, Option.bind_some, Bool.not_true, eq_CellS a.Cells hs]

theorem sz_Block (a : GBlock) (l : Int) (h0 : 0 ≤ l) (h1 : l ≤ 1048576) (hf : Fit.ok a) : ∃ r, laws_szBlock a l = some r ∧ (r < 0 ∨ (Sm.ok a ∧ 0 ≤ r ∧ r ≤ l)) := by
  obtain ⟨f0, f1⟩ := hf
  unfold laws_szBlock
  obtain ⟨r0, hr0, hc0⟩ := sz_CellS a.Cells l (by omega) (by omega) f1.1
  rcases hc0 with hc0 | ⟨s0, u0, w0⟩
  · exact ⟨-1, by simp [hr0, hc0], .inl (by omega)⟩
  have p0 : ¬ r0 < 0 := by omega
  exact ⟨r0, by simp [hr0, p0], .inr ⟨s0, by omega, by omega⟩⟩

-- type GSpot
instance : Sm GSpot := ⟨fun _ => True⟩

@[simp] theorem to_Spot (a : GSpot) : laws_toSpot a = some a := by cases a; rfl

@[simp] theorem eq_Spot (a : GSpot) : laws_eqSpot a a = some true := by simp [laws_eqSpot]

theorem to_SpotS (a : List GSpot) (hs : Sm.ok a) : laws_toSpotS a = some a := by
  have hl := sm_len hs
  unfold laws_toSpotS
  rw [gd_pos (by omega), gd_pos (by omega), to_list (f := laws_toSpotS_L1 a) a _ (fun k s hk hl' => by
    simp only [laws_toSpotS_L1, to_Spot, Option.bind_some]
    rw [gd_pos (by omega)])]
  rfl

theorem eq_SpotS (a : List GSpot) (hs : Sm.ok a) : laws_eqSpotS a a = some true := by
  have hl := sm_len hs
  unfold laws_eqSpotS
  simp only [bne_self_eq_false, cond_false]
  rw [gd_pos (by omega), all_next (f := laws_eqSpotS_L1 a a) (fun k hk => by
    simp only [laws_eqSpotS_L1, eq_Spot (gx a k), Option.bind_some]
    rw [gd_pos hk]; rfl)]
  rfl

theorem sz_SpotS (a : List GSpot) (l : Int) (h0 : 0 ≤ l) (h1 : l ≤ 1048576) (hf : a.length ≤ maxLen) : ∃ r, laws_szSpotS a l = some r ∧ (r < 0 ∨ (Sm.ok a ∧ 0 ≤ r ∧ r ≤ l)) := by
  unfold maxLen at hf
  have e : wr (l - (a.length : Int)) = l - (a.length : Int) := wr_id (by omega) (by omega)
  unfold laws_szSpotS
  rw [e]
  by_cases h : l - (a.length : Int) < 0
  · exact ⟨-1, by simp [h], .inl (by omega)⟩
  · exact ⟨l - (a.length : Int), by simp [h], .inr ⟨⟨by omega, fun _ _ => trivial⟩, by omega, by omega⟩⟩

-- type GQuilt
instance : Sm GQuilt := ⟨fun x => Sm.ok x.Spots⟩

theorem to_Quilt (a : GQuilt) (hs : Sm.ok a) : laws_toQuilt a = some a := by simp only [laws_toQuilt, to_SpotS a.Spots hs, Option.bind_some]

theorem eq_Quilt (a : GQuilt) (hs : Sm.ok a) : laws_eqQuilt a a = some true := by simp only [laws_eqQuilt, bne_self_eq_false, cond_false, Option.bind_some, Bool.not_true, eq_SpotS a.Spots hs]

theorem sz_Quilt (a : GQuilt) (l : Int) (h0 : 0 ≤ l) (h1 : l ≤ 1048576) (hf : Fit.ok a) : ∃ r, laws_szQuilt a l = some r ∧ (r < 0 ∨ (Sm.ok a ∧ 0 ≤ r ∧ r ≤ l)) := by
  obtain ⟨f0, f1, f2⟩ := hf
  unfold laws_szQuilt
  obtain ⟨r0, hr0, hc0⟩ := sz_SpotS a.Spots l (by omega) (by omega) f2.1
  rcases hc0 with hc0 | ⟨s0, u0, w0⟩
  · exact ⟨-1, by simp [hr0, hc0], .inl (by omega)⟩
  have p0 : ¬ r0 < 0 := by omega
  exact ⟨r0, by simp [hr0, p0], .inr ⟨s0, by omega, by omega⟩⟩

theorem to_BlockS (a : List GBlock) (hs : Sm.ok a) : laws_toBlockS a = some a := by
  have hl := sm_len hs
  unfold laws_toBlockS
  rw [gd_pos (by omega), gd_pos (by omega), to_list (f := laws_toBlockS_L1 a) a _ (fun k s hk hl' => by
    simp only [laws_toBlockS_L1, to_Block (gx a k) (sm_gx hs hk), Option.bind_some]
    rw [gd_pos (by omega)])]
  rfl

theorem eq_BlockS (a : List GBlock) (hs : Sm.ok a) : laws_eqBlockS a a = some true := by
  have hl := sm_len hs
  unfold laws_eqBlockS
  simp only [bne_self_eq_false, cond_false]
  rw [gd_pos (by omega), all_next (f := laws_eqBlockS_L1 a a) (fun k hk => by
    simp only [laws_eqBlockS_L1, eq_Block (gx a k) (sm_gx hs hk), Option.bind_some]
    rw [gd_pos hk]; rfl)]
  rfl

theorem sz_BlockS (a : List GBlock) (l : Int) (h0 : 0 ≤ l) (h1 : l ≤ 1048576) (hf : Fit.ok a) : ∃ r, laws_szBlockS a l = some r ∧ (r < 0 ∨ (Sm.ok a ∧ 0 ≤ r ∧ r ≤ l)) := by
  have hf1 := hf.1
  unfold maxLen at hf1
  have e : wr (l - (a.length : Int)) = l - (a.length : Int) := wr_id (by omega) (by omega)
  unfold laws_szBlockS
  rw [e]
  by_cases h : l - (a.length : Int) < 0
  · exact ⟨-1, by simp [h], .inl (by omega)⟩
  · simp only [h, decide_false, cond_false]
    rw [gd_pos (by omega)]
    rcases size_list (f := laws_szBlockS_L1 a) (N := a.length) (fun k => Sm.ok (gx a k)) (l - (a.length : Int)) (fun k j hk g0 g1 => by
      obtain ⟨r, hr, hc⟩ := sz_Block (gx a k) j g0 (by omega) (hf.2 _ (gx_mem hk))
      simp only [laws_szBlockS_L1, hr, Option.bind_some]
      rcases hc with hc | ⟨c1, c2, c3⟩
      · left; simp [hc]
      · right
        have : ¬ r < 0 := by omega
        exact ⟨r, by simp [this], c2, c3, c1⟩) (by omega) with hr | ⟨j, hr, g0, g1, g2⟩
    · exact ⟨-1, by rw [hr]; rfl, .inl (by omega)⟩
    · exact ⟨j, by rw [hr]; rfl, .inr ⟨⟨by omega, all_of_gx g2⟩, g0, by omega⟩⟩

def inR (x a b : Int) : Bool := decide (x ≥ a) && decide (x ≤ b)
theorem inR_iff {x a b : Int} : inR x a b = true ↔ a ≤ x ∧ x ≤ b := by simp [inR]
theorem inR_not {x a b : Int} : inR x a b = false ↔ ¬(a ≤ x ∧ x ≤ b) := by rw [← inR_iff]; simp

@[simp] theorem l01In_eq (x a b : Int) : spec_l01In x a b = some (inR x a b) := rfl

@[simp] theorem within_eq (x a b : Int) : impl_within x a b = some (inR x a b) := rfl

@[simp] theorem isColor_eq (a : Int) : impl_isColor a = some (inR a 0 5) := rfl

def CellOkM (c : GCell) : Bool := inR c.Split 0 2 && inR c.A 0 5 && inR c.B 0 5 && ((c.Split == 0) == (c.A == c.B))

@[simp] theorem spec_CellOk_eq (c : GCell) : spec_CellOk c = some (CellOkM c) := by
  unfold spec_CellOk CellOkM
  simp only [l01In_eq, Option.bind_some]
  cases inR c.Split 0 2 <;> cases inR c.A 0 5 <;> cases inR c.B 0 5 <;> simp

@[simp] theorem impl_CellOk_eq (c : GCell) : impl_CellOk c = some (CellOkM c) := by
  unfold impl_CellOk CellOkM
  simp only [within_eq, isColor_eq, Option.bind_some]
  cases inR c.Split 0 2 <;> cases inR c.A 0 5 <;> cases inR c.B 0 5 <;> simp

theorem cellOk_spec {c : GCell} (h : CellOkM c = true) : 0 ≤ c.Split ∧ c.Split ≤ 2 ∧ 0 ≤ c.A ∧ c.A ≤ 5 ∧ 0 ≤ c.B ∧ c.B ≤ 5 ∧ (c.Split = 0 ↔ c.A = c.B) := by
  simp only [CellOkM, Bool.and_eq_true, inR_iff, beq_iff_eq] at h
  obtain ⟨⟨⟨⟨h1, h2⟩, h3, h4⟩, h5, h6⟩, h7⟩ := h
  refine ⟨h1, h2, h3, h4, h5, h6, ?_⟩
  have e1 : (c.Split == 0) = decide (c.Split = 0) := by cases h : c.Split == 0 <;> simp_all
  have e2 : (c.A == c.B) = decide (c.A = c.B) := by cases h : c.A == c.B <;> simp_all
  rw [e1, e2] at h7
  constructor
  · intro h; simp [h] at h7; exact h7
  · intro h; simp [h] at h7; exact h7
theorem cellOk_of {c : GCell} (h1 : 0 ≤ c.Split) (h2 : c.Split ≤ 2) (h3 : 0 ≤ c.A) (h4 : c.A ≤ 5) (h5 : 0 ≤ c.B) (h6 : c.B ≤ 5) (h7 : c.Split = 0 ↔ c.A = c.B) : CellOkM c = true := by
  have e1 : inR c.Split 0 2 = true := inR_iff.2 ⟨h1, h2⟩
  have e2 : inR c.A 0 5 = true := inR_iff.2 ⟨h3, h4⟩
  have e3 : inR c.B 0 5 = true := inR_iff.2 ⟨h5, h6⟩
  unfold CellOkM
  rw [e1, e2, e3]
  by_cases h : c.Split = 0
  · have := h7.1 h; simp [h, this]
  · have : ¬ c.A = c.B := fun e => h (h7.2 e)
    have q1 : (c.Split == 0) = false := beq_eq_false_iff_ne.2 h
    have q2 : (c.A == c.B) = false := beq_eq_false_iff_ne.2 this
    rw [q1, q2]; rfl

/-- Row by row. -/
def cellsM {α : Type} (h w : Nat) (F : Nat → Nat → α) : List α := (List.range h).flatMap fun y => (List.range w).map fun x => F y x
theorem cellsM_length {α : Type} (h w : Nat) (F : Nat → Nat → α) : (cellsM h w F).length = h * w := by
  induction h with
  | zero => simp [cellsM]
  | succ h ih =>
    unfold cellsM at ih ⊢
    rw [List.range_succ, List.flatMap_append, List.length_append, ih]
    simp [Nat.add_mul]
theorem cellsM_succ {α : Type} (h w : Nat) (F : Nat → Nat → α) : cellsM (h + 1) w F = cellsM h w F ++ (List.range w).map fun x => F h x := by
  simp [cellsM, List.range_succ]
theorem cellsM_gx {α : Type} [Rep α] {h w : Nat} {F : Nat → Nat → α} {y x : Nat} (hy : y < h) (hx : x < w) : gx (cellsM h w F) (y * w + x) = F y x := by
  induction h with
  | zero => omega
  | succ h ih =>
    rw [cellsM_succ]
    rcases Nat.lt_or_ge y h with hlt | hge
    · have hl : y * w + x < h * w := by
        have := Nat.mul_le_mul_right w (show y + 1 ≤ h from hlt)
        rw [Nat.add_mul] at this; omega
      have := ih hlt
      unfold gx List.getD at this ⊢
      rw [List.getElem?_append_left (by rw [cellsM_length]; exact hl)]
      exact this
    · have e : y = h := by omega
      subst e
      unfold gx List.getD
      rw [List.getElem?_append_right (by rw [cellsM_length]; omega), cellsM_length]
      simp [hx]
theorem cellsM_all {α : Type} {h w : Nat} {F : Nat → Nat → α} {P : α → Prop} (hF : ∀ y x, y < h → x < w → P (F y x)) : ∀ c ∈ cellsM h w F, P c := by
  intro c hc
  simp only [cellsM, List.mem_flatMap, List.mem_map, List.mem_range] at hc
  obtain ⟨y, hy, x, hx, rfl⟩ := hc
  exact hF y x hy hx
theorem loop2 {α : Type} {f1 : Nat → List α → Option (Res (List α) Empty)} {f2 : Nat → Nat → List α → Option (Res (List α) Empty)} {h w : Nat} (F : Nat → Nat → α) (h1 : ∀ k s, f1 k s = (lpO (f2 k) w s).bind fun e => some (.next e))
    (h2 : ∀ k1 k2 s, k1 < h → k2 < w → s.length < h * w → f2 k1 k2 s = some (.next (s ++ [F k1 k2]))) : lpO f1 h [] = some (cellsM h w F) := by
  refine (lpO_cat (xs := []) (fun y => (List.range w).map fun x => F y x) fun k s hk hs => ?_).trans (by simp [cellsM])
  have hl : s.length = k * w := by
    rw [hs, List.nil_append]; exact cellsM_length k w F
  rw [h1, lpO_app (xs := s) (fun x => F k x) fun k2 s2 hk2 hs2 => h2 k k2 s2 hk hk2 (by
    have := Nat.mul_le_mul_right w (show k + 1 ≤ h from hk)
    rw [Nat.add_mul] at this; omega)]
  rfl

theorem made_eq (n : Nat) (one : Int → Int → Option GCell) (F : Nat → Nat → GCell) (hn : n ≤ 1000) (h : ∀ y x : Nat, y < n → x < n → one (x : Int) (y : Int) = some (F y x)) : impl_made (n : Int) one = some ⟨n, cellsM n n F⟩ := by
  unfold impl_made
  have hN : ((n : Int)).toNat = n := by simp
  rw [hN, gd_pos (by omega), loop2 (f1 := impl_made_L1 n one) (f2 := impl_made_L2 one) (h := n) (w := n) F (fun k s => by simp only [impl_made_L1, hN]) (fun k1 k2 s h1 h2 h3 => by
    have : n * n ≤ 1000 * 1000 := Nat.mul_le_mul hn hn
    simp only [impl_made_L2, h k1 k2 h1 h2, Option.bind_some]
    rw [gd_pos (by omega)])]
  rfl

def BlockOkM (b : GBlock) : Bool := inR b.Size 1 4 && ((b.Cells.length : Int) == b.Size * b.Size) && b.Cells.all CellOkM
theorem size_cases {n : Int} (h : inR n 1 4 = true) : n = 1 ∨ n = 2 ∨ n = 3 ∨ n = 4 := by
  rw [inR_iff] at h; omega

@[simp] theorem spec_BlockOk_eq (b : GBlock) : spec_BlockOk b = some (BlockOkM b) := by
  unfold spec_BlockOk BlockOkM
  simp only [l01In_eq, Option.bind_some]
  cases h : inR b.Size 1 4
  · rfl
  · have hw : wr (b.Size * b.Size) = b.Size * b.Size := by rcases size_cases h with e | e | e | e <;> rw [e] <;> decide
    rw [hw]
    cases hl : ((b.Cells.length : Int) == b.Size * b.Size)
    · have : (((b.Cells.length : Nat) : Int) != b.Size * b.Size) = true := by simp [bne, hl]
      simp [this]
    · have hl' : (b.Cells.length : Int) = b.Size * b.Size := by simpa using hl
      have : (((b.Cells.length : Nat) : Int) != b.Size * b.Size) = false := by simp [bne, hl]
      simp only [this, Bool.not_true, cond_false, Option.bind_some]
      rw [gd_pos (by rcases size_cases h with e | e | e | e <;> rw [e] at hl' <;> omega), forO_all (f := spec_BlockOk_L1 b) (fun k => CellOkM (gx b.Cells k)) (fun k hk => by
        simp only [spec_BlockOk_L1, spec_CellOk_eq, Option.bind_some]; cases CellOkM (gx b.Cells k) <;> rfl), all_gx]
      cases b.Cells.all CellOkM <;> rfl

@[simp] theorem impl_BlockOk_eq (b : GBlock) : impl_BlockOk b = some (BlockOkM b) := by
  unfold impl_BlockOk BlockOkM
  simp only [within_eq, Option.bind_some]
  cases h : inR b.Size 1 4
  · rfl
  · have hw : wr (b.Size * b.Size) = b.Size * b.Size := by rcases size_cases h with e | e | e | e <;> rw [e] <;> decide
    rw [hw]
    cases hl : ((b.Cells.length : Int) == b.Size * b.Size)
    · have : (((b.Cells.length : Nat) : Int) != b.Size * b.Size) = true := by simp [bne, hl]
      simp [this]
    · have hl' : (b.Cells.length : Int) = b.Size * b.Size := by simpa using hl
      have : (((b.Cells.length : Nat) : Int) != b.Size * b.Size) = false := by simp [bne, hl]
      simp only [this, Bool.not_true, cond_false, Option.bind_some]
      rw [gd_pos (by rcases size_cases h with e | e | e | e <;> rw [e] at hl' <;> omega), forO_all (f := impl_BlockOk_L1 b) (fun k => CellOkM (gx b.Cells k)) (fun k hk => by
        simp only [impl_BlockOk_L1, impl_CellOk_eq, Option.bind_some]; cases CellOkM (gx b.Cells k) <;> rfl), all_gx]
      cases b.Cells.all CellOkM <;> rfl

/-- A valid block: its side as a number, and its cells. -/
theorem blockOk_spec {b : GBlock} (h : BlockOkM b = true) : ∃ n : Nat, b.Size = n ∧ 1 ≤ n ∧ n ≤ 4 ∧ b.Cells.length = n * n ∧ ∀ c ∈ b.Cells, CellOkM c = true := by
  simp only [BlockOkM, Bool.and_eq_true, beq_iff_eq, List.all_eq_true] at h
  obtain ⟨⟨h1, h2⟩, h3⟩ := h
  rcases size_cases h1 with e | e | e | e <;> rw [e] at h2
  · exact ⟨1, e, by omega, by omega, by omega, h3⟩
  · exact ⟨2, e, by omega, by omega, by omega, h3⟩
  · exact ⟨3, e, by omega, by omega, by omega, h3⟩
  · exact ⟨4, e, by omega, by omega, by omega, h3⟩
theorem blockOk_of {n : Nat} {cs : List GCell} (h1 : 1 ≤ n) (h2 : n ≤ 4) (hl : cs.length = n * n) (hc : ∀ c ∈ cs, CellOkM c = true) : BlockOkM ⟨n, cs⟩ = true := by
  simp only [BlockOkM, Bool.and_eq_true, beq_iff_eq, List.all_eq_true]
  exact ⟨⟨inR_iff.2 ⟨by omega, by omega⟩, by rw [hl]; simp⟩, hc⟩
theorem blockOk_sm {b : GBlock} (h : BlockOkM b = true) : Sm.ok b := by
  obtain ⟨n, _, h1, h2, hl, _⟩ := blockOk_spec h
  have : n * n ≤ 4 * 4 := Nat.mul_le_mul h2 h2
  exact ⟨by omega, fun _ _ => trivial⟩
theorem zero_sm : Sm.ok (⟨0, []⟩ : GBlock) := ⟨by simp, fun _ h => by simp at h⟩

def TurnCellM (c : GCell) : GCell := bif CellOkM c then (bif c.Split == 1 then ⟨2, c.B, c.A⟩ else bif c.Split == 2 then ⟨1, c.A, c.B⟩ else c) else ⟨0, 0, 0⟩
theorem turnCell_ok {c : GCell} (h : CellOkM c = true) : CellOkM (TurnCellM c) = true := by
  obtain ⟨h1, h2, h3, h4, h5, h6, h7⟩ := cellOk_spec h
  unfold TurnCellM
  rw [h]
  by_cases e1 : c.Split = 1
  · simp only [e1, beq_self_eq_true, cond_true]
    exact cellOk_of (show (0 : Int) ≤ 2 by decide) (show (2 : Int) ≤ 2 by decide) h5 h6 h3 h4 ⟨fun h => by simp at h, fun h => by have := h7.2 h.symm; omega⟩
  · by_cases e2 : c.Split = 2
    · have : (c.Split == 1) = false := by simp [e1]
      simp only [e2, cond_true, cond_false, beq_self_eq_true, show ((2 : Int) == 1) = false from rfl]
      exact cellOk_of (show (0 : Int) ≤ 1 by decide) (show (1 : Int) ≤ 2 by decide) h3 h4 h5 h6 ⟨fun h => by simp at h, fun h => by have := h7.2 h; omega⟩
    · rw [beq_eq_false_iff_ne.2 e1, beq_eq_false_iff_ne.2 e2]; exact h

@[simp] theorem spec_TurnCell_eq (c : GCell) : spec_TurnCell c = some (TurnCellM c) := by
  unfold spec_TurnCell TurnCellM
  simp only [spec_CellOk_eq, Option.bind_some]
  cases CellOkM c <;> cases c.Split == 1 <;> cases c.Split == 2 <;> rfl

@[simp] theorem impl_TurnCell_eq (c : GCell) : impl_TurnCell c = some (TurnCellM c) := by
  unfold impl_TurnCell TurnCellM
  simp only [impl_CellOk_eq, Option.bind_some]
  cases CellOkM c <;> cases c.Split == 1 <;> cases c.Split == 2 <;> rfl

def MirrorCellM (c : GCell) : GCell := bif CellOkM c then (bif c.Split == 0 then c else ⟨3 - c.Split, c.B, c.A⟩) else ⟨0, 0, 0⟩
theorem mirrorCell_ok {c : GCell} (h : CellOkM c = true) : CellOkM (MirrorCellM c) = true := by
  obtain ⟨h1, h2, h3, h4, h5, h6, h7⟩ := cellOk_spec h
  unfold MirrorCellM
  rw [h]
  by_cases e0 : c.Split = 0
  · simp [e0, h]
  · have : (c.Split == 0) = false := by simp [e0]
    simp only [this, cond_true, cond_false]
    exact cellOk_of (by simp only; omega) (by simp only; omega) h5 h6 h3 h4 ⟨fun h => by simp only at h; omega, fun h => absurd (h7.2 h.symm) e0⟩

@[simp] theorem spec_MirrorCell_eq (c : GCell) : spec_MirrorCell c = some (MirrorCellM c) := by
  unfold spec_MirrorCell MirrorCellM
  simp only [spec_CellOk_eq, Option.bind_some]
  cases h : CellOkM c
  · rfl
  · obtain ⟨h1, h2, _⟩ := cellOk_spec h
    rw [wr_of (by omega) (by omega)]
    cases c.Split == 0 <;> rfl

@[simp] theorem impl_MirrorCell_eq (c : GCell) : impl_MirrorCell c = some (MirrorCellM c) := by
  unfold impl_MirrorCell MirrorCellM
  simp only [impl_CellOk_eq, Option.bind_some]
  cases h : CellOkM c
  · rfl
  · obtain ⟨h1, h2, _⟩ := cellOk_spec h
    rw [wr_of (by omega) (by omega)]
    cases c.Split == 0 <;> rfl

def CellAtM (b : GBlock) (x y : Int) : GCell := bif BlockOkM b && inR x 0 (b.Size - 1) && inR y 0 (b.Size - 1) then gx b.Cells (y * b.Size + x).toNat else ⟨0, 0, 0⟩
theorem idx_lt {n y x : Nat} (hy : y < n) (hx : x < n) : y * n + x < n * n := by
  have := Nat.mul_le_mul_right n (show y + 1 ≤ n from hy)
  rw [Nat.add_mul] at this; omega
theorem idx_lt2 {h w y x : Nat} (hy : y < h) (hx : x < w) : y * w + x < h * w := by
  have := Nat.mul_le_mul_right w (show y + 1 ≤ h from hy)
  rw [Nat.add_mul] at this; omega
theorem cellAtM_nat {b : GBlock} {n x y : Nat} (h : BlockOkM b = true) (hn : b.Size = n) (hx : x < n) (hy : y < n) : CellAtM b x y = gx b.Cells (y * n + x) := by
  have e1 : inR (x : Int) 0 (b.Size - 1) = true := inR_iff.2 ⟨by omega, by omega⟩
  have e2 : inR (y : Int) 0 (b.Size - 1) = true := inR_iff.2 ⟨by omega, by omega⟩
  have e3 : ((y : Int) * b.Size + x).toNat = y * n + x := by
    rw [hn]
    have : ((y : Int) * (n : Int) + (x : Int)) = ((y * n + x : Nat) : Int) := by simp
    rw [this, Int.toNat_natCast]
  simp [CellAtM, h, e1, e2, e3]

theorem impl_isPlace_eq (b : GBlock) (x y : Int) : impl_Block_isPlace b x y = some (BlockOkM b && inR x 0 (b.Size - 1) && inR y 0 (b.Size - 1)) := by
  unfold impl_Block_isPlace
  simp only [impl_BlockOk_eq, within_eq, Option.bind_some]
  cases h : BlockOkM b
  · rfl
  · obtain ⟨n, hn, h1, h2, _⟩ := blockOk_spec h
    rw [wr_of (by omega) (by omega)]
    cases inR x 0 (b.Size - 1) <;> cases inR y 0 (b.Size - 1) <;> rfl

@[simp] theorem impl_CellAt_eq (b : GBlock) (x y : Int) : impl_CellAt b x y = some (CellAtM b x y) := by
  unfold impl_CellAt CellAtM
  simp only [impl_isPlace_eq, Option.bind_some]
  cases h : (BlockOkM b && inR x 0 (b.Size - 1) && inR y 0 (b.Size - 1))
  · rfl
  · simp only [Bool.and_eq_true, inR_iff] at h
    obtain ⟨⟨h0, hx⟩, hy⟩ := h
    obtain ⟨n, hn, h1, h2, hl, _⟩ := blockOk_spec h0
    rw [hn] at hx hy ⊢
    obtain ⟨x', rfl⟩ := Int.eq_ofNat_of_zero_le hx.1
    obtain ⟨y', rfl⟩ := Int.eq_ofNat_of_zero_le hy.1
    have hlt : y' * n + x' < n * n := idx_lt (by omega) (by omega)
    have hnn : n * n ≤ 4 * 4 := Nat.mul_le_mul h2 h2
    have hy' : y' * n ≤ n * n := by omega
    have e : wr (wr ((y' : Int) * (n : Int)) + (x' : Int)) = ((y' * n + x' : Nat) : Int) := by
      have : (y' : Int) * (n : Int) = ((y' * n : Nat) : Int) := by simp
      rw [this, wr_of (n := ((y' * n : Nat) : Int)) (by omega) (by omega), wr_of (by omega) (by omega)]; simp
    have e' : ((y' : Int) * (n : Int) + (x' : Int)) = ((y' * n + x' : Nat) : Int) := by simp
    rw [e, e', gd_pos ⟨by omega, by omega⟩]
    rfl

def TurnBlockM (b : GBlock) : GBlock := bif BlockOkM b then ⟨b.Size, cellsM b.Size.toNat b.Size.toNat fun y x => TurnCellM (gx b.Cells ((b.Size.toNat - 1 - x) * b.Size.toNat + y))⟩ else ⟨0, []⟩
theorem turnBlock_ok {b : GBlock} (h : BlockOkM b = true) : BlockOkM (TurnBlockM b) = true := by
  obtain ⟨n, hn, h1, h2, hl, hc⟩ := blockOk_spec h
  unfold TurnBlockM
  rw [h, hn]
  simp only [cond_true, Int.toNat_natCast]
  exact blockOk_of h1 h2 (cellsM_length _ _ _) (cellsM_all fun y x hy hx => turnCell_ok (hc _ (gx_mem (by rw [hl]; exact idx_lt (by omega) hy))))
theorem turnBlock_size (b : GBlock) (h : BlockOkM b = true) : (TurnBlockM b).Size = b.Size := by simp [TurnBlockM, h]
theorem idx_turn {n y x : Nat} (h1 : 1 ≤ n) (h2 : n ≤ 4) (hy : y < n) (hx : x < n) : wr ((wr ((wr ((wr ((n : Int) - 1)) - (x : Int))) * (n : Int))) + (y : Int)) = (((n - 1 - x) * n + y : Nat) : Int) := by
  have hn : n = 1 ∨ n = 2 ∨ n = 3 ∨ n = 4 := by omega
  rcases hn with rfl | rfl | rfl | rfl <;> simp (disch := omega) only [wr_of] <;> omega
theorem idx_mirror {n y x : Nat} (h1 : 1 ≤ n) (h2 : n ≤ 4) (hy : y < n) (hx : x < n) : wr ((wr ((wr ((wr ((y : Int) * (n : Int))) + (n : Int))) - 1)) - (x : Int)) = ((y * n + (n - 1 - x) : Nat) : Int) := by
  have hn : n = 1 ∨ n = 2 ∨ n = 3 ∨ n = 4 := by omega
  rcases hn with rfl | rfl | rfl | rfl <;> simp (disch := omega) only [wr_of] <;> omega

@[simp] theorem spec_TurnBlock_eq (b : GBlock) : spec_TurnBlock b = some (TurnBlockM b) := by
  unfold spec_TurnBlock TurnBlockM
  simp only [spec_BlockOk_eq, Option.bind_some]
  cases h : BlockOkM b
  · rfl
  · obtain ⟨n, hn, h1, h2, hl, hc⟩ := blockOk_spec h
    have hN : b.Size.toNat = n := by rw [hn]; simp
    have hnn : n * n ≤ 4 * 4 := Nat.mul_le_mul h2 h2
    simp only [hN, Bool.not_true, cond_false, cond_true]
    rw [gd_pos (by omega), loop2 (f1 := spec_TurnBlock_L1 b) (f2 := spec_TurnBlock_L2 b) (h := n) (w := n) (fun y x => TurnCellM (gx b.Cells ((n - 1 - x) * n + y))) (fun k s => by simp only [spec_TurnBlock_L1, hN]) (fun y x s hy hx hs => by
      have hlt : (n - 1 - x) * n + y < n * n := idx_lt (by omega) hy
      simp only [spec_TurnBlock_L2, hn, idx_turn h1 h2 hy hx, Int.toNat_natCast, spec_TurnCell_eq, Option.bind_some]
      rw [gd_pos ⟨by omega, by omega⟩, gd_pos (by omega)])]
    rfl

@[simp] theorem impl_TurnBlock_eq (b : GBlock) : impl_TurnBlock b = some (TurnBlockM b) := by
  unfold impl_TurnBlock TurnBlockM
  simp only [impl_BlockOk_eq, Option.bind_some]
  cases h : BlockOkM b
  · rfl
  · obtain ⟨n, hn, h1, h2, hl, hc⟩ := blockOk_spec h
    simp only [Bool.not_true, cond_false, cond_true, hn, Int.toNat_natCast]
    rw [made_eq n _ (fun y x => TurnCellM (gx b.Cells ((n - 1 - x) * n + y))) (by omega) (fun y x hy hx => by
      have e : wr (wr ((n : Int) - 1) - (x : Int)) = ((n - 1 - x : Nat) : Int) := by simp (disch := omega) only [wr_of]; omega
      simp only [impl_TurnBlock_c1, hn, e, impl_CellAt_eq, impl_TurnCell_eq, Option.bind_some]
      rw [cellAtM_nat h hn hy (by omega)])]
    rfl

def MirrorBlockM (b : GBlock) : GBlock := bif BlockOkM b then ⟨b.Size, cellsM b.Size.toNat b.Size.toNat fun y x => MirrorCellM (gx b.Cells (y * b.Size.toNat + (b.Size.toNat - 1 - x)))⟩ else ⟨0, []⟩
theorem mirrorBlock_ok {b : GBlock} (h : BlockOkM b = true) : BlockOkM (MirrorBlockM b) = true := by
  obtain ⟨n, hn, h1, h2, hl, hc⟩ := blockOk_spec h
  unfold MirrorBlockM
  rw [h, hn]
  simp only [cond_true, Int.toNat_natCast]
  exact blockOk_of h1 h2 (cellsM_length _ _ _) (cellsM_all fun y x hy hx => mirrorCell_ok (hc _ (gx_mem (by rw [hl]; exact idx_lt hy (by omega)))))
theorem mirrorBlock_size (b : GBlock) (h : BlockOkM b = true) : (MirrorBlockM b).Size = b.Size := by simp [MirrorBlockM, h]

@[simp] theorem spec_MirrorBlock_eq (b : GBlock) : spec_MirrorBlock b = some (MirrorBlockM b) := by
  unfold spec_MirrorBlock MirrorBlockM
  simp only [spec_BlockOk_eq, Option.bind_some]
  cases h : BlockOkM b
  · rfl
  · obtain ⟨n, hn, h1, h2, hl, hc⟩ := blockOk_spec h
    have hN : b.Size.toNat = n := by rw [hn]; simp
    have hnn : n * n ≤ 4 * 4 := Nat.mul_le_mul h2 h2
    simp only [hN, Bool.not_true, cond_false, cond_true]
    rw [gd_pos (by omega), loop2 (f1 := spec_MirrorBlock_L1 b) (f2 := spec_MirrorBlock_L2 b) (h := n) (w := n) (fun y x => MirrorCellM (gx b.Cells (y * n + (n - 1 - x)))) (fun k s => by simp only [spec_MirrorBlock_L1, hN]) (fun y x s hy hx hs => by
      have hlt : y * n + (n - 1 - x) < n * n := idx_lt hy (by omega)
      simp only [spec_MirrorBlock_L2, hn, idx_mirror h1 h2 hy hx, Int.toNat_natCast, spec_MirrorCell_eq, Option.bind_some]
      rw [gd_pos ⟨by omega, by omega⟩, gd_pos (by omega)])]
    rfl

@[simp] theorem impl_MirrorBlock_eq (b : GBlock) : impl_MirrorBlock b = some (MirrorBlockM b) := by
  unfold impl_MirrorBlock MirrorBlockM
  simp only [impl_BlockOk_eq, Option.bind_some]
  cases h : BlockOkM b
  · rfl
  · obtain ⟨n, hn, h1, h2, hl, hc⟩ := blockOk_spec h
    simp only [Bool.not_true, cond_false, cond_true, hn, Int.toNat_natCast]
    rw [made_eq n _ (fun y x => MirrorCellM (gx b.Cells (y * n + (n - 1 - x)))) (by omega) (fun y x hy hx => by
      have e : wr (wr ((n : Int) - 1) - (x : Int)) = ((n - 1 - x : Nat) : Int) := by simp (disch := omega) only [wr_of]; omega
      simp only [impl_MirrorBlock_c1, hn, e, impl_CellAt_eq, impl_MirrorCell_eq, Option.bind_some]
      rw [cellAtM_nat h hn (by omega) hy])]
    rfl

def turnsM : Nat → GBlock → GBlock
  | 0, b => b
  | k + 1, b => TurnBlockM (turnsM k b)
def SeenM (b : GBlock) (k : Int) : GBlock := bif BlockOkM b && inR k 0 7 then turnsM (k.tmod 4).toNat (bif decide (k ≥ 4) then MirrorBlockM b else b) else ⟨0, []⟩
theorem turns_ok {b : GBlock} (h : BlockOkM b = true) : ∀ k, BlockOkM (turnsM k b) = true ∧ (turnsM k b).Size = b.Size
  | 0 => ⟨h, rfl⟩
  | k + 1 => by
    obtain ⟨h1, h2⟩ := turns_ok h k
    exact ⟨turnBlock_ok h1, by rw [turnsM, turnBlock_size _ h1, h2]⟩
theorem seen_ok {b : GBlock} {k : Int} (h : BlockOkM b = true) (hk : inR k 0 7 = true) : BlockOkM (SeenM b k) = true ∧ (SeenM b k).Size = b.Size := by
  unfold SeenM
  rw [h, hk]
  cases hd : decide (k ≥ 4)
  · exact turns_ok h _
  · obtain ⟨h1, h2⟩ := turns_ok (mirrorBlock_ok h) (k.tmod 4).toNat
    exact ⟨h1, by rw [← mirrorBlock_size b h]; exact h2⟩
theorem tmod4 {k : Int} (hk : inR k 0 7 = true) : (k.tmod 4).toNat ≤ 3 := by
  rw [inR_iff] at hk
  have : k.tmod 4 = k % 4 := by rw [Int.tmod_eq_emod_of_nonneg hk.1]
  omega

@[simp] theorem spec_SeenFrom_eq (b : GBlock) (k : Int) : spec_SeenFrom b k = some (SeenM b k) := by
  unfold spec_SeenFrom SeenM
  simp only [spec_BlockOk_eq, l01In_eq, Option.bind_some]
  cases h : BlockOkM b
  · rfl
  · cases hk : inR k 0 7
    · rfl
    · have hs := (blockOk_sm h).1
      have ht := tmod4 hk
      have hc : spec_l03Copy b = some b := by
        unfold spec_l03Copy
        rw [gd_pos (by simp; omega)]; simp
      simp only [hc, spec_MirrorBlock_eq, Option.bind_some, Bool.not_true, cond_false]
      have key : ∀ b0 : GBlock, lpO spec_SeenFrom_L1 (k.tmod 4).toNat (b0.Size, b0.Cells) = some ((turnsM (k.tmod 4).toNat b0).Size, (turnsM (k.tmod 4).toNat b0).Cells) := fun b0 =>
        lpO_st (fun j => ((turnsM j b0).Size, (turnsM j b0).Cells)) rfl fun j _ => by
          simp only [spec_SeenFrom_L1, spec_TurnBlock_eq, Option.bind_some]; rfl
      cases decide (k ≥ 4) <;> simp only [cond_true, cond_false, Option.bind_some] <;> rw [gd_pos (by omega), key] <;> rfl

@[simp] theorem impl_SeenFrom_eq (b : GBlock) (k : Int) : impl_SeenFrom b k = some (SeenM b k) := by
  unfold impl_SeenFrom SeenM
  simp only [impl_BlockOk_eq, within_eq, Option.bind_some]
  cases h : BlockOkM b
  · rfl
  · cases hk : inR k 0 7
    · rfl
    · have hs := (blockOk_sm h).1
      have ht := tmod4 hk
      have hc : impl_Block_copied b = some b := by
        unfold impl_Block_copied
        rw [gd_pos (by simp; omega)]; simp
      simp only [hc, impl_MirrorBlock_eq, Option.bind_some, Bool.not_true, cond_false]
      have key : ∀ b0 : GBlock, lpO impl_SeenFrom_L1 (k.tmod 4).toNat (b0.Size, b0.Cells) = some ((turnsM (k.tmod 4).toNat b0).Size, (turnsM (k.tmod 4).toNat b0).Cells) := fun b0 =>
        lpO_st (fun j => ((turnsM j b0).Size, (turnsM j b0).Cells)) rfl fun j _ => by
          simp only [impl_SeenFrom_L1, impl_TurnBlock_eq, Option.bind_some]; rfl
      cases decide (k ≥ 4) <;> simp only [cond_true, cond_false, Option.bind_some] <;> rw [gd_pos (by omega), key] <;> rfl

def QuiltOkM (q : GQuilt) (bs : List GBlock) : Bool := inR q.Width 1 6 && inR q.Height 1 6 && inR bs.length 1 6 && ((q.Spots.length : Int) == q.Width * q.Height) && bs.all (fun b => BlockOkM b && (b.Size == (gx bs 0).Size)) && q.Spots.all (fun s => inR s.Block 0 ((bs.length : Int) - 1) && inR s.Seen 0 7)
theorem six_cases {n : Int} (h : inR n 1 6 = true) : n = 1 ∨ n = 2 ∨ n = 3 ∨ n = 4 ∨ n = 5 ∨ n = 6 := by rw [inR_iff] at h; omega
theorem six_mul {a b : Int} (ha : inR a 1 6 = true) (hb : inR b 1 6 = true) : 1 ≤ a * b ∧ a * b ≤ 36 := by
  rw [inR_iff] at hb
  rcases six_cases ha with e | e | e | e | e | e <;> rw [e] <;> omega
theorem wr_six {a b : Int} (ha : inR a 1 6 = true) (hb : inR b 1 6 = true) : wr (a * b) = a * b := by
  have := six_mul ha hb
  exact wr_of (by omega) (by omega)

@[simp] theorem spec_QuiltOk_eq (q : GQuilt) (bs : List GBlock) : spec_QuiltOk q bs = some (QuiltOkM q bs) := by
  unfold spec_QuiltOk QuiltOkM
  simp only [l01In_eq, Option.bind_some]
  cases hW : inR q.Width 1 6
  · rfl
  cases hH : inR q.Height 1 6
  · rfl
  cases hB : inR (bs.length : Int) 1 6
  · rfl
  rw [wr_six hW hH]
  have hwh := six_mul hW hH
  have hB' := inR_iff.1 hB
  cases hS : ((q.Spots.length : Int) == q.Width * q.Height)
  · simp [bne, hS]
  · have hS' : (q.Spots.length : Int) = q.Width * q.Height := by simpa using hS
    simp only [bne, hS, Bool.not_true, cond_false, Option.bind_some]
    rw [gd_pos (by omega), forO_all (f := spec_QuiltOk_L1 bs) (c := false) (fun k => BlockOkM (gx bs k) && ((gx bs k).Size == (gx bs 0).Size)) (fun k hk => by
      simp only [spec_QuiltOk_L1, spec_BlockOk_eq, Option.bind_some]
      rw [gd_pos (by omega)]
      cases BlockOkM (gx bs k) <;> cases h : ((gx bs k).Size == (gx bs 0).Size) <;> simp [bne, h]), all_gx (fun b => BlockOkM b && (b.Size == (gx bs 0).Size))]
    cases bs.all (fun b => BlockOkM b && (b.Size == (gx bs 0).Size))
    · rfl
    · simp only [cond_true, sq_inl]
      have ew : wr ((bs.length : Int) - 1) = (bs.length : Int) - 1 := wr_of (by omega) (by omega)
      rw [gd_pos (by omega), forO_all (f := spec_QuiltOk_L2 q bs) (fun k => inR (gx q.Spots k).Block 0 ((bs.length : Int) - 1) && inR (gx q.Spots k).Seen 0 7) (fun k hk => by
        simp only [spec_QuiltOk_L2, l01In_eq, Option.bind_some, ew]
        cases inR (gx q.Spots k).Block 0 ((bs.length : Int) - 1) <;> cases inR (gx q.Spots k).Seen 0 7 <;> rfl), all_gx (fun s : GSpot => inR s.Block 0 ((bs.length : Int) - 1) && inR s.Seen 0 7)]
      cases q.Spots.all (fun s => inR s.Block 0 ((bs.length : Int) - 1) && inR s.Seen 0 7) <;> rfl

def isQuiltM (q : GQuilt) (most : Int) : Bool := inR q.Width 1 6 && inR q.Height 1 6 && ((q.Spots.length : Int) == q.Width * q.Height) && q.Spots.all (fun s => inR s.Block 0 most && inR s.Seen 0 7)
theorem impl_isQuilt_eq (q : GQuilt) (most : Int) : impl_isQuilt q most = some (isQuiltM q most) := by
  unfold impl_isQuilt isQuiltM
  simp only [within_eq, Option.bind_some]
  cases hW : inR q.Width 1 6
  · rfl
  cases hH : inR q.Height 1 6
  · rfl
  rw [wr_six hW hH]
  have hwh := six_mul hW hH
  cases hS : ((q.Spots.length : Int) == q.Width * q.Height)
  · simp [bne, hS]
  · have hS' : (q.Spots.length : Int) = q.Width * q.Height := by simpa using hS
    simp only [bne, hS, Bool.not_true, cond_false, Option.bind_some]
    rw [gd_pos (by omega), forO_all (f := impl_isQuilt_L1 q most) (fun k => inR (gx q.Spots k).Block 0 most && inR (gx q.Spots k).Seen 0 7) (fun k hk => by
      simp only [impl_isQuilt_L1, within_eq, Option.bind_some]
      cases inR (gx q.Spots k).Block 0 most <;> cases inR (gx q.Spots k).Seen 0 7 <;> rfl), all_gx (fun s : GSpot => inR s.Block 0 most && inR s.Seen 0 7)]
    cases q.Spots.all (fun s => inR s.Block 0 most && inR s.Seen 0 7) <;> rfl

@[simp] theorem impl_QuiltOk_eq (q : GQuilt) (bs : List GBlock) : impl_QuiltOk q bs = some (QuiltOkM q bs) := by
  unfold impl_QuiltOk
  simp only [impl_isQuilt_eq, within_eq, Option.bind_some]
  cases hB : inR (bs.length : Int) 1 6
  · have : QuiltOkM q bs = false := by simp [QuiltOkM, hB]
    rw [this]
    cases isQuiltM q (wr ((bs.length : Int) - 1)) <;> rfl
  · have hB' := inR_iff.1 hB
    have ew : wr ((bs.length : Int) - 1) = (bs.length : Int) - 1 := wr_of (by omega) (by omega)
    rw [ew]
    have e : QuiltOkM q bs = (isQuiltM q ((bs.length : Int) - 1) && bs.all (fun b => BlockOkM b && (b.Size == (gx bs 0).Size))) := by
      unfold QuiltOkM isQuiltM
      rw [hB]
      cases inR q.Width 1 6 <;> cases inR q.Height 1 6 <;> cases ((q.Spots.length : Int) == q.Width * q.Height) <;> simp [Bool.and_comm]
    rw [e]
    cases isQuiltM q ((bs.length : Int) - 1)
    · rfl
    · simp only [Bool.not_true, cond_false, Option.bind_some]
      rw [gd_pos (by omega), forO_all (f := impl_QuiltOk_L1 bs) (c := false) (fun k => BlockOkM (gx bs k) && ((gx bs k).Size == (gx bs 0).Size)) (fun k hk => by
        simp only [impl_QuiltOk_L1, impl_BlockOk_eq, Option.bind_some]
        rw [gd_pos (by omega)]
        cases BlockOkM (gx bs k) <;> cases h : ((gx bs k).Size == (gx bs 0).Size) <;> simp [bne, h]), all_gx (fun b => BlockOkM b && (b.Size == (gx bs 0).Size))]
      cases bs.all (fun b => BlockOkM b && (b.Size == (gx bs 0).Size)) <;> rfl

/-- A valid quilt. -/
theorem quiltOk_spec {q : GQuilt} {bs : List GBlock} (h : QuiltOkM q bs = true) : ∃ w h : Nat, q.Width = w ∧ q.Height = h ∧ 1 ≤ w ∧ w ≤ 6 ∧ 1 ≤ h ∧ h ≤ 6 ∧ q.Spots.length = h * w ∧ 1 ≤ bs.length ∧ bs.length ≤ 6 ∧
    (∀ b ∈ bs, BlockOkM b = true ∧ b.Size = (gx bs 0).Size) ∧ ∀ s ∈ q.Spots, 0 ≤ s.Block ∧ s.Block < bs.length ∧ inR s.Seen 0 7 = true := by
  simp only [QuiltOkM, Bool.and_eq_true, beq_iff_eq, List.all_eq_true] at h
  obtain ⟨⟨⟨⟨⟨hW, hH⟩, hB⟩, hS⟩, hb⟩, hs⟩ := h
  have hW' := inR_iff.1 hW
  have hH' := inR_iff.1 hH
  have hB' := inR_iff.1 hB
  obtain ⟨w, hw⟩ := Int.eq_ofNat_of_zero_le (show 0 ≤ q.Width by omega)
  obtain ⟨hh, hhe⟩ := Int.eq_ofNat_of_zero_le (show 0 ≤ q.Height by omega)
  refine ⟨w, hh, hw, hhe, by omega, by omega, by omega, by omega, ?_, by omega, by omega, hb, fun s hm => ?_⟩
  · rw [hw, hhe] at hS
    have : ((w : Int) * (hh : Int)) = ((hh * w : Nat) : Int) := by rw [Int.natCast_mul, Int.mul_comm]
    rw [this] at hS; omega
  · obtain ⟨h1, h2⟩ := hs s hm
    have := inR_iff.1 h1
    exact ⟨by omega, by omega, h2⟩

theorem gx_map {α β : Type} [Rep α] [Rep β] (F : α → β) {xs : List α} {k : Nat} (h : k < xs.length) : gx (xs.map F) k = F (gx xs k) := by
  rw [gx_lt (by simpa using h), gx_lt h]; simp

def spotM (bs : List GBlock) (s : GSpot) : GBlock := SeenM (gx bs s.Block.toNat) s.Seen
def shownM (q : GQuilt) (bs : List GBlock) : List GBlock := q.Spots.map (spotM bs)
theorem spot_ok {q : GQuilt} {bs : List GBlock} (h : QuiltOkM q bs = true) {s : GSpot} (hs : s ∈ q.Spots) : BlockOkM (spotM bs s) = true ∧ (spotM bs s).Size = (gx bs 0).Size := by
  obtain ⟨w, hh, _, _, _, _, _, _, _, _, _, hb, hsp⟩ := quiltOk_spec h
  obtain ⟨h1, h2, h3⟩ := hsp s hs
  obtain ⟨g1, g2⟩ := hb (gx bs s.Block.toNat) (gx_mem (by omega))
  obtain ⟨k1, k2⟩ := seen_ok g1 h3
  exact ⟨k1, by rw [spotM, k2, g2]⟩

theorem impl_shown_eq {q : GQuilt} {bs : List GBlock} (h : QuiltOkM q bs = true) : impl_shown q bs = some (shownM q bs) := by
  obtain ⟨w, hh, _, _, _, h2, _, h4, hl, _, _, hb, hsp⟩ := quiltOk_spec h
  have hlen : hh * w ≤ 6 * 6 := Nat.mul_le_mul h4 h2
  unfold impl_shown
  rw [gd_pos (by omega), lpO_app (f := impl_shown_L1 q bs) (xs := []) (fun k => spotM bs (gx q.Spots k)) (fun k s hk hs => by
    obtain ⟨h1, h2, h3⟩ := hsp _ (gx_mem hk)
    simp only [impl_shown_L1, impl_SeenFrom_eq, Option.bind_some]
    rw [gd_pos ⟨h1, h2⟩, gd_pos (by simp at hs; omega)]; rfl), map_gx]
  rfl

def ShownAtM (q : GQuilt) (bs : List GBlock) (x y : Int) : GBlock := bif QuiltOkM q bs && inR x 0 (q.Width - 1) && inR y 0 (q.Height - 1) then gx (shownM q bs) (y * q.Width + x).toNat else ⟨0, []⟩
theorem idx_wh {w h x y : Nat} (hw : w ≤ 6) (hh : h ≤ 6) (hx : x < w) (hy : y < h) : wr (wr ((y : Int) * (w : Int)) + (x : Int)) = ((y * w + x : Nat) : Int) ∧ ((y : Int) * (w : Int) + (x : Int)) = ((y * w + x : Nat) : Int) ∧ y * w + x < h * w ∧ h * w ≤ 36 := by
  have h1 : y * w + x < h * w := idx_lt2 hy hx
  have h2 : h * w ≤ 6 * 6 := Nat.mul_le_mul hh hw
  have : (y : Int) * (w : Int) = ((y * w : Nat) : Int) := by simp
  refine ⟨?_, by simp, h1, h2⟩
  rw [this, wr_of (n := ((y * w : Nat) : Int)) (by omega) (by omega), wr_of (by omega) (by omega)]; simp

def digM (a : Int) : UInt8 := UInt8.ofNat (48 + a.toNat)
theorem digM_inj {a b : Int} (h1 : 0 ≤ a) (h2 : a ≤ 5) (h3 : 0 ≤ b) (h4 : b ≤ 5) (h : digM a = digM b) : a = b := by
  have ha : a = 0 ∨ a = 1 ∨ a = 2 ∨ a = 3 ∨ a = 4 ∨ a = 5 := by omega
  have hb : b = 0 ∨ b = 1 ∨ b = 2 ∨ b = 3 ∨ b = 4 ∨ b = 5 := by omega
  rcases ha with rfl | rfl | rfl | rfl | rfl | rfl <;> rcases hb with rfl | rfl | rfl | rfl | rfl | rfl <;> first | rfl | exact absurd h (by decide)
def cellTextM (c : GCell) : List UInt8 := bif c.Split == 1 then [digM c.A, 47, digM c.B] else bif c.Split == 2 then [digM c.A, 92, digM c.B] else [digM c.A]
theorem cellText_inj {c d : GCell} {r q : List UInt8} (hc : CellOkM c = true) (hd : CellOkM d = true) (h : (cellTextM c ++ [59]) ++ r = (cellTextM d ++ [59]) ++ q) : c = d ∧ r = q := by
  obtain ⟨c1, c2, c3, c4, c5, c6, c7⟩ := cellOk_spec hc
  obtain ⟨d1, d2, d3, d4, d5, d6, d7⟩ := cellOk_spec hd
  obtain ⟨cs, ca, cb⟩ := c
  obtain ⟨ds, da, db⟩ := d
  simp only at c1 c2 c3 c4 c5 c6 c7 d1 d2 d3 d4 d5 d6 d7
  have hcs : cs = 0 ∨ cs = 1 ∨ cs = 2 := by omega
  have hds : ds = 0 ∨ ds = 1 ∨ ds = 2 := by omega
  rcases hcs with rfl | rfl | rfl <;> rcases hds with rfl | rfl | rfl <;> simp [cellTextM] at h
  · obtain ⟨e1, e2⟩ := h
    have := digM_inj c3 c4 d3 d4 e1
    have h1 := c7.1 rfl
    have h2 := d7.1 rfl
    subst this; subst h1; subst h2
    exact ⟨rfl, e2⟩
  · obtain ⟨e1, e2, e3⟩ := h
    have := digM_inj c3 c4 d3 d4 e1
    have h2 := digM_inj c5 c6 d5 d6 e2
    subst this; subst h2
    exact ⟨rfl, e3⟩
  · obtain ⟨e1, e2, e3⟩ := h
    have := digM_inj c3 c4 d3 d4 e1
    have h2 := digM_inj c5 c6 d5 d6 e2
    subst this; subst h2
    exact ⟨rfl, e3⟩
def cellsTextM (l : List GCell) : List UInt8 := l.flatMap fun c => cellTextM c ++ [59]
theorem cellsText_inj : ∀ {l m : List GCell}, (∀ c ∈ l, CellOkM c = true) → (∀ c ∈ m, CellOkM c = true) → cellsTextM l = cellsTextM m → l = m
  | [], [], _, _, _ => rfl
  | [], d :: m, _, _, h => by simp [cellsTextM] at h
  | c :: l, [], _, _, h => by simp [cellsTextM] at h
  | c :: l, d :: m, hl, hm, h => by
    have h' : (cellTextM c ++ [59]) ++ cellsTextM l = (cellTextM d ++ [59]) ++ cellsTextM m := by simpa [cellsTextM] using h
    obtain ⟨e1, e2⟩ := cellText_inj (hl c (by simp)) (hm d (by simp)) h'
    rw [e1, cellsText_inj (fun x hx => hl x (by simp [hx])) (fun x hx => hm x (by simp [hx])) e2]
def textM (b : GBlock) : Str := ⟨bif BlockOkM b then cellsTextM b.Cells else []⟩
theorem text_inj {b d : GBlock} (hb : BlockOkM b = true) (hd : BlockOkM d = true) (h : textM b = textM d) : b = d := by
  obtain ⟨n, hn, h1, h2, hl, hc⟩ := blockOk_spec hb
  obtain ⟨m, hm, g1, g2, gl, gc⟩ := blockOk_spec hd
  have e : cellsTextM b.Cells = cellsTextM d.Cells := by
    have := congrArg Str.b h
    simpa [textM, hb, hd] using this
  have e2 := cellsText_inj hc gc e
  have e3 : n * n = m * m := by rw [← hl, ← gl, e2]
  have e4 : n = m := by
    have hn' : n = 1 ∨ n = 2 ∨ n = 3 ∨ n = 4 := by omega
    have hm' : m = 1 ∨ m = 2 ∨ m = 3 ∨ m = 4 := by omega
    rcases hn' with rfl | rfl | rfl | rfl <;> rcases hm' with rfl | rfl | rfl | rfl <;> simp_all
  obtain ⟨bs, bc⟩ := b
  obtain ⟨ds, dc⟩ := d
  simp only at hn hm e2
  rw [hn, hm, e4, e2]
theorem cellText_len (c : GCell) : (cellTextM c).length ≤ 3 := by
  unfold cellTextM
  cases c.Split == 1 <;> cases c.Split == 2 <;> simp
theorem cellsText_len (l : List GCell) : (cellsTextM l).length ≤ 4 * l.length := by
  induction l with
  | nil => simp [cellsTextM]
  | cons c l ih =>
    have := cellText_len c
    simp only [cellsTextM, List.flatMap_cons, List.length_append, List.length_cons, List.length_nil] at ih ⊢
    omega
theorem text_len {b : GBlock} : (textM b).b.length ≤ 64 := by
  unfold textM
  cases h : BlockOkM b
  · simp
  · obtain ⟨n, hn, h1, h2, hl, hc⟩ := blockOk_spec h
    have := cellsText_len b.Cells
    have hnn : n * n ≤ 4 * 4 := Nat.mul_le_mul h2 h2
    simp only [cond_true]
    omega
theorem textM_eq {b d : GBlock} (hb : BlockOkM b = true) (hd : BlockOkM d = true) : (textM b = textM d) ↔ b = d := ⟨text_inj hb hd, fun h => by rw [h]⟩

def sameCellM (c d : GCell) : Bool := c.Split == d.Split && c.A == d.A && c.B == d.B
theorem sameCell_iff {c d : GCell} : sameCellM c d = true ↔ c = d := by
  obtain ⟨a, b, e⟩ := c
  obtain ⟨a', b', e'⟩ := d
  simp [sameCellM, and_assoc]
theorem beqs3 (a b c d e f : Int) : beqs [a, b, c] [d, e, f] = (a == d && b == e && c == f) := by simp [beqs, Bool.and_assoc]
def SameBlockM (b d : GBlock) : Bool := b.Size == d.Size && b.Cells.length == d.Cells.length && (List.range b.Cells.length).all fun k => sameCellM (gx b.Cells k) (gx d.Cells k)
theorem sameBlock_iff {b d : GBlock} : SameBlockM b d = true ↔ b = d := by
  constructor
  · intro h
    simp only [SameBlockM, Bool.and_eq_true, beq_iff_eq, List.all_eq_true, List.mem_range, sameCell_iff] at h
    obtain ⟨⟨h1, h2⟩, h3⟩ := h
    have := gx_ext h2 h3
    obtain ⟨s, c⟩ := b
    obtain ⟨s', c'⟩ := d
    simp_all
  · rintro rfl
    simp [SameBlockM, sameCell_iff]
theorem sameBlock_refl (b : GBlock) : SameBlockM b b = true := sameBlock_iff.2 rfl
theorem nat_beq_int (a b : Nat) : ((a : Int) == (b : Int)) = (a == b) := by
  rw [Bool.eq_iff_iff, beq_iff_eq, beq_iff_eq]; omega

theorem impl_SameBlock_eq {b d : GBlock} (hb : b.Cells.length ≤ 1048576) : impl_SameBlock b d = some (SameBlockM b d) := by
  unfold impl_SameBlock SameBlockM
  simp only [bne, nat_beq_int]
  cases h1 : b.Size == d.Size
  · simp
  cases h2 : b.Cells.length == d.Cells.length
  · simp
  have h2' : b.Cells.length = d.Cells.length := by simpa using h2
  simp only [Bool.not_true, Bool.or_self, cond_false, Bool.and_self, Bool.true_and]
  rw [gd_pos (by omega), forO_all (f := impl_SameBlock_L1 b d) (c := false) (fun k => sameCellM (gx b.Cells k) (gx d.Cells k)) (fun k hk => by
    simp only [impl_SameBlock_L1, beqs3]
    rw [gd_pos (by omega)]
    unfold sameCellM
    cases ((gx b.Cells k).Split == (gx d.Cells k).Split && (gx b.Cells k).A == (gx d.Cells k).A && (gx b.Cells k).B == (gx d.Cells k).B) <;> rfl)]
  cases (List.range b.Cells.length).all fun k => sameCellM (gx b.Cells k) (gx d.Cells k) <;> rfl

theorem spec_FormatInt_small {a : Int} (h0 : 0 ≤ a) (h1 : a ≤ 5) : spec_FormatInt a = some ⟨[digM a]⟩ := by
  have ha : a = 0 ∨ a = 1 ∨ a = 2 ∨ a = 3 ∨ a = 4 ∨ a = 5 := by omega
  have key : ∀ (s s' s'' : Int × Str), spec_FormatInt_L1 s = some (.next s') → spec_FormatInt_L1 s' = some (.brk s'') → wlO spec_FormatInt_L1 18446744073709551616 s = some s'' := fun s s' s'' h1 h2 => by
    have : ∀ n, wlO spec_FormatInt_L1 (n + 2) s = some s'' := fun n => by
      unfold wlO
      rw [whO, h1]
      simp only [Option.bind_some]
      rw [whO, h2]
      rfl
    exact this 18446744073709551614
  rcases ha with rfl | rfl | rfl | rfl | rfl | rfl
  · rfl
  · unfold spec_FormatInt
    rw [key (1, ⟨[]⟩) (0, ⟨[49]⟩) (0, ⟨[49]⟩) rfl rfl]; rfl
  · unfold spec_FormatInt
    rw [key (2, ⟨[]⟩) (0, ⟨[50]⟩) (0, ⟨[50]⟩) rfl rfl]; rfl
  · unfold spec_FormatInt
    rw [key (3, ⟨[]⟩) (0, ⟨[51]⟩) (0, ⟨[51]⟩) rfl rfl]; rfl
  · unfold spec_FormatInt
    rw [key (4, ⟨[]⟩) (0, ⟨[52]⟩) (0, ⟨[52]⟩) rfl rfl]; rfl
  · unfold spec_FormatInt
    rw [key (5, ⟨[]⟩) (0, ⟨[53]⟩) (0, ⟨[53]⟩) rfl rfl]; rfl

theorem spec_CellText_eq {c : GCell} (h : CellOkM c = true) : spec_CellText c = some ⟨cellTextM c⟩ := by
  obtain ⟨h1, h2, h3, h4, h5, h6, h7⟩ := cellOk_spec h
  unfold spec_CellText cellTextM
  simp only [spec_CellOk_eq, h, spec_FormatInt_small h3 h4, spec_FormatInt_small h5 h6, Option.bind_some, Bool.not_true, cond_false]
  cases c.Split == 1
  · cases c.Split == 2
    · rfl
    · simp only [cond_true, cond_false]
      rw [gd_pos (by simp), gd_pos (by simp [sadd])]; rfl
  · simp only [cond_true]
    rw [gd_pos (by simp), gd_pos (by simp [sadd])]; rfl

theorem spec_TextOf_eq {b : GBlock} (h : BlockOkM b = true) : spec_TextOf b = some (textM b) := by
  obtain ⟨n, hn, h1, h2, hl, hc⟩ := blockOk_spec h
  have hnn : n * n ≤ 4 * 4 := Nat.mul_le_mul h2 h2
  unfold spec_TextOf
  rw [gd_pos (by omega), lpO_st (f := spec_TextOf_L1 b) (s0 := (⟨[]⟩ : Str)) (fun k => (⟨cellsTextM (b.Cells.take k)⟩ : Str)) rfl (fun k hk => by
    have hx := hc _ (gx_mem hk)
    have hlen := cellsText_len (b.Cells.take k)
    have hlen2 : (b.Cells.take k).length ≤ 16 := by simp; omega
    have hlen3 := cellText_len (gx b.Cells k)
    simp only [spec_TextOf_L1, spec_BlockOk_eq, h, cond_true, Option.bind_some, spec_CellText_eq hx]
    rw [gd_pos (by omega), gd_pos (by simp only [sadd, List.length_append, List.length_cons, List.length_nil]; omega)]
    rw [List.take_succ_eq_append_getElem hk, ← gx_lt hk]
    simp [sadd, cellsTextM])]
  simp [textM, h]

theorem text_seq {b d : GBlock} (hb : BlockOkM b = true) (hd : BlockOkM d = true) : seq (textM b) (textM d) = SameBlockM b d := by
  rw [Bool.eq_iff_iff, sameBlock_iff]
  unfold seq
  rw [beq_iff_eq]
  constructor
  · intro h
    exact text_inj hb hd (by
      revert h
      cases textM b; cases textM d
      intro h
      simp only at h
      rw [h])
  · intro h; rw [h]

theorem spec_l18Shows_eq {q : GQuilt} {bs : List GBlock} (h : QuiltOkM q bs = true) : spec_l18Shows q bs = some ((shownM q bs).map textM) := by
  obtain ⟨w, hh, _, _, _, h2, _, h4, hl, _, _, hb, hsp⟩ := quiltOk_spec h
  have hlen : hh * w ≤ 6 * 6 := Nat.mul_le_mul h4 h2
  unfold spec_l18Shows
  rw [gd_pos (by omega), lpO_app (f := spec_l18Shows_L1 q bs) (xs := []) (fun k => textM (spotM bs (gx q.Spots k))) (fun k s hk hs => by
    obtain ⟨h1, h2, h3⟩ := hsp _ (gx_mem hk)
    have hok := (spot_ok h (gx_mem hk)).1
    unfold spotM at hok ⊢
    simp only [spec_l18Shows_L1, spec_SeenFrom_eq, Option.bind_some, spec_TextOf_eq hok]
    rw [gd_pos ⟨h1, h2⟩, gd_pos (by simp at hs; omega)]), map_gx (fun s => textM (spotM bs s))]
  simp [shownM]

theorem tdiv_nat (a b : Nat) : ((a : Int)).tdiv (b : Int) = ((a / b : Nat) : Int) := rfl
theorem tmod_nat (a b : Nat) : ((a : Int)).tmod (b : Int) = ((a % b : Nat) : Int) := rfl
def tgtM (w h dx dy i : Nat) : Nat := (i / w + dy) % h * w + (i % w + dx) % w
def sameAtM (l : List GBlock) (w h dx dy : Nat) : Bool := (List.range (h * w)).all fun i => SameBlockM (gx l i) (gx l (tgtM w h dx dy i))
theorem all_grid {h w : Nat} (P : Nat → Nat → Bool) (hw : 0 < w) : ((List.range (h * w)).all fun i => P (i / w) (i % w)) = (List.range h).all fun y => (List.range w).all fun x => P y x := by
  rw [Bool.eq_iff_iff]
  simp only [List.all_eq_true, List.mem_range]
  constructor
  · intro H y hy x hx
    have := H (y * w + x) (idx_lt2 hy hx)
    rwa [show (y * w + x) / w = y by rw [Nat.mul_comm, Nat.mul_add_div hw, Nat.div_eq_of_lt hx]; rfl, show (y * w + x) % w = x by rw [Nat.mul_comm, Nat.mul_add_mod, Nat.mod_eq_of_lt hx]] at this
  · intro H i hi
    exact H _ ((Nat.div_lt_iff_lt_mul hw).2 hi) _ (Nat.mod_lt _ hw)
theorem sameAt_grid {l : List GBlock} {w h dx dy : Nat} (hw : 0 < w) : sameAtM l w h dx dy = (List.range h).all fun y => (List.range w).all fun x => SameBlockM (gx l (y * w + x)) (gx l ((y + dy) % h * w + (x + dx) % w)) := by
  rw [← all_grid (fun y x => SameBlockM (gx l (y * w + x)) (gx l ((y + dy) % h * w + (x + dx) % w))) hw]
  unfold sameAtM tgtM
  congr 1
  funext i
  congr 2
  rw [Nat.mul_comm]
  exact (Nat.div_add_mod i w).symm
theorem tgt_lt {w h dx dy i : Nat} (hw : 0 < w) (hh : 0 < h) : tgtM w h dx dy i < h * w := idx_lt2 (Nat.mod_lt _ hh) (Nat.mod_lt _ hw)

theorem spec_l18Same_eq {q : GQuilt} {bs : List GBlock} (h : QuiltOkM q bs = true) {dx dy : Nat} (hx : dx ≤ 6) (hy : dy ≤ 6) : spec_l18Same q ((shownM q bs).map textM) (dx : Int) (dy : Int) = some (sameAtM (shownM q bs) q.Width.toNat q.Height.toNat dx dy) := by
  obtain ⟨w, hh, e1, e2, h1, h2, h3, h4, hl, h5, h6, hb, hsp⟩ := quiltOk_spec h
  have hsl : (shownM q bs).length = hh * w := by simp [shownM, hl]
  have hw0 : 0 < w := by omega
  have hok : ∀ i, i < hh * w → BlockOkM (gx (shownM q bs) i) = true := fun i hi => by
    unfold shownM
    rw [gx_map _ (by omega)]
    exact (spot_ok h (gx_mem (by omega))).1
  rw [e1, e2, Int.toNat_natCast, Int.toNat_natCast, sameAt_grid hw0]
  unfold spec_l18Same
  rw [e2, Int.toNat_natCast, gd_pos (by omega), forO_all (f := spec_l18Same_L1 q ((shownM q bs).map textM) dx dy) (c := false) (fun y => (List.range w).all fun x => SameBlockM (gx (shownM q bs) (y * w + x)) (gx (shownM q bs) ((y + dy) % hh * w + (x + dx) % w))) (fun y hy => by
    unfold spec_l18Same_L1
    rw [e1, Int.toNat_natCast, gd_pos (by omega), forO_all (f := spec_l18Same_L2 q ((shownM q bs).map textM) dx dy y) (c := .ret false) (fun x => SameBlockM (gx (shownM q bs) (y * w + x)) (gx (shownM q bs) ((y + dy) % hh * w + (x + dx) % w))) (fun x hx => by
      obtain ⟨i1, i2, i3, i4⟩ := idx_wh (w := w) (h := hh) (x := x) (y := y) h2 h4 hx hy
      obtain ⟨j1, j2, j3, j4⟩ := idx_wh (w := w) (h := hh) (x := (x + dx) % w) (y := (y + dy) % hh) h2 h4 (Nat.mod_lt _ (by omega)) (Nat.mod_lt _ (by omega))
      have a1 : wr ((y : Int) + (dy : Int)) = ((y + dy : Nat) : Int) := by rw [wr_of (by omega) (by omega)]; simp
      have a2 : wr ((x : Int) + (dx : Int)) = ((x + dx : Nat) : Int) := by rw [wr_of (by omega) (by omega)]; simp
      simp only [spec_l18Same_L2, e1, e2, a1, a2, i1, j1, tmod_nat, Int.toNat_natCast]
      rw [gd_pos ⟨by omega, by simp only [List.length_map]; omega⟩, gd_pos (by omega), gd_pos (by omega), gd_pos ⟨by omega, by simp only [List.length_map]; omega⟩,
        gx_map textM (by omega), gx_map textM (by omega), text_seq (hok _ i3) (hok _ j3)]
      cases SameBlockM (gx (shownM q bs) (y * w + x)) (gx (shownM q bs) ((y + dy) % hh * w + (x + dx) % w)) <;> rfl)]
    cases (List.range w).all fun x => SameBlockM (gx (shownM q bs) (y * w + x)) (gx (shownM q bs) ((y + dy) % hh * w + (x + dx) % w)) <;> rfl)]
  cases (List.range hh).all fun y => (List.range w).all fun x => SameBlockM (gx (shownM q bs) (y * w + x)) (gx (shownM q bs) ((y + dy) % hh * w + (x + dx) % w)) <;> rfl

def HasShiftM (q : GQuilt) (bs : List GBlock) (dx dy : Int) : Bool := QuiltOkM q bs && inR dx 0 (q.Width - 1) && inR dy 0 (q.Height - 1) && sameAtM (shownM q bs) q.Width.toNat q.Height.toNat dx.toNat dy.toNat

theorem spec_HasShift_eq (q : GQuilt) (bs : List GBlock) (dx dy : Int) : spec_HasShift q bs dx dy = some (HasShiftM q bs dx dy) := by
  unfold spec_HasShift HasShiftM
  simp only [spec_QuiltOk_eq, l01In_eq, Option.bind_some]
  cases h : QuiltOkM q bs
  · rfl
  obtain ⟨w, hh, e1, e2, h1, h2, h3, h4, hl, h5, h6, hb, hsp⟩ := quiltOk_spec h
  have ew : wr (q.Width - 1) = q.Width - 1 := wr_of (by omega) (by omega)
  have eh : wr (q.Height - 1) = q.Height - 1 := wr_of (by omega) (by omega)
  simp only [ew, eh, Bool.not_true, cond_false]
  cases hx : inR dx 0 (q.Width - 1)
  · rfl
  cases hy : inR dy 0 (q.Height - 1)
  · rfl
  rw [inR_iff] at hx hy
  obtain ⟨x', rfl⟩ := Int.eq_ofNat_of_zero_le hx.1
  obtain ⟨y', rfl⟩ := Int.eq_ofNat_of_zero_le hy.1
  simp only [Bool.not_true, cond_false, Option.bind_some, spec_l18Shows_eq h, spec_l18Same_eq h (show x' ≤ 6 by omega) (show y' ≤ 6 by omega), Int.toNat_natCast, Bool.true_and]

theorem impl_isShift_eq {q : GQuilt} (h1 : inR q.Width 1 6 = true) (h2 : inR q.Height 1 6 = true) (dx dy : Int) : impl_isShift q dx dy = some (inR dx 0 (q.Width - 1) && inR dy 0 (q.Height - 1)) := by
  rw [inR_iff] at h1 h2
  have ew : wr (q.Width - 1) = q.Width - 1 := wr_of (by omega) (by omega)
  have eh : wr (q.Height - 1) = q.Height - 1 := wr_of (by omega) (by omega)
  unfold impl_isShift
  simp only [ew, eh, within_eq, Option.bind_some]
  cases inR dx 0 (q.Width - 1) <;> cases inR dy 0 (q.Height - 1) <;> rfl

theorem impl_shifted_eq {q : GQuilt} {w h dx dy i : Nat} (e1 : q.Width = w) (e2 : q.Height = h) (h1 : 1 ≤ w) (h2 : w ≤ 6) (h3 : 1 ≤ h) (h4 : h ≤ 6) (hi : i < h * w) (hx : dx ≤ 6) (hy : dy ≤ 6) : impl_shifted q (i : Int) dx dy = some ((tgtM w h dx dy i : Nat) : Int) := by
  have hlen : h * w ≤ 6 * 6 := Nat.mul_le_mul h4 h2
  have d1 : i / w ≤ i := Nat.div_le_self _ _
  have d2 : i % w < w := Nat.mod_lt _ (by omega)
  unfold impl_shifted tgtM
  rw [e1, e2, gd_pos (by omega), gd_pos (by omega)]
  simp only [tdiv_nat, tmod_nat]
  generalize i / w = u at d1 ⊢
  generalize i % w = v at d2 ⊢
  have a0 : wr ((u : Int)) = (u : Int) := wr_of (by omega) (by omega)
  have a1 : wr ((u : Int) + (dy : Int)) = ((u + dy : Nat) : Int) := by rw [wr_of (by omega) (by omega)]; simp
  have a2 : wr ((v : Int) + (dx : Int)) = ((v + dx : Nat) : Int) := by rw [wr_of (by omega) (by omega)]; simp
  obtain ⟨j1, j2, j3, j4⟩ := idx_wh (w := w) (h := h) (x := (v + dx) % w) (y := (u + dy) % h) h2 h4 (Nat.mod_lt _ (by omega)) (Nat.mod_lt _ (by omega))
  simp only [a0, a1, a2, tmod_nat, j1]

theorem impl_HasShift_eq (q : GQuilt) (bs : List GBlock) (dx dy : Int) : impl_HasShift q bs dx dy = some (HasShiftM q bs dx dy) := by
  unfold impl_HasShift HasShiftM
  simp only [impl_QuiltOk_eq, Option.bind_some]
  cases h : QuiltOkM q bs
  · rfl
  obtain ⟨w, hh, e1, e2, h1, h2, h3, h4, hl, h5, h6, hb, hsp⟩ := quiltOk_spec h
  have hlen : hh * w ≤ 6 * 6 := Nat.mul_le_mul h4 h2
  simp only [Bool.not_true, cond_false, Option.bind_some, impl_isShift_eq (q := q) (inR_iff.2 ⟨by omega, by omega⟩) (inR_iff.2 ⟨by omega, by omega⟩)]
  cases hx : inR dx 0 (q.Width - 1)
  · rfl
  cases hy : inR dy 0 (q.Height - 1)
  · rfl
  rw [inR_iff] at hx hy
  obtain ⟨x', rfl⟩ := Int.eq_ofNat_of_zero_le hx.1
  obtain ⟨y', rfl⟩ := Int.eq_ofNat_of_zero_le hy.1
  have hsl : (shownM q bs).length = hh * w := by simp [shownM, hl]
  have hok : ∀ i, i < hh * w → BlockOkM (gx (shownM q bs) i) = true := fun i hi => by
    unfold shownM
    rw [gx_map _ (by omega)]
    exact (spot_ok h (gx_mem (by omega))).1
  simp only [Bool.and_self, Bool.not_true, cond_false, Option.bind_some, impl_shown_eq h, e1, e2, Int.toNat_natCast, Bool.true_and]
  rw [hsl, gd_pos (by omega), forO_all (f := impl_HasShift_L1 q x' y' (shownM q bs)) (c := false) (fun i => SameBlockM (gx (shownM q bs) i) (gx (shownM q bs) (tgtM w hh x' y' i))) (fun i hi => by
    have ht : tgtM w hh x' y' i < hh * w := tgt_lt (by omega) (by omega)
    have hs := (blockOk_sm (hok i hi)).1
    simp only [impl_HasShift_L1, impl_shifted_eq e1 e2 h1 h2 h3 h4 hi (show x' ≤ 6 by omega) (show y' ≤ 6 by omega), Option.bind_some, Int.toNat_natCast, impl_SameBlock_eq hs]
    rw [gd_pos ⟨by omega, by omega⟩]
    cases SameBlockM (gx (shownM q bs) i) (gx (shownM q bs) (tgtM w hh x' y' i)) <;> rfl)]
  unfold sameAtM
  cases (List.range (hh * w)).all fun i => SameBlockM (gx (shownM q bs) i) (gx (shownM q bs) (tgtM w hh x' y' i)) <;> rfl

theorem same_HasShift (q : GQuilt) (bs : List GBlock) (dx dy : Int) (_ : Sm.ok q) (_ : Sm.ok bs) (_ : Fit.ok dx) (_ : Fit.ok dy) : ∃ w, spec_HasShift q bs dx dy = some w ∧ impl_HasShift q bs dx dy = some w :=
  ⟨_, spec_HasShift_eq q bs dx dy, impl_HasShift_eq q bs dx dy⟩

theorem p_FnExactHasShift (a0 : GQuilt) (a1 : List GBlock) (a2 : Int) (a3 : Int) (f0 : Fit.ok a0) (f1 : Fit.ok a1) (f2 : Fit.ok a2) (f3 : Fit.ok a3) : laws_FnExactHasShift a0 a1 a2 a3 = some true := by
  unfold laws_FnExactHasShift
  obtain ⟨r0, hr0, hc0⟩ := sz_Quilt a0 1048576 (by omega) (by omega) f0
  rcases hc0 with hc0 | ⟨s0, u0, w0⟩
  · simp [hr0, hc0]
  have n0 : ¬ r0 < 0 := by omega
  obtain ⟨r1, hr1, hc1⟩ := sz_BlockS a1 r0 (by omega) (by omega) f1
  rcases hc1 with hc1 | ⟨s1, u1, w1⟩
  · simp [hr1, hc1, hr0, n0]
  have n1 : ¬ r1 < 0 := by omega
  obtain ⟨w, hs, hi⟩ := same_HasShift a0 a1 a2 a3 s0 s1 f2 f3
  simp [hr0, n0, hr1, n1, to_Quilt a0 s0, eq_Quilt a0 s0, to_BlockS a1 s1, eq_BlockS a1 s1, hs, hi]
end Go.Proofs.Ytgimnmlcdidcdag
