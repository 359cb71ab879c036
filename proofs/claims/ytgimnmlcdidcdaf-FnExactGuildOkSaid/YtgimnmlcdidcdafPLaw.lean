/-
  The plain laws: what the functions compute, in Lean alone.
-/
import Derived.Test.YtgimnmlcdidcdafPure
namespace Go.Proofs.Ytgimnmlcdidcdaf
open Go

theorem gd_pos {α : Type} {p : Prop} [Decidable p] (h : p) (t : Option α) : gd p t = t := by simp [gd, h]
@[simp] theorem sq_inl {J C : Type} (j : J) (k : J → Option C) : sq (some (.inl j)) k = k j := rfl
@[simp] theorem sq_inr {J C : Type} (c : C) (k : J → Option C) : sq (some (.inr c)) k = some c := rfl

section
variable {S C : Type} {f : Nat → S → Option (Res S C)} {N : Nat}
theorem forO_at (st : Nat → S) (h : ∀ k, k < N → f k (st k) = some (.next (st (k + 1)))) : ∀ m k, k + m = N → forO f m k (st k) = some (.inl (st N))
  | 0, k, e => by simp at e; subst e; rfl
  | m + 1, k, e => by
    rw [forO, h k (by omega)]
    exact forO_at st h m (k + 1) (by omega)
theorem forO_st (st : Nat → S) {s0 : S} (h0 : s0 = st 0) (h : ∀ k, k < N → f k (st k) = some (.next (st (k + 1)))) : forO f N 0 s0 = some (.inl (st N)) := by
  rw [h0]; exact forO_at st h N 0 (by omega)
theorem forO_upto (st : Nat → S) (K : Nat) (hK : K < N) (h : ∀ k, k < K → f k (st k) = some (.next (st (k + 1)))) : ∀ m k, k + m = N → k ≤ K → forO f m k (st k) = forO f (N - K) K (st K)
  | 0, k, e, hk => by omega
  | m + 1, k, e, hk => by
    rcases Nat.lt_or_ge k K with hlt | hge
    · rw [forO, h k hlt]
      exact forO_upto st K hK h m (k + 1) (by omega) (by omega)
    · have : k = K := by omega
      subst this
      rw [show N - k = m + 1 by omega]
theorem forO_retAt (st : Nat → S) {s0 : S} (h0 : s0 = st 0) (K : Nat) (hK : K < N) (h : ∀ k, k < K → f k (st k) = some (.next (st (k + 1)))) {c : C} (hr : f K (st K) = some (.ret c)) : forO f N 0 s0 = some (.inr c) := by
  rw [h0, forO_upto st K hK h N 0 (by omega) (by omega), show N - K = (N - K - 1) + 1 by omega, forO, hr]; rfl
theorem forO_brkAt (st : Nat → S) {s0 : S} (h0 : s0 = st 0) (K : Nat) (hK : K < N) (h : ∀ k, k < K → f k (st k) = some (.next (st (k + 1)))) {s' : S} (hr : f K (st K) = some (.brk s')) : forO f N 0 s0 = some (.inl s') := by
  rw [h0, forO_upto st K hK h N 0 (by omega) (by omega), show N - K = (N - K - 1) + 1 by omega, forO, hr]; rfl
/-- A loop that looks for the first place where p fails. -/
theorem forO_all (p : Nat → Bool) {s : S} {c : C} (h : ∀ k, k < N → f k s = some (bif p k then .next s else .ret c)) : forO f N 0 s = some (bif (List.range N).all p then .inl s else .inr c) := by
  cases ha : (List.range N).all p with
  | true =>
    rw [List.all_eq_true] at ha
    exact forO_st (fun _ => s) rfl fun k hk => by rw [h k hk, ha k (by simpa using hk)]; rfl
  | false =>
    have : ∃ k, k < N ∧ p k = false := by
      rw [List.all_eq_false] at ha
      obtain ⟨k, hk, hp⟩ := ha
      exact ⟨k, by simpa using hk, by simpa using hp⟩
    have hmin : ∃ k, k < N ∧ p k = false ∧ ∀ j, j < k → p j = true := by
      obtain ⟨k, hk, hp⟩ := this
      induction k using Nat.strongRecOn with
      | _ k ih =>
        by_cases hx : ∃ j, j < k ∧ p j = false
        · obtain ⟨j, hj, hpj⟩ := hx
          exact ih j hj (by omega) hpj
        · refine ⟨k, hk, hp, fun j hj => ?_⟩
          cases hpj : p j with
          | true => rfl
          | false => exact absurd ⟨j, hj, hpj⟩ hx
    obtain ⟨k, hk, hp, hall⟩ := hmin
    exact forO_retAt (fun _ => s) rfl k hk (fun j hj => by rw [h j (by omega), hall j hj]; rfl) (by rw [h k hk, hp]; rfl)
/-- A loop that returns at the first place where p holds. -/
theorem forO_find (p : Nat → Bool) {s : S} (c : Nat → C) (h : ∀ k, k < N → f k s = some (bif p k then .ret (c k) else .next s)) : forO f N 0 s = some (match (List.range N).find? p with | some k => .inr (c k) | none => .inl s) := by
  cases ha : (List.range N).find? p with
  | none =>
    rw [List.find?_eq_none] at ha
    exact forO_st (fun _ => s) rfl fun k hk => by
      rw [h k hk]
      have := ha k (by simpa using hk)
      simp at this
      rw [this]; rfl
  | some K =>
    have hp := List.find?_some ha
    have hK : K < N := by simpa using List.mem_of_find?_eq_some ha
    refine forO_retAt (fun _ => s) rfl K hK (fun j hj => ?_) (by rw [h K hK, hp]; rfl)
    rw [h j (by omega)]
    have : p j = false := by
      rw [List.find?_range_eq_some] at ha
      simpa using ha.2.2 j hj
    rw [this]; rfl
end
section
variable {S : Type} {f : Nat → S → Option (Res S Empty)} {N : Nat}
theorem lpO_st (st : Nat → S) {s0 : S} (h0 : s0 = st 0) (h : ∀ k, k < N → f k (st k) = some (.next (st (k + 1)))) : lpO f N s0 = some (st N) := by
  unfold lpO; rw [forO_st st h0 h]; rfl
/-- A state that each round turns by g. -/
def fold {S : Type} (g : Nat → S → S) (s0 : S) : Nat → S
  | 0 => s0
  | n + 1 => g n (fold g s0 n)
theorem lpO_fold (g : Nat → S → S) {s0 : S} (h : ∀ k, k < N → f k (fold g s0 k) = some (.next (g k (fold g s0 k)))) : lpO f N s0 = some (fold g s0 N) :=
  lpO_st (fold g s0) rfl h
end
section
variable {α : Type} {f : Nat → List α → Option (Res (List α) Empty)} {N : Nat}
theorem lpO_app (F : Nat → α) {xs : List α} (h : ∀ k s, k < N → s.length = xs.length + k → f k s = some (.next (s ++ [F k]))) : lpO f N xs = some (xs ++ (List.range N).map F) :=
  lpO_st (fun k => xs ++ (List.range k).map F) (by simp) fun k hk => by
    rw [h k _ hk (by simp)]
    simp [List.range_succ]
theorem lpO_filter (p : Nat → Bool) (F : Nat → α) {xs : List α} (h : ∀ k s, k < N → s.length ≤ xs.length + k → f k s = some (.next (bif p k then s ++ [F k] else s))) : lpO f N xs = some (xs ++ ((List.range N).filter p).map F) :=
  lpO_st (fun k => xs ++ ((List.range k).filter p).map F) (by simp) fun k hk => by
    rw [h k _ hk (by
      have := List.length_filter_le p (List.range k)
      simp at this ⊢; omega)]
    cases hp : p k <;> simp [List.range_succ, List.filter_append, hp]
theorem lpO_cat (F : Nat → List α) {xs : List α} (h : ∀ k s, k < N → s = xs ++ (List.range k).flatMap F → f k s = some (.next (s ++ F k))) : lpO f N xs = some (xs ++ (List.range N).flatMap F) :=
  lpO_st (fun k => xs ++ (List.range k).flatMap F) (by simp) fun k hk => by
    rw [h k _ hk rfl]
    simp [List.range_succ]
end
theorem map_gx {α β : Type} [Rep α] (F : α → β) (xs : List α) : (List.range xs.length).map (fun k => F (gx xs k)) = xs.map F := by
  apply List.ext_getElem
  · simp
  · intro i h1 h2
    simp at h1
    simp [gx, List.getD, h1]
theorem all_gx {α : Type} [Rep α] (F : α → Bool) (xs : List α) : (List.range xs.length).all (fun k => F (gx xs k)) = xs.all F := by
  have := map_gx F xs
  calc (List.range xs.length).all (fun k => F (gx xs k)) = ((List.range xs.length).map (fun k => F (gx xs k))).all id := by simp [List.all_map]
    _ = xs.all F := by rw [this]; simp [List.all_map]
theorem gx_lt {α : Type} [Rep α] {xs : List α} {k : Nat} (h : k < xs.length) : gx xs k = xs[k] := by simp [gx, List.getD, h]
theorem gx_mem {α : Type} [Rep α] {xs : List α} {k : Nat} (h : k < xs.length) : gx xs k ∈ xs := by rw [gx_lt h]; exact List.getElem_mem h
theorem wr_of {n : Int} (h1 : -4611686018427387904 ≤ n) (h2 : n ≤ 4611686018427387904) : wr n = n := wr_id (by omega) (by omega)

/-- What is small enough for all bounds. -/
class Sm (α : Type) where
  ok : α → Prop
instance : Sm Int := ⟨fun _ => True⟩
instance : Sm Bool := ⟨fun _ => True⟩
instance : Sm Str := ⟨fun s => s.b.length ≤ 1048576⟩
instance (α : Type) [Sm α] : Sm (List α) := ⟨fun xs => xs.length ≤ 1048576 ∧ ∀ x ∈ xs, Sm.ok x⟩
theorem sm_len {α : Type} [Sm α] {xs : List α} (h : Sm.ok xs) : xs.length ≤ 1048576 := h.1
theorem sm_gx {α : Type} [Sm α] [Rep α] {xs : List α} (h : Sm.ok xs) {k : Nat} (hk : k < xs.length) : Sm.ok (gx xs k) := h.2 _ (gx_mem hk)
theorem sm_ints {xs : List Int} (h : xs.length ≤ 1048576) : Sm.ok xs := ⟨h, fun _ _ => trivial⟩

theorem gx_set_ne {α : Type} [Rep α] {xs : List α} {k j : Nat} {e : α} (h : j ≠ k) : gx (xs.set k e) j = gx xs j := by
  simp [gx, List.getD, List.getElem?_set_ne (Ne.symm h)]
theorem gx_ext {α : Type} [Rep α] {xs ys : List α} (hl : xs.length = ys.length) (h : ∀ k, k < xs.length → gx xs k = gx ys k) : xs = ys := by
  apply List.ext_getElem hl
  intro i h1 h2
  have := h i h1
  rwa [gx_lt h1, gx_lt h2] at this

theorem to_list {α : Type} [Rep α] {f : Nat → List α → Option (Res (List α) Empty)} (a : List α) (z : α) (h : ∀ k s, k < a.length → s.length = a.length → f k s = some (.next (s.set k (gx a k)))) : lpO f a.length (List.replicate a.length z) = some a := by
  have := lpO_st (f := f) (N := a.length) (fun k => a.take k ++ List.replicate (a.length - k) z) (s0 := List.replicate a.length z) (by simp) fun k hk => by
    rw [h k _ hk (by simp; omega)]
    congr 2
    apply List.ext_getElem
    · simp; omega
    · intro i h1 h2
      rw [List.getElem_set]
      split
      · rename_i e; subst e
        rw [gx_lt hk, List.getElem_append_left (by simp; omega)]
        simp
      · rename_i hne
        rcases Nat.lt_or_ge i k with hi | hi
        · rw [List.getElem_append_left (by simp; omega), List.getElem_append_left (by simp; omega)]; simp
        · rw [List.getElem_append_right (by simp; omega), List.getElem_append_right (by simp; omega)]; simp
  simpa using this
theorem all_next {C : Type} {f : Nat → Unit → Option (Res Unit C)} {N : Nat} (h : ∀ k, k < N → f k () = some (.next ())) : forO f N 0 () = some (.inl ()) := forO_st (fun _ => ()) rfl h

theorem mark_list {α : Type} [Rep α] {f : Nat → List α × Int → Option (Res (List α × Int) Empty)} (a : List α) (j0 B M : Int) (R : α → Int → Int → Prop) (hB : 0 ≤ B) (hM : j0 + B * a.length ≤ M)
    (h : ∀ k s j, k < a.length → s.length = a.length → gx s k = gx a k → j0 ≤ j → j + B ≤ M → ∃ e j', f k (s, j) = some (.next (s.set k e, j')) ∧ j ≤ j' ∧ j' ≤ j + B ∧ R e j j') :
    ∃ (a' : List α) (js : Nat → Int), lpO f a.length (a, j0) = some (a', js a.length) ∧ a'.length = a.length ∧ js 0 = j0 ∧ j0 ≤ js a.length ∧ js a.length ≤ j0 + B * a.length ∧ ∀ k, k < a.length → R (gx a' k) (js k) (js (k + 1)) ∧ j0 ≤ js k := by
  have key : ∀ m k (s : List α) (j : Int), k + m = a.length → s.length = a.length → (∀ i, k ≤ i → i < a.length → gx s i = gx a i) → j0 ≤ j → j ≤ j0 + B * k →
      ∃ (a' : List α) (js : Nat → Int), forO f m k (s, j) = some (.inl (a', js a.length)) ∧ a'.length = a.length ∧ js k = j ∧ j ≤ js a.length ∧ js a.length ≤ j0 + B * a.length ∧ (∀ i, i < k → gx a' i = gx s i) ∧ ∀ i, k ≤ i → i < a.length → R (gx a' i) (js i) (js (i + 1)) ∧ j ≤ js i := by
    intro m
    induction m with
    | zero =>
      intro k s j hk hl _ h0 h1
      have e : k = a.length := by omega
      subst e
      exact ⟨s, fun _ => j, rfl, hl, rfl, Int.le_refl _, h1, fun _ _ => rfl, fun i h1 h2 => by omega⟩
    | succ m ih =>
      intro k s j hk hl hs h0 h1
      have hle : B * (k : Int) + B ≤ B * a.length := by
        have : (k : Int) + 1 ≤ a.length := by omega
        have := Int.mul_le_mul_of_nonneg_left this hB
        rw [Int.mul_add, Int.mul_one] at this
        exact this
      obtain ⟨e, j', hf, g1, g2, hR⟩ := h k s j (by omega) hl (hs k (Nat.le_refl _) (by omega)) h0 (by omega)
      obtain ⟨a', js, i1, i2, i3, i3', i4, i5, i6⟩ := ih (k + 1) (s.set k e) j' (by omega) (by simpa using hl) (fun i h1 h2 => by rw [gx_set_ne (by omega)]; exact hs i (by omega) h2) (by omega) (by
        have e1 : B * ((k + 1 : Nat) : Int) = B * k + B := by rw [Int.natCast_add, Int.mul_add]; simp
        rw [e1]; omega)
      refine ⟨a', fun i => if i = k then j else js i, ?_, i2, by simp, ?_, ?_, fun i hi => ?_, fun i h1 h2 => ?_⟩
      · rw [forO, hf]
        have hne : a.length ≠ k := by omega
        simp only [Option.bind_some, hne, if_false]
        exact i1
      · have hne : a.length ≠ k := by omega
        simp only [hne, if_false]
        omega
      · have hne : a.length ≠ k := by omega
        simp only [hne, if_false]
        exact i4
      · rw [i5 i (by omega), gx_set_ne (by omega)]
      · rcases Nat.eq_or_lt_of_le h1 with e1 | e1
        · subst e1
          have hne : k + 1 ≠ k := by omega
          simp only [if_true, hne, if_false]
          rw [i3, i5 k (by omega), gx_set (by omega)]
          exact ⟨hR, Int.le_refl _⟩
        · have n1 : i ≠ k := by omega
          have n2 : i + 1 ≠ k := by omega
          simp only [n1, n2, if_false]
          obtain ⟨q1, q2⟩ := i6 i (by omega) h2
          exact ⟨q1, by omega⟩
  obtain ⟨a', js, i1, i2, i3, i3', i4, _, i6⟩ := key a.length 0 a j0 (by omega) rfl (fun _ _ _ => rfl) (Int.le_refl _) (by simp)
  refine ⟨a', js, ?_, i2, i3, i3', i4, fun k hk => i6 k (Nat.zero_le _) hk⟩
  unfold lpO
  rw [i1]; rfl
theorem held_list {C : Type} {f : Nat → Int → Option (Res Int C)} {N : Nat} (js : Nat → Int) {j0 : Int} (h0 : js 0 = j0) (h : ∀ k, k < N → f k (js k) = some (.next (js (k + 1)))) : forO f N 0 j0 = some (.inl (js N)) := forO_st js h0.symm h
/-- Sizes: each round takes off what an element has, or ends. -/
theorem size_list {f : Nat → Int → Option (Res Int Int)} {N : Nat} (P : Nat → Prop) (l : Int) (h : ∀ k j, k < N → 0 ≤ j → j ≤ l → (f k j = some (.ret (-1))) ∨ ∃ j', f k j = some (.next j') ∧ 0 ≤ j' ∧ j' ≤ j ∧ P k) (hl : 0 ≤ l) :
    forO f N 0 l = some (.inr (-1)) ∨ ∃ j, forO f N 0 l = some (.inl j) ∧ 0 ≤ j ∧ j ≤ l ∧ ∀ k, k < N → P k := by
  have key : ∀ m k j, k + m = N → 0 ≤ j → j ≤ l → (∀ i, i < k → P i) → forO f m k j = some (.inr (-1)) ∨ ∃ j', forO f m k j = some (.inl j') ∧ 0 ≤ j' ∧ j' ≤ l ∧ ∀ i, i < N → P i := by
    intro m
    induction m with
    | zero => intro k j hk h0 h1 hP; exact .inr ⟨j, rfl, h0, h1, fun i hi => hP i (by omega)⟩
    | succ m ih =>
      intro k j hk h0 h1 hP
      rcases h k j (by omega) h0 h1 with hr | ⟨j', hr, g1, g2, g3⟩
      · left; rw [forO, hr]; rfl
      · rw [forO, hr]
        exact ih (k + 1) j' (by omega) g1 (by omega) (fun i hi => by
          rcases Nat.lt_or_ge i k with h | h
          · exact hP i h
          · have : i = k := by omega
            subst this; exact g3)
  exact key N 0 l (by omega) hl (Int.le_refl _) (fun i hi => by omega)
theorem all_of_gx {α : Type} [Rep α] {xs : List α} {P : α → Prop} (h : ∀ k, k < xs.length → P (gx xs k)) : ∀ x ∈ xs, P x := fun x hx => by
  obtain ⟨i, hi, rfl⟩ := List.getElem_of_mem hx
  have := h i hi
  rwa [gx_lt hi] at this

-- type GCell
instance : Sm GCell := ⟨fun _ => True⟩

@[simp] theorem to_Cell (a : GCell) : laws_toCell a = some a := by cases a; rfl

@[simp] theorem eq_Cell (a : GCell) : laws_eqCell a a = some true := by simp [laws_eqCell]

theorem to_CellS (a : List GCell) (hs : Sm.ok a) : laws_toCellS a = some a := by
  have hl := sm_len hs
  unfold laws_toCellS
  rw [gd_pos (by omega), gd_pos (by omega), to_list (f := laws_toCellS_L1 a) a _ (fun k s hk hl' => by
    simp only [laws_toCellS_L1, to_Cell, Option.bind_some]
    rw [gd_pos (by omega)])]
  rfl

theorem eq_CellS (a : List GCell) (hs : Sm.ok a) : laws_eqCellS a a = some true := by
  have hl := sm_len hs
  unfold laws_eqCellS
  simp only [bne_self_eq_false, cond_false]
  rw [gd_pos (by omega), all_next (f := laws_eqCellS_L1 a a) (fun k hk => by
    simp only [laws_eqCellS_L1, eq_Cell (gx a k), Option.bind_some]
    rw [gd_pos hk]; rfl)]
  rfl

theorem sz_CellS (a : List GCell) (l : Int) (h0 : 0 ≤ l) (h1 : l ≤ 1048576) (hf : a.length ≤ maxLen) : ∃ r, laws_szCellS a l = some r ∧ (r < 0 ∨ (Sm.ok a ∧ 0 ≤ r ∧ r ≤ l)) := by
  unfold maxLen at hf
  have e : wr (l - (a.length : Int)) = l - (a.length : Int) := wr_id (by omega) (by omega)
  unfold laws_szCellS
  rw [e]
  by_cases h : l - (a.length : Int) < 0
  · exact ⟨-1, by simp [h], .inl (by omega)⟩
  · exact ⟨l - (a.length : Int), by simp [h], .inr ⟨⟨by omega, fun _ _ => trivial⟩, by omega, by omega⟩⟩

-- type GBlock
instance : Sm GBlock := ⟨fun x => Sm.ok x.Cells⟩

theorem to_Block (a : GBlock) (hs : Sm.ok a) : laws_toBlock a = some a := by simp only [laws_toBlock, to_CellS a.Cells hs, Option.bind_some]

theorem eq_Block (a : GBlock) (hs : Sm.ok a) : laws_eqBlock a a = some true := by simp only [laws_eqBlock, bne_self_eq_false, cond_false, Option.bind_some, Bool.not_true, eq_CellS a.Cells hs]

theorem sz_Block (a : GBlock) (l : Int) (h0 : 0 ≤ l) (h1 : l ≤ 1048576) (hf : Fit.ok a) : ∃ r, laws_szBlock a l = some r ∧ (r < 0 ∨ (Sm.ok a ∧ 0 ≤ r ∧ r ≤ l)) := by
  obtain ⟨f0, f1⟩ := hf
  unfold laws_szBlock
  obtain ⟨r0, hr0, hc0⟩ := sz_CellS a.Cells l (by omega) (by omega) f1.1
  rcases hc0 with hc0 | ⟨s0, u0, w0⟩
  · exact ⟨-1, by simp [hr0, hc0], .inl (by omega)⟩
  have p0 : ¬ r0 < 0 := by omega
  exact ⟨r0, by simp [hr0, p0], .inr ⟨s0, by omega, by omega⟩⟩

-- type GMember
instance : Sm GMember := ⟨fun _ => True⟩

@[simp] theorem to_Member (a : GMember) : laws_toMember a = some a := by cases a; rfl

@[simp] theorem eq_Member (a : GMember) : laws_eqMember a a = some true := by simp [laws_eqMember]

theorem to_MemberS (a : List GMember) (hs : Sm.ok a) : laws_toMemberS a = some a := by
  have hl := sm_len hs
  unfold laws_toMemberS
  rw [gd_pos (by omega), gd_pos (by omega), to_list (f := laws_toMemberS_L1 a) a _ (fun k s hk hl' => by
    simp only [laws_toMemberS_L1, to_Member, Option.bind_some]
    rw [gd_pos (by omega)])]
  rfl

theorem eq_MemberS (a : List GMember) (hs : Sm.ok a) : laws_eqMemberS a a = some true := by
  have hl := sm_len hs
  unfold laws_eqMemberS
  simp only [bne_self_eq_false, cond_false]
  rw [gd_pos (by omega), all_next (f := laws_eqMemberS_L1 a a) (fun k hk => by
    simp only [laws_eqMemberS_L1, eq_Member (gx a k), Option.bind_some]
    rw [gd_pos hk]; rfl)]
  rfl

theorem sz_MemberS (a : List GMember) (l : Int) (h0 : 0 ≤ l) (h1 : l ≤ 1048576) (hf : a.length ≤ maxLen) : ∃ r, laws_szMemberS a l = some r ∧ (r < 0 ∨ (Sm.ok a ∧ 0 ≤ r ∧ r ≤ l)) := by
  unfold maxLen at hf
  have e : wr (l - (a.length : Int)) = l - (a.length : Int) := wr_id (by omega) (by omega)
  unfold laws_szMemberS
  rw [e]
  by_cases h : l - (a.length : Int) < 0
  · exact ⟨-1, by simp [h], .inl (by omega)⟩
  · exact ⟨l - (a.length : Int), by simp [h], .inr ⟨⟨by omega, fun _ _ => trivial⟩, by omega, by omega⟩⟩

theorem to_IntS (a : List Int) (hs : Sm.ok a) : laws_toIntS a = some a := by
  have hl := sm_len hs
  unfold laws_toIntS
  rw [gd_pos (by omega), gd_pos (by omega), to_list (f := laws_toIntS_L1 a) a _ (fun k s hk hl' => by
    simp only [laws_toIntS_L1, Option.bind_some]
    rw [gd_pos (by omega)])]
  rfl

theorem eq_IntS (a : List Int) (hs : Sm.ok a) : laws_eqIntS a a = some true := by
  have hl := sm_len hs
  unfold laws_eqIntS
  simp only [bne_self_eq_false, cond_false]
  rw [gd_pos (by omega), all_next (f := laws_eqIntS_L1 a a) (fun k hk => by
    simp [laws_eqIntS_L1, hk, gd])]
  rfl

theorem sz_IntS (a : List Int) (l : Int) (h0 : 0 ≤ l) (h1 : l ≤ 1048576) (hf : a.length ≤ maxLen) : ∃ r, laws_szIntS a l = some r ∧ (r < 0 ∨ (Sm.ok a ∧ 0 ≤ r ∧ r ≤ l)) := by
  unfold maxLen at hf
  have e : wr (l - (a.length : Int)) = l - (a.length : Int) := wr_id (by omega) (by omega)
  unfold laws_szIntS
  rw [e]
  by_cases h : l - (a.length : Int) < 0
  · exact ⟨-1, by simp [h], .inl (by omega)⟩
  · exact ⟨l - (a.length : Int), by simp [h], .inr ⟨⟨by omega, fun _ _ => trivial⟩, by omega, by omega⟩⟩

-- type GEntry
instance : Sm GEntry := ⟨fun x => Sm.ok x.Block⟩

theorem to_Entry (a : GEntry) (hs : Sm.ok a) : laws_toEntry a = some a := by simp only [laws_toEntry, to_Block a.Block hs, Option.bind_some]

theorem eq_Entry (a : GEntry) (hs : Sm.ok a) : laws_eqEntry a a = some true := by simp only [laws_eqEntry, bne_self_eq_false, cond_false, Option.bind_some, Bool.not_true, eq_Block a.Block hs]

theorem sz_Entry (a : GEntry) (l : Int) (h0 : 0 ≤ l) (h1 : l ≤ 1048576) (hf : Fit.ok a) : ∃ r, laws_szEntry a l = some r ∧ (r < 0 ∨ (Sm.ok a ∧ 0 ≤ r ∧ r ≤ l)) := by
  obtain ⟨f0, f1, f2⟩ := hf
  unfold laws_szEntry
  obtain ⟨r0, hr0, hc0⟩ := sz_Block a.Block l (by omega) (by omega) f2
  rcases hc0 with hc0 | ⟨s0, u0, w0⟩
  · exact ⟨-1, by simp [hr0, hc0], .inl (by omega)⟩
  have p0 : ¬ r0 < 0 := by omega
  exact ⟨r0, by simp [hr0, p0], .inr ⟨s0, by omega, by omega⟩⟩

theorem to_EntryS (a : List GEntry) (hs : Sm.ok a) : laws_toEntryS a = some a := by
  have hl := sm_len hs
  unfold laws_toEntryS
  rw [gd_pos (by omega), gd_pos (by omega), to_list (f := laws_toEntryS_L1 a) a _ (fun k s hk hl' => by
    simp only [laws_toEntryS_L1, to_Entry (gx a k) (sm_gx hs hk), Option.bind_some]
    rw [gd_pos (by omega)])]
  rfl

theorem eq_EntryS (a : List GEntry) (hs : Sm.ok a) : laws_eqEntryS a a = some true := by
  have hl := sm_len hs
  unfold laws_eqEntryS
  simp only [bne_self_eq_false, cond_false]
  rw [gd_pos (by omega), all_next (f := laws_eqEntryS_L1 a a) (fun k hk => by
    simp only [laws_eqEntryS_L1, eq_Entry (gx a k) (sm_gx hs hk), Option.bind_some]
    rw [gd_pos hk]; rfl)]
  rfl

theorem sz_EntryS (a : List GEntry) (l : Int) (h0 : 0 ≤ l) (h1 : l ≤ 1048576) (hf : Fit.ok a) : ∃ r, laws_szEntryS a l = some r ∧ (r < 0 ∨ (Sm.ok a ∧ 0 ≤ r ∧ r ≤ l)) := by
  have hf1 := hf.1
  unfold maxLen at hf1
  have e : wr (l - (a.length : Int)) = l - (a.length : Int) := wr_id (by omega) (by omega)
  unfold laws_szEntryS
  rw [e]
  by_cases h : l - (a.length : Int) < 0
  · exact ⟨-1, by simp [h], .inl (by omega)⟩
  · simp only [h, decide_false, cond_false]
    rw [gd_pos (by omega)]
    rcases size_list (f := laws_szEntryS_L1 a) (N := a.length) (fun k => Sm.ok (gx a k)) (l - (a.length : Int)) (fun k j hk g0 g1 => by
      obtain ⟨r, hr, hc⟩ := sz_Entry (gx a k) j g0 (by omega) (hf.2 _ (gx_mem hk))
      simp only [laws_szEntryS_L1, hr, Option.bind_some]
      rcases hc with hc | ⟨c1, c2, c3⟩
      · left; simp [hc]
      · right
        have : ¬ r < 0 := by omega
        exact ⟨r, by simp [this], c2, c3, c1⟩) (by omega) with hr | ⟨j, hr, g0, g1, g2⟩
    · exact ⟨-1, by rw [hr]; rfl, .inl (by omega)⟩
    · exact ⟨j, by rw [hr]; rfl, .inr ⟨⟨by omega, all_of_gx g2⟩, g0, by omega⟩⟩

-- type GBooking
instance : Sm GBooking := ⟨fun _ => True⟩

@[simp] theorem to_Booking (a : GBooking) : laws_toBooking a = some a := by cases a; rfl

@[simp] theorem eq_Booking (a : GBooking) : laws_eqBooking a a = some true := by simp [laws_eqBooking]

theorem to_BookingS (a : List GBooking) (hs : Sm.ok a) : laws_toBookingS a = some a := by
  have hl := sm_len hs
  unfold laws_toBookingS
  rw [gd_pos (by omega), gd_pos (by omega), to_list (f := laws_toBookingS_L1 a) a _ (fun k s hk hl' => by
    simp only [laws_toBookingS_L1, to_Booking, Option.bind_some]
    rw [gd_pos (by omega)])]
  rfl

theorem eq_BookingS (a : List GBooking) (hs : Sm.ok a) : laws_eqBookingS a a = some true := by
  have hl := sm_len hs
  unfold laws_eqBookingS
  simp only [bne_self_eq_false, cond_false]
  rw [gd_pos (by omega), all_next (f := laws_eqBookingS_L1 a a) (fun k hk => by
    simp only [laws_eqBookingS_L1, eq_Booking (gx a k), Option.bind_some]
    rw [gd_pos hk]; rfl)]
  rfl

theorem sz_BookingS (a : List GBooking) (l : Int) (h0 : 0 ≤ l) (h1 : l ≤ 1048576) (hf : a.length ≤ maxLen) : ∃ r, laws_szBookingS a l = some r ∧ (r < 0 ∨ (Sm.ok a ∧ 0 ≤ r ∧ r ≤ l)) := by
  unfold maxLen at hf
  have e : wr (l - (a.length : Int)) = l - (a.length : Int) := wr_id (by omega) (by omega)
  unfold laws_szBookingS
  rw [e]
  by_cases h : l - (a.length : Int) < 0
  · exact ⟨-1, by simp [h], .inl (by omega)⟩
  · exact ⟨l - (a.length : Int), by simp [h], .inr ⟨⟨by omega, fun _ _ => trivial⟩, by omega, by omega⟩⟩

-- type GGuild
instance : Sm GGuild := ⟨fun x => Sm.ok x.Members ∧ Sm.ok x.Stock ∧ Sm.ok x.Entries ∧ Sm.ok x.Books⟩

theorem to_Guild (a : GGuild) (hs : Sm.ok a) : laws_toGuild a = some a := by simp only [laws_toGuild, to_MemberS a.Members hs.1, to_IntS a.Stock hs.2.1, to_EntryS a.Entries hs.2.2.1, to_BookingS a.Books hs.2.2.2, Option.bind_some]

theorem eq_Guild (a : GGuild) (hs : Sm.ok a) : laws_eqGuild a a = some true := by simp only [laws_eqGuild, bne_self_eq_false, cond_false, Option.bind_some, Bool.not_true, eq_MemberS a.Members hs.1, eq_IntS a.Stock hs.2.1, eq_EntryS a.Entries hs.2.2.1, eq_BookingS a.Books hs.2.2.2]

theorem sz_Guild (a : GGuild) (l : Int) (h0 : 0 ≤ l) (h1 : l ≤ 1048576) (hf : Fit.ok a) : ∃ r, laws_szGuild a l = some r ∧ (r < 0 ∨ (Sm.ok a ∧ 0 ≤ r ∧ r ≤ l)) := by
  obtain ⟨f0, f1, f2, f3, f4, f5⟩ := hf
  unfold laws_szGuild
  obtain ⟨r0, hr0, hc0⟩ := sz_MemberS a.Members l (by omega) (by omega) f0.1
  rcases hc0 with hc0 | ⟨s0, u0, w0⟩
  · exact ⟨-1, by simp [hr0, hc0], .inl (by omega)⟩
  have p0 : ¬ r0 < 0 := by omega
  obtain ⟨r1, hr1, hc1⟩ := sz_IntS a.Stock r0 (by omega) (by omega) f1.1
  rcases hc1 with hc1 | ⟨s1, u1, w1⟩
  · exact ⟨-1, by simp [hr1, hc1, hr0, p0], .inl (by omega)⟩
  have p1 : ¬ r1 < 0 := by omega
  obtain ⟨r2, hr2, hc2⟩ := sz_EntryS a.Entries r1 (by omega) (by omega) f2
  rcases hc2 with hc2 | ⟨s2, u2, w2⟩
  · exact ⟨-1, by simp [hr2, hc2, hr0, p0, hr1, p1], .inl (by omega)⟩
  have p2 : ¬ r2 < 0 := by omega
  obtain ⟨r3, hr3, hc3⟩ := sz_BookingS a.Books r2 (by omega) (by omega) f3.1
  rcases hc3 with hc3 | ⟨s3, u3, w3⟩
  · exact ⟨-1, by simp [hr3, hc3, hr0, p0, hr1, p1, hr2, p2], .inl (by omega)⟩
  have p3 : ¬ r3 < 0 := by omega
  exact ⟨r3, by simp [hr0, p0, hr1, p1, hr2, p2, hr3, p3], .inr ⟨⟨s0, s1, s2, s3⟩, by omega, by omega⟩⟩

def inR (x a b : Int) : Bool := decide (x ≥ a) && decide (x ≤ b)
theorem inR_iff {x a b : Int} : inR x a b = true ↔ a ≤ x ∧ x ≤ b := by simp [inR]
theorem inR_not {x a b : Int} : inR x a b = false ↔ ¬(a ≤ x ∧ x ≤ b) := by rw [← inR_iff]; simp

@[simp] theorem l01In_eq (x a b : Int) : spec_l01In x a b = some (inR x a b) := rfl

@[simp] theorem within_eq (x a b : Int) : impl_within x a b = some (inR x a b) := rfl

@[simp] theorem isColor_eq (a : Int) : impl_isColor a = some (inR a 0 5) := rfl

def CellOkM (c : GCell) : Bool := inR c.Split 0 2 && inR c.A 0 5 && inR c.B 0 5 && ((c.Split == 0) == (c.A == c.B))

@[simp] theorem spec_CellOk_eq (c : GCell) : spec_CellOk c = some (CellOkM c) := by
  unfold spec_CellOk CellOkM
  simp only [l01In_eq, Option.bind_some]
  cases inR c.Split 0 2 <;> cases inR c.A 0 5 <;> cases inR c.B 0 5 <;> simp

@[simp] theorem impl_CellOk_eq (c : GCell) : impl_CellOk c = some (CellOkM c) := by
  unfold impl_CellOk CellOkM
  simp only [within_eq, isColor_eq, Option.bind_some]
  cases inR c.Split 0 2 <;> cases inR c.A 0 5 <;> cases inR c.B 0 5 <;> simp

def BlockOkM (b : GBlock) : Bool := inR b.Size 1 4 && ((b.Cells.length : Int) == b.Size * b.Size) && b.Cells.all CellOkM
theorem size_cases {n : Int} (h : inR n 1 4 = true) : n = 1 ∨ n = 2 ∨ n = 3 ∨ n = 4 := by
  rw [inR_iff] at h; omega

@[simp] theorem spec_BlockOk_eq (b : GBlock) : spec_BlockOk b = some (BlockOkM b) := by
  unfold spec_BlockOk BlockOkM
  simp only [l01In_eq, Option.bind_some]
  cases h : inR b.Size 1 4
  · rfl
  · have hw : wr (b.Size * b.Size) = b.Size * b.Size := by rcases size_cases h with e | e | e | e <;> rw [e] <;> decide
    rw [hw]
    cases hl : ((b.Cells.length : Int) == b.Size * b.Size)
    · have : (((b.Cells.length : Nat) : Int) != b.Size * b.Size) = true := by simp [bne, hl]
      simp [this]
    · have hl' : (b.Cells.length : Int) = b.Size * b.Size := by simpa using hl
      have : (((b.Cells.length : Nat) : Int) != b.Size * b.Size) = false := by simp [bne, hl]
      simp only [this, Bool.not_true, cond_false, Option.bind_some]
      rw [gd_pos (by rcases size_cases h with e | e | e | e <;> rw [e] at hl' <;> omega), forO_all (f := spec_BlockOk_L1 b) (fun k => CellOkM (gx b.Cells k)) (fun k hk => by
        simp only [spec_BlockOk_L1, spec_CellOk_eq, Option.bind_some]; cases CellOkM (gx b.Cells k) <;> rfl), all_gx]
      cases b.Cells.all CellOkM <;> rfl

@[simp] theorem impl_BlockOk_eq (b : GBlock) : impl_BlockOk b = some (BlockOkM b) := by
  unfold impl_BlockOk BlockOkM
  simp only [within_eq, Option.bind_some]
  cases h : inR b.Size 1 4
  · rfl
  · have hw : wr (b.Size * b.Size) = b.Size * b.Size := by rcases size_cases h with e | e | e | e <;> rw [e] <;> decide
    rw [hw]
    cases hl : ((b.Cells.length : Int) == b.Size * b.Size)
    · have : (((b.Cells.length : Nat) : Int) != b.Size * b.Size) = true := by simp [bne, hl]
      simp [this]
    · have hl' : (b.Cells.length : Int) = b.Size * b.Size := by simpa using hl
      have : (((b.Cells.length : Nat) : Int) != b.Size * b.Size) = false := by simp [bne, hl]
      simp only [this, Bool.not_true, cond_false, Option.bind_some]
      rw [gd_pos (by rcases size_cases h with e | e | e | e <;> rw [e] at hl' <;> omega), forO_all (f := impl_BlockOk_L1 b) (fun k => CellOkM (gx b.Cells k)) (fun k hk => by
        simp only [impl_BlockOk_L1, impl_CellOk_eq, Option.bind_some]; cases CellOkM (gx b.Cells k) <;> rfl), all_gx]
      cases b.Cells.all CellOkM <;> rfl

theorem prev_idx {k N : Nat} (hk : k < N) (hN : N ≤ 4611686018427387904) (h0 : decide ((k : Int) > 0) = true) : wr ((k : Int) - 1) = ((k - 1 : Nat) : Int) ∧ k - 1 < N := by
  have : (k : Int) > 0 := of_decide_eq_true h0
  exact ⟨by rw [wr_of (by omega) (by omega)]; omega, by omega⟩

def memP (xs : List GMember) (k : Nat) : Bool := inR (gx xs k).Number 1 999 && inR (gx xs k).Since 1900 2999 && inR (gx xs k).Paid (wr ((gx xs k).Since - 1)) 2999 && !(decide ((k : Int) > 0) && decide ((gx xs k).Number ≤ (gx xs (k - 1)).Number))
def MembersOkM (xs : List GMember) : Bool := (List.range xs.length).all (memP xs) && decide (((xs.length : Nat) : Int) ≤ 40)
theorem memOk_len {xs : List GMember} (h : MembersOkM xs = true) : xs.length ≤ 40 := by
  simp only [MembersOkM, Bool.and_eq_true, decide_eq_true_eq] at h; omega

theorem spec_MembersOk_eq (xs : List GMember) (hl : xs.length ≤ 4611686018427387904) : spec_MembersOk xs = some (MembersOkM xs) := by
  unfold spec_MembersOk MembersOkM
  rw [gd_pos hl, forO_all (f := spec_MembersOk_L1 xs) (c := false) (memP xs) (fun k hk => by
    simp only [spec_MembersOk_L1, l01In_eq, Option.bind_some, memP]
    cases hd : decide ((k : Int) > 0)
    · cases inR (gx xs k).Number 1 999 <;> cases inR (gx xs k).Since 1900 2999 <;> cases inR (gx xs k).Paid (wr ((gx xs k).Since - 1)) 2999 <;> rfl
    · obtain ⟨e1, e2⟩ := prev_idx hk hl hd
      simp only [e1, Int.toNat_natCast, cond_true]
      rw [gd_pos ⟨by omega, by omega⟩]
      cases inR (gx xs k).Number 1 999 <;> cases inR (gx xs k).Since 1900 2999 <;> cases inR (gx xs k).Paid (wr ((gx xs k).Since - 1)) 2999 <;> cases decide ((gx xs k).Number ≤ (gx xs (k - 1)).Number) <;> rfl)]
  cases (List.range xs.length).all (memP xs) <;> rfl

theorem impl_MembersOk_eq (xs : List GMember) (hl : xs.length ≤ 4611686018427387904) : impl_MembersOk xs = some (MembersOkM xs) := by
  unfold impl_MembersOk MembersOkM
  rw [gd_pos hl, forO_all (f := impl_MembersOk_L1 xs) (c := false) (memP xs) (fun k hk => by
    simp only [impl_MembersOk_L1, within_eq, Option.bind_some, memP]
    cases hd : decide ((k : Int) > 0)
    · cases inR (gx xs k).Number 1 999 <;> cases inR (gx xs k).Since 1900 2999 <;> cases inR (gx xs k).Paid (wr ((gx xs k).Since - 1)) 2999 <;> rfl
    · obtain ⟨e1, e2⟩ := prev_idx hk hl hd
      simp only [e1, Int.toNat_natCast, cond_true]
      rw [gd_pos ⟨by omega, by omega⟩]
      cases inR (gx xs k).Number 1 999 <;> cases inR (gx xs k).Since 1900 2999 <;> cases inR (gx xs k).Paid (wr ((gx xs k).Since - 1)) 2999 <;> cases decide ((gx xs k).Number ≤ (gx xs (k - 1)).Number) <;> rfl)]
  cases (List.range xs.length).all (memP xs) <;> rfl

def StockOkM (xs : List Int) : Bool := xs.all (fun n => inR n 0 1000000) && (((xs.length : Nat) : Int) == 6)
theorem stockOk_len {xs : List Int} (h : StockOkM xs = true) : xs.length = 6 := by
  simp only [StockOkM, Bool.and_eq_true, beq_iff_eq] at h; omega

theorem spec_StockOk_eq (xs : List Int) (hl : xs.length ≤ 4611686018427387904) : spec_StockOk xs = some (StockOkM xs) := by
  unfold spec_StockOk StockOkM
  rw [gd_pos hl, forO_all (f := spec_StockOk_L1 xs) (c := false) (fun k => inR (gx xs k) 0 1000000) (fun k hk => by
    simp only [spec_StockOk_L1, l01In_eq, Option.bind_some]; cases inR (gx xs k) 0 1000000 <;> rfl), all_gx (fun n => inR n 0 1000000)]
  cases xs.all (fun n => inR n 0 1000000) <;> rfl

theorem impl_allWithin_eq (xs : List Int) (a b : Int) (hl : xs.length ≤ 4611686018427387904) : impl_allWithin xs a b = some (xs.all fun n => inR n a b) := by
  unfold impl_allWithin
  rw [gd_pos hl, forO_all (f := impl_allWithin_L1 xs a b) (c := false) (fun k => inR (gx xs k) a b) (fun k hk => by
    simp only [impl_allWithin_L1, within_eq, Option.bind_some]; cases inR (gx xs k) a b <;> rfl), all_gx (fun n => inR n a b)]
  cases xs.all (fun n => inR n a b) <;> rfl

theorem impl_StockOk_eq (xs : List Int) (hl : xs.length ≤ 4611686018427387904) : impl_StockOk xs = some (StockOkM xs) := by
  unfold impl_StockOk StockOkM
  rw [impl_allWithin_eq xs _ _ hl]
  cases (((xs.length : Nat) : Int) == 6) <;> cases xs.all (fun n => inR n 0 1000000) <;> rfl

def ledP (xs : List GBooking) (k : Nat) : Bool := inR (gx xs k).Day 0 9999 && inR (gx xs k).From 0 4 && inR (gx xs k).To 0 4 && !((gx xs k).From == (gx xs k).To) && inR (gx xs k).Sum 1 100000 && !(decide ((k : Int) > 0) && decide ((gx xs k).Day < (gx xs (k - 1)).Day))
def LedgerOkM (xs : List GBooking) : Bool := (List.range xs.length).all (ledP xs) && decide (((xs.length : Nat) : Int) ≤ 60)
theorem ledOk_len {xs : List GBooking} (h : LedgerOkM xs = true) : xs.length ≤ 60 := by
  simp only [LedgerOkM, Bool.and_eq_true, decide_eq_true_eq] at h; omega

theorem spec_LedgerOk_eq (xs : List GBooking) (hl : xs.length ≤ 4611686018427387904) : spec_LedgerOk xs = some (LedgerOkM xs) := by
  unfold spec_LedgerOk LedgerOkM
  rw [gd_pos hl, forO_all (f := spec_LedgerOk_L1 xs) (c := false) (ledP xs) (fun k hk => by
    simp only [spec_LedgerOk_L1, l01In_eq, Option.bind_some, ledP]
    cases hd : decide ((k : Int) > 0)
    · cases inR (gx xs k).Day 0 9999 <;> cases inR (gx xs k).From 0 4 <;> cases inR (gx xs k).To 0 4 <;> cases ((gx xs k).From == (gx xs k).To) <;> cases inR (gx xs k).Sum 1 100000 <;> rfl
    · obtain ⟨e1, e2⟩ := prev_idx hk hl hd
      simp only [e1, Int.toNat_natCast, cond_true]
      rw [gd_pos ⟨by omega, by omega⟩]
      cases inR (gx xs k).Day 0 9999 <;> cases inR (gx xs k).From 0 4 <;> cases inR (gx xs k).To 0 4 <;> cases ((gx xs k).From == (gx xs k).To) <;> cases inR (gx xs k).Sum 1 100000 <;> cases decide ((gx xs k).Day < (gx xs (k - 1)).Day) <;> rfl)]
  cases (List.range xs.length).all (ledP xs) <;> rfl

theorem impl_LedgerOk_eq (xs : List GBooking) (hl : xs.length ≤ 4611686018427387904) : impl_LedgerOk xs = some (LedgerOkM xs) := by
  unfold impl_LedgerOk LedgerOkM
  rw [gd_pos hl, forO_all (f := impl_LedgerOk_L1 xs) (c := false) (ledP xs) (fun k hk => by
    simp only [impl_LedgerOk_L1, within_eq, Option.bind_some, ledP]
    cases hd : decide ((k : Int) > 0)
    · cases inR (gx xs k).Day 0 9999 <;> cases inR (gx xs k).From 0 4 <;> cases inR (gx xs k).To 0 4 <;> cases ((gx xs k).From == (gx xs k).To) <;> cases inR (gx xs k).Sum 1 100000 <;> rfl
    · obtain ⟨e1, e2⟩ := prev_idx hk hl hd
      simp only [e1, Int.toNat_natCast, cond_true]
      rw [gd_pos ⟨by omega, by omega⟩]
      cases inR (gx xs k).Day 0 9999 <;> cases inR (gx xs k).From 0 4 <;> cases inR (gx xs k).To 0 4 <;> cases ((gx xs k).From == (gx xs k).To) <;> cases inR (gx xs k).Sum 1 100000 <;> cases decide ((gx xs k).Day < (gx xs (k - 1)).Day) <;> rfl)]
  cases (List.range xs.length).all (ledP xs) <;> rfl

def EntryOkM (e : GEntry) : Bool := inR e.Owner 0 99 && inR e.Day 0 9999 && BlockOkM e.Block

@[simp] theorem spec_EntryOk_eq (e : GEntry) : spec_EntryOk e = some (EntryOkM e) := by
  unfold spec_EntryOk EntryOkM
  simp only [l01In_eq, spec_BlockOk_eq, Option.bind_some]
  cases inR e.Owner 0 99 <;> cases inR e.Day 0 9999 <;> rfl

@[simp] theorem impl_EntryOk_eq (e : GEntry) : impl_EntryOk e = some (EntryOkM e) := by
  unfold impl_EntryOk EntryOkM
  simp only [within_eq, impl_BlockOk_eq, Option.bind_some]
  cases inR e.Owner 0 99 <;> cases inR e.Day 0 9999 <;> rfl

def memberM (xs : List GMember) (n : Int) : Bool := !((List.range xs.length).all fun k => !((gx xs k).Number == n))

theorem spec_l38Member_eq (xs : List GMember) (n : Int) (hl : xs.length ≤ 4611686018427387904) : spec_l38Member xs n = some (memberM xs n) := by
  unfold spec_l38Member memberM
  rw [gd_pos hl, forO_all (f := spec_l38Member_L1 xs n) (c := true) (fun k => !((gx xs k).Number == n)) (fun k hk => by
    simp only [spec_l38Member_L1]; cases ((gx xs k).Number == n) <;> rfl)]
  cases (List.range xs.length).all (fun k => !((gx xs k).Number == n)) <;> rfl

theorem impl_isMember_eq (xs : List GMember) (n : Int) (hl : xs.length ≤ 4611686018427387904) : impl_isMember xs n = some (memberM xs n) := by
  unfold impl_isMember memberM
  rw [gd_pos hl, forO_all (f := impl_isMember_L1 xs n) (c := true) (fun k => !((gx xs k).Number == n)) (fun k hk => by
    simp only [impl_isMember_L1]; cases ((gx xs k).Number == n) <;> rfl)]
  cases (List.range xs.length).all (fun k => !((gx xs k).Number == n)) <;> rfl

def GoodM (xs : List GMember) (y : Int) : List Int := bif MembersOkM xs then ((List.range xs.length).filter fun k => decide ((gx xs k).Paid ≥ y)).map fun k => (gx xs k).Number else []
theorem good_len (xs : List GMember) (y : Int) : (GoodM xs y).length ≤ 40 := by
  unfold GoodM
  cases h : MembersOkM xs
  · simp
  · have h1 := memOk_len h
    have h2 := List.length_filter_le (fun k => decide ((gx xs k).Paid ≥ y)) (List.range xs.length)
    simp at h2 ⊢; omega

theorem impl_GoodStanding_eq (xs : List GMember) (y : Int) (hl : xs.length ≤ 4611686018427387904) : impl_GoodStanding xs y = some (GoodM xs y) := by
  unfold impl_GoodStanding GoodM
  rw [impl_MembersOk_eq xs hl]
  cases h : MembersOkM xs
  · rfl
  have h1 := memOk_len h
  simp only [Option.bind_some, Bool.not_true, cond_false, cond_true]
  rw [gd_pos hl, lpO_filter (f := impl_GoodStanding_L1 xs y) (xs := []) (fun k => decide ((gx xs k).Paid ≥ y)) (fun k => (gx xs k).Number) (fun k s hk hs => by
    simp only [impl_GoodStanding_L1]
    rw [gd_pos (by simp at hs; omega)]
    cases decide ((gx xs k).Paid ≥ y) <;> rfl)]
  rfl

theorem spec_GoodStanding_eq (xs : List GMember) (y : Int) (hl : xs.length ≤ 4611686018427387904) : spec_GoodStanding xs y = some (GoodM xs y) := by
  unfold spec_GoodStanding GoodM
  rw [gd_pos hl]
  cases h : MembersOkM xs
  · rcases Nat.eq_zero_or_pos xs.length with e | e
    · rw [e]; rfl
    · unfold lpO
      rw [forO_brkAt (f := spec_GoodStanding_L1 xs y) (fun _ => []) rfl 0 e (fun k hk => by omega) (s' := []) (by
        simp only [spec_GoodStanding_L1, spec_MembersOk_eq xs hl, h, Option.bind_some, cond_false])]
      rfl
  have h1 := memOk_len h
  simp only [cond_true]
  rw [lpO_filter (f := spec_GoodStanding_L1 xs y) (xs := []) (fun k => decide ((gx xs k).Paid ≥ y)) (fun k => (gx xs k).Number) (fun k s hk hs => by
    simp only [spec_GoodStanding_L1, spec_MembersOk_eq xs hl, h, Option.bind_some, cond_true]
    rw [gd_pos (by simp at hs; omega)]
    cases decide ((gx xs k).Paid ≥ y) <;> rfl)]
  rfl

def RoundsM (g : GGuild) : Int := bif inR (GoodM g.Members g.Year).length 2 10 then (GoodM g.Members g.Year).length - 1 else 0

theorem spec_SwapRounds_eq (g : GGuild) (hl : g.Members.length ≤ 4611686018427387904) : spec_SwapRounds g = some (RoundsM g) := by
  unfold spec_SwapRounds RoundsM
  have := good_len g.Members g.Year
  rw [spec_GoodStanding_eq _ _ hl]
  simp only [Option.bind_some, l01In_eq, wr_of (n := ((GoodM g.Members g.Year).length : Int) - 1) (by omega) (by omega)]
  cases inR (GoodM g.Members g.Year).length 2 10 <;> rfl

theorem impl_SwapRounds_eq (g : GGuild) (hl : g.Members.length ≤ 4611686018427387904) : impl_SwapRounds g = some (RoundsM g) := by
  unfold impl_SwapRounds RoundsM
  have := good_len g.Members g.Year
  rw [impl_GoodStanding_eq _ _ hl]
  simp only [Option.bind_some, within_eq, wr_of (n := ((GoodM g.Members g.Year).length : Int) - 1) (by omega) (by omega)]
  cases inR (GoodM g.Members g.Year).length 2 10 <;> rfl

/-- Lists of a length that loops may have. -/
def GL (g : GGuild) : Prop := g.Members.length ≤ 4611686018427387904 ∧ g.Stock.length ≤ 4611686018427387904 ∧ g.Entries.length ≤ 4611686018427387904 ∧ g.Books.length ≤ 4611686018427387904
theorem sm_GL {g : GGuild} (h : Sm.ok g) : GL g := by
  obtain ⟨h1, h2, h3, h4⟩ := h
  have := sm_len h1; have := sm_len h2; have := sm_len h3; have := sm_len h4
  exact ⟨by omega, by omega, by omega, by omega⟩
def entP (g : GGuild) (k : Nat) : Bool := EntryOkM (gx g.Entries k) && memberM g.Members (gx g.Entries k).Owner && !(decide ((k : Int) > 0) && decide ((gx g.Entries k).Day < (gx g.Entries (k - 1)).Day))
def GuildOkM (g : GGuild) : Bool := MembersOkM g.Members && StockOkM g.Stock && LedgerOkM g.Books && !decide (((g.Entries.length : Nat) : Int) > 10) && inR g.Year 1900 2999 && (List.range g.Entries.length).all (entP g) && inR g.Round 0 (RoundsM g)

theorem spec_GuildOk_eq (g : GGuild) (h : GL g) : spec_GuildOk g = some (GuildOkM g) := by
  obtain ⟨h1, h2, h3, h4⟩ := h
  unfold spec_GuildOk GuildOkM
  simp only [spec_MembersOk_eq _ h1, spec_StockOk_eq _ h2, spec_LedgerOk_eq _ h4, l01In_eq, Option.bind_some, spec_SwapRounds_eq _ h1]
  cases MembersOkM g.Members
  · rfl
  cases StockOkM g.Stock
  · rfl
  cases LedgerOkM g.Books
  · rfl
  cases decide (((g.Entries.length : Nat) : Int) > 10)
  · cases inR g.Year 1900 2999
    · rfl
    simp only [Bool.not_true, Bool.not_false, cond_false, Option.bind_some]
    rw [gd_pos h3, forO_all (f := spec_GuildOk_L1 g) (c := false) (entP g) (fun k hk => by
      simp only [spec_GuildOk_L1, spec_EntryOk_eq, spec_l38Member_eq _ _ h1, Option.bind_some, entP]
      cases hd : decide ((k : Int) > 0)
      · cases EntryOkM (gx g.Entries k) <;> cases memberM g.Members (gx g.Entries k).Owner <;> rfl
      · obtain ⟨e1, e2⟩ := prev_idx hk h3 hd
        simp only [e1, Int.toNat_natCast, cond_true]
        rw [gd_pos ⟨by omega, by omega⟩]
        cases EntryOkM (gx g.Entries k) <;> cases memberM g.Members (gx g.Entries k).Owner <;> cases decide ((gx g.Entries k).Day < (gx g.Entries (k - 1)).Day) <;> rfl)]
    cases (List.range g.Entries.length).all (entP g) <;> rfl
  · rfl

theorem impl_GuildOk_eq (g : GGuild) (h : GL g) : impl_GuildOk g = some (GuildOkM g) := by
  obtain ⟨h1, h2, h3, h4⟩ := h
  unfold impl_GuildOk GuildOkM
  simp only [impl_MembersOk_eq _ h1, impl_StockOk_eq _ h2, impl_LedgerOk_eq _ h4, within_eq, Option.bind_some, impl_SwapRounds_eq _ h1]
  cases MembersOkM g.Members
  · rfl
  cases StockOkM g.Stock
  · rfl
  cases LedgerOkM g.Books
  · rfl
  cases decide (((g.Entries.length : Nat) : Int) > 10)
  · simp only [Bool.not_true, Bool.not_false, cond_false, Option.bind_some]
    rw [gd_pos h3, forO_all (f := impl_GuildOk_L1 g) (c := false) (entP g) (fun k hk => by
      simp only [impl_GuildOk_L1, impl_EntryOk_eq, impl_isMember_eq _ _ h1, Option.bind_some, entP]
      cases hd : decide ((k : Int) > 0)
      · cases EntryOkM (gx g.Entries k) <;> cases memberM g.Members (gx g.Entries k).Owner <;> rfl
      · obtain ⟨e1, e2⟩ := prev_idx hk h3 hd
        simp only [e1, Int.toNat_natCast, cond_true]
        rw [gd_pos ⟨by omega, by omega⟩]
        cases EntryOkM (gx g.Entries k) <;> cases memberM g.Members (gx g.Entries k).Owner <;> cases decide ((gx g.Entries k).Day < (gx g.Entries (k - 1)).Day) <;> rfl)]
    cases (List.range g.Entries.length).all (entP g) <;> cases inR g.Year 1900 2999 <;> rfl
  · rfl

theorem same_GuildOk (g : GGuild) (h : Sm.ok g) : ∃ w, spec_GuildOk g = some w ∧ impl_GuildOk g = some w :=
  ⟨_, spec_GuildOk_eq g (sm_GL h), impl_GuildOk_eq g (sm_GL h)⟩

theorem p_FnExactGuildOk (a0 : GGuild) (f0 : Fit.ok a0) : laws_FnExactGuildOk a0 = some true := by
  unfold laws_FnExactGuildOk
  obtain ⟨r0, hr0, hc0⟩ := sz_Guild a0 1048576 (by omega) (by omega) f0
  rcases hc0 with hc0 | ⟨s0, u0, w0⟩
  · simp [hr0, hc0]
  have n0 : ¬ r0 < 0 := by omega
  obtain ⟨w, hs, hi⟩ := same_GuildOk a0 s0
  simp [hr0, n0, to_Guild a0 s0, eq_Guild a0 s0, hs, hi]
end Go.Proofs.Ytgimnmlcdidcdaf
