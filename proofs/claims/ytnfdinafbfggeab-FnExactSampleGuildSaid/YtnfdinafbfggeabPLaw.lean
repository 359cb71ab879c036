/-
  The plain laws: what the functions compute, in Lean alone.
-/
import Derived.Test.YtnfdinafbfggeabPure
namespace Go.Proofs.Ytnfdinafbfggeab
open Go

theorem gd_pos {α : Type} {p : Prop} [Decidable p] (h : p) (t : Option α) : gd p t = t := by simp [gd, h]
@[simp] theorem sq_inl {J C : Type} (j : J) (k : J → Option C) : sq (some (.inl j)) k = k j := rfl
@[simp] theorem sq_inr {J C : Type} (c : C) (k : J → Option C) : sq (some (.inr c)) k = some c := rfl

section
variable {S C : Type} {f : Nat → S → Option (Res S C)} {N : Nat}
theorem forO_at (st : Nat → S) (h : ∀ k, k < N → f k (st k) = some (.next (st (k + 1)))) : ∀ m k, k + m = N → forO f m k (st k) = some (.inl (st N))
  | 0, k, e => by simp at e; subst e; rfl
  | m + 1, k, e => by
    rw [forO, h k (by omega)]
    exact forO_at st h m (k + 1) (by omega)
theorem forO_st (st : Nat → S) {s0 : S} (h0 : s0 = st 0) (h : ∀ k, k < N → f k (st k) = some (.next (st (k + 1)))) : forO f N 0 s0 = some (.inl (st N)) := by
  rw [h0]; exact forO_at st h N 0 (by omega)
theorem forO_upto (st : Nat → S) (K : Nat) (hK : K < N) (h : ∀ k, k < K → f k (st k) = some (.next (st (k + 1)))) : ∀ m k, k + m = N → k ≤ K → forO f m k (st k) = forO f (N - K) K (st K)
  | 0, k, e, hk => by omega
  | m + 1, k, e, hk => by
    rcases Nat.lt_or_ge k K with hlt | hge
    · rw [forO, h k hlt]
      exact forO_upto st K hK h m (k + 1) (by omega) (by omega)
    · have : k = K := by omega
      subst this
      rw [show N - k = m + 1 by omega]
theorem forO_retAt (st : Nat → S) {s0 : S} (h0 : s0 = st 0) (K : Nat) (hK : K < N) (h : ∀ k, k < K → f k (st k) = some (.next (st (k + 1)))) {c : C} (hr : f K (st K) = some (.ret c)) : forO f N 0 s0 = some (.inr c) := by
  rw [h0, forO_upto st K hK h N 0 (by omega) (by omega), show N - K = (N - K - 1) + 1 by omega, forO, hr]; rfl
theorem forO_brkAt (st : Nat → S) {s0 : S} (h0 : s0 = st 0) (K : Nat) (hK : K < N) (h : ∀ k, k < K → f k (st k) = some (.next (st (k + 1)))) {s' : S} (hr : f K (st K) = some (.brk s')) : forO f N 0 s0 = some (.inl s') := by
  rw [h0, forO_upto st K hK h N 0 (by omega) (by omega), show N - K = (N - K - 1) + 1 by omega, forO, hr]; rfl
/-- A loop that looks for the first place where p fails. -/
theorem forO_all (p : Nat → Bool) {s : S} {c : C} (h : ∀ k, k < N → f k s = some (bif p k then .next s else .ret c)) : forO f N 0 s = some (bif (List.range N).all p then .inl s else .inr c) := by
  cases ha : (List.range N).all p with
  | true =>
    rw [List.all_eq_true] at ha
    exact forO_st (fun _ => s) rfl fun k hk => by rw [h k hk, ha k (by simpa using hk)]; rfl
  | false =>
    have : ∃ k, k < N ∧ p k = false := by
      rw [List.all_eq_false] at ha
      obtain ⟨k, hk, hp⟩ := ha
      exact ⟨k, by simpa using hk, by simpa using hp⟩
    have hmin : ∃ k, k < N ∧ p k = false ∧ ∀ j, j < k → p j = true := by
      obtain ⟨k, hk, hp⟩ := this
      induction k using Nat.strongRecOn with
      | _ k ih =>
        by_cases hx : ∃ j, j < k ∧ p j = false
        · obtain ⟨j, hj, hpj⟩ := hx
          exact ih j hj (by omega) hpj
        · refine ⟨k, hk, hp, fun j hj => ?_⟩
          cases hpj : p j with
          | true => rfl
          | false => exact absurd ⟨j, hj, hpj⟩ hx
    obtain ⟨k, hk, hp, hall⟩ := hmin
    exact forO_retAt (fun _ => s) rfl k hk (fun j hj => by rw [h j (by omega), hall j hj]; rfl) (by rw [h k hk, hp]; rfl)
/-- A loop that returns at the first place where p holds. -/
theorem forO_find (p : Nat → Bool) {s : S} (c : Nat → C) (h : ∀ k, k < N → f k s = some (bif p k then .ret (c k) else .next s)) : forO f N 0 s = some (match (List.range N).find? p with | some k => .inr (c k) | none => .inl s) := by
  cases ha : (List.range N).find? p with
  | none =>
    rw [List.find?_eq_none] at ha
    exact forO_st (fun _ => s) rfl fun k hk => by
      rw [h k hk]
      have := ha k (by simpa using hk)
      simp at this
      rw [this]; rfl
  | some K =>
    have hp := List.find?_some ha
    have hK : K < N := by simpa using List.mem_of_find?_eq_some ha
    refine forO_retAt (fun _ => s) rfl K hK (fun j hj => ?_) (by rw [h K hK, hp]; rfl)
    rw [h j (by omega)]
    have : p j = false := by
      rw [List.find?_range_eq_some] at ha
      simpa using ha.2.2 j hj
    rw [this]; rfl
end
section
variable {S : Type} {f : Nat → S → Option (Res S Empty)} {N : Nat}
theorem lpO_st (st : Nat → S) {s0 : S} (h0 : s0 = st 0) (h : ∀ k, k < N → f k (st k) = some (.next (st (k + 1)))) : lpO f N s0 = some (st N) := by
  unfold lpO; rw [forO_st st h0 h]; rfl
/-- A state that each round turns by g. -/
def fold {S : Type} (g : Nat → S → S) (s0 : S) : Nat → S
  | 0 => s0
  | n + 1 => g n (fold g s0 n)
theorem lpO_fold (g : Nat → S → S) {s0 : S} (h : ∀ k, k < N → f k (fold g s0 k) = some (.next (g k (fold g s0 k)))) : lpO f N s0 = some (fold g s0 N) :=
  lpO_st (fold g s0) rfl h
end
section
variable {α : Type} {f : Nat → List α → Option (Res (List α) Empty)} {N : Nat}
theorem lpO_app (F : Nat → α) {xs : List α} (h : ∀ k s, k < N → s.length = xs.length + k → f k s = some (.next (s ++ [F k]))) : lpO f N xs = some (xs ++ (List.range N).map F) :=
  lpO_st (fun k => xs ++ (List.range k).map F) (by simp) fun k hk => by
    rw [h k _ hk (by simp)]
    simp [List.range_succ]
theorem lpO_filter (p : Nat → Bool) (F : Nat → α) {xs : List α} (h : ∀ k s, k < N → s.length ≤ xs.length + k → f k s = some (.next (bif p k then s ++ [F k] else s))) : lpO f N xs = some (xs ++ ((List.range N).filter p).map F) :=
  lpO_st (fun k => xs ++ ((List.range k).filter p).map F) (by simp) fun k hk => by
    rw [h k _ hk (by
      have := List.length_filter_le p (List.range k)
      simp at this ⊢; omega)]
    cases hp : p k <;> simp [List.range_succ, List.filter_append, hp]
theorem lpO_cat (F : Nat → List α) {xs : List α} (h : ∀ k s, k < N → s = xs ++ (List.range k).flatMap F → f k s = some (.next (s ++ F k))) : lpO f N xs = some (xs ++ (List.range N).flatMap F) :=
  lpO_st (fun k => xs ++ (List.range k).flatMap F) (by simp) fun k hk => by
    rw [h k _ hk rfl]
    simp [List.range_succ]
end
theorem map_gx {α β : Type} [Rep α] (F : α → β) (xs : List α) : (List.range xs.length).map (fun k => F (gx xs k)) = xs.map F := by
  apply List.ext_getElem
  · simp
  · intro i h1 h2
    simp at h1
    simp [gx, List.getD, h1]
theorem all_gx {α : Type} [Rep α] (F : α → Bool) (xs : List α) : (List.range xs.length).all (fun k => F (gx xs k)) = xs.all F := by
  have := map_gx F xs
  calc (List.range xs.length).all (fun k => F (gx xs k)) = ((List.range xs.length).map (fun k => F (gx xs k))).all id := by simp [List.all_map]
    _ = xs.all F := by rw [this]; simp [List.all_map]
theorem gx_lt {α : Type} [Rep α] {xs : List α} {k : Nat} (h : k < xs.length) : gx xs k = xs[k] := by simp [gx, List.getD, h]
theorem gx_mem {α : Type} [Rep α] {xs : List α} {k : Nat} (h : k < xs.length) : gx xs k ∈ xs := by rw [gx_lt h]; exact List.getElem_mem h
theorem wr_of {n : Int} (h1 : -4611686018427387904 ≤ n) (h2 : n ≤ 4611686018427387904) : wr n = n := wr_id (by omega) (by omega)

/-- What is small enough for all bounds. -/
class Sm (α : Type) where
  ok : α → Prop
instance : Sm Int := ⟨fun _ => True⟩
instance : Sm Bool := ⟨fun _ => True⟩
instance : Sm Str := ⟨fun s => s.b.length ≤ 1048576⟩
instance (α : Type) [Sm α] : Sm (List α) := ⟨fun xs => xs.length ≤ 1048576 ∧ ∀ x ∈ xs, Sm.ok x⟩
theorem sm_len {α : Type} [Sm α] {xs : List α} (h : Sm.ok xs) : xs.length ≤ 1048576 := h.1
theorem sm_gx {α : Type} [Sm α] [Rep α] {xs : List α} (h : Sm.ok xs) {k : Nat} (hk : k < xs.length) : Sm.ok (gx xs k) := h.2 _ (gx_mem hk)
theorem sm_ints {xs : List Int} (h : xs.length ≤ 1048576) : Sm.ok xs := ⟨h, fun _ _ => trivial⟩

theorem gx_set_ne {α : Type} [Rep α] {xs : List α} {k j : Nat} {e : α} (h : j ≠ k) : gx (xs.set k e) j = gx xs j := by
  simp [gx, List.getD, List.getElem?_set_ne (Ne.symm h)]
theorem gx_ext {α : Type} [Rep α] {xs ys : List α} (hl : xs.length = ys.length) (h : ∀ k, k < xs.length → gx xs k = gx ys k) : xs = ys := by
  apply List.ext_getElem hl
  intro i h1 h2
  have := h i h1
  rwa [gx_lt h1, gx_lt h2] at this

theorem to_list {α : Type} [Rep α] {f : Nat → List α → Option (Res (List α) Empty)} (a : List α) (z : α) (h : ∀ k s, k < a.length → s.length = a.length → f k s = some (.next (s.set k (gx a k)))) : lpO f a.length (List.replicate a.length z) = some a := by
  have := lpO_st (f := f) (N := a.length) (fun k => a.take k ++ List.replicate (a.length - k) z) (s0 := List.replicate a.length z) (by simp) fun k hk => by
    rw [h k _ hk (by simp; omega)]
    congr 2
    apply List.ext_getElem
    · simp; omega
    · intro i h1 h2
      rw [List.getElem_set]
      split
      · rename_i e; subst e
        rw [gx_lt hk, List.getElem_append_left (by simp; omega)]
        simp
      · rename_i hne
        rcases Nat.lt_or_ge i k with hi | hi
        · rw [List.getElem_append_left (by simp; omega), List.getElem_append_left (by simp; omega)]; simp
        · rw [List.getElem_append_right (by simp; omega), List.getElem_append_right (by simp; omega)]; simp
  simpa using this
theorem all_next {C : Type} {f : Nat → Unit → Option (Res Unit C)} {N : Nat} (h : ∀ k, k < N → f k () = some (.next ())) : forO f N 0 () = some (.inl ()) := forO_st (fun _ => ()) rfl h

theorem mark_list {α : Type} [Rep α] {f : Nat → List α × Int → Option (Res (List α × Int) Empty)} (a : List α) (j0 B M : Int) (R : α → Int → Int → Prop) (hB : 0 ≤ B) (hM : j0 + B * a.length ≤ M)
    (h : ∀ k s j, k < a.length → s.length = a.length → gx s k = gx a k → j0 ≤ j → j + B ≤ M → ∃ e j', f k (s, j) = some (.next (s.set k e, j')) ∧ j ≤ j' ∧ j' ≤ j + B ∧ R e j j') :
    ∃ (a' : List α) (js : Nat → Int), lpO f a.length (a, j0) = some (a', js a.length) ∧ a'.length = a.length ∧ js 0 = j0 ∧ j0 ≤ js a.length ∧ js a.length ≤ j0 + B * a.length ∧ ∀ k, k < a.length → R (gx a' k) (js k) (js (k + 1)) ∧ j0 ≤ js k := by
  have key : ∀ m k (s : List α) (j : Int), k + m = a.length → s.length = a.length → (∀ i, k ≤ i → i < a.length → gx s i = gx a i) → j0 ≤ j → j ≤ j0 + B * k →
      ∃ (a' : List α) (js : Nat → Int), forO f m k (s, j) = some (.inl (a', js a.length)) ∧ a'.length = a.length ∧ js k = j ∧ j ≤ js a.length ∧ js a.length ≤ j0 + B * a.length ∧ (∀ i, i < k → gx a' i = gx s i) ∧ ∀ i, k ≤ i → i < a.length → R (gx a' i) (js i) (js (i + 1)) ∧ j ≤ js i := by
    intro m
    induction m with
    | zero =>
      intro k s j hk hl _ h0 h1
      have e : k = a.length := by omega
      subst e
      exact ⟨s, fun _ => j, rfl, hl, rfl, Int.le_refl _, h1, fun _ _ => rfl, fun i h1 h2 => by omega⟩
    | succ m ih =>
      intro k s j hk hl hs h0 h1
      have hle : B * (k : Int) + B ≤ B * a.length := by
        have : (k : Int) + 1 ≤ a.length := by omega
        have := Int.mul_le_mul_of_nonneg_left this hB
        rw [Int.mul_add, Int.mul_one] at this
        exact this
      obtain ⟨e, j', hf, g1, g2, hR⟩ := h k s j (by omega) hl (hs k (Nat.le_refl _) (by omega)) h0 (by omega)
      obtain ⟨a', js, i1, i2, i3, i3', i4, i5, i6⟩ := ih (k + 1) (s.set k e) j' (by omega) (by simpa using hl) (fun i h1 h2 => by rw [gx_set_ne (by omega)]; exact hs i (by omega) h2) (by omega) (by
        have e1 : B * ((k + 1 : Nat) : Int) = B * k + B := by rw [Int.natCast_add, Int.mul_add]; simp
        rw [e1]; omega)
      refine ⟨a', fun i => if i = k then j else js i, ?_, i2, by simp, ?_, ?_, fun i hi => ?_, fun i h1 h2 => ?_⟩
      · rw [forO, hf]
        have hne : a.length ≠ k := by omega
        simp only [Option.bind_some, hne, if_false]
        exact i1
      · have hne : a.length ≠ k := by omega
        simp only [hne, if_false]
        omega
      · have hne : a.length ≠ k := by omega
        simp only [hne, if_false]
        exact i4
      · rw [i5 i (by omega), gx_set_ne (by omega)]
      · rcases Nat.eq_or_lt_of_le h1 with e1 | e1
        · subst e1
          have hne : k + 1 ≠ k := by omega
          simp only [if_true, hne, if_false]
          rw [i3, i5 k (by omega), gx_set (by omega)]
          exact ⟨hR, Int.le_refl _⟩
        · have n1 : i ≠ k := by omega
          have n2 : i + 1 ≠ k := by omega
          simp only [n1, n2, if_false]
          obtain ⟨q1, q2⟩ := i6 i (by omega) h2
          exact ⟨q1, by omega⟩
  obtain ⟨a', js, i1, i2, i3, i3', i4, _, i6⟩ := key a.length 0 a j0 (by omega) rfl (fun _ _ _ => rfl) (Int.le_refl _) (by simp)
  refine ⟨a', js, ?_, i2, i3, i3', i4, fun k hk => i6 k (Nat.zero_le _) hk⟩
  unfold lpO
  rw [i1]; rfl
theorem held_list {C : Type} {f : Nat → Int → Option (Res Int C)} {N : Nat} (js : Nat → Int) {j0 : Int} (h0 : js 0 = j0) (h : ∀ k, k < N → f k (js k) = some (.next (js (k + 1)))) : forO f N 0 j0 = some (.inl (js N)) := forO_st js h0.symm h
/-- Sizes: each round takes off what an element has, or ends. -/
theorem size_list {f : Nat → Int → Option (Res Int Int)} {N : Nat} (P : Nat → Prop) (l : Int) (h : ∀ k j, k < N → 0 ≤ j → j ≤ l → (f k j = some (.ret (-1))) ∨ ∃ j', f k j = some (.next j') ∧ 0 ≤ j' ∧ j' ≤ j ∧ P k) (hl : 0 ≤ l) :
    forO f N 0 l = some (.inr (-1)) ∨ ∃ j, forO f N 0 l = some (.inl j) ∧ 0 ≤ j ∧ j ≤ l ∧ ∀ k, k < N → P k := by
  have key : ∀ m k j, k + m = N → 0 ≤ j → j ≤ l → (∀ i, i < k → P i) → forO f m k j = some (.inr (-1)) ∨ ∃ j', forO f m k j = some (.inl j') ∧ 0 ≤ j' ∧ j' ≤ l ∧ ∀ i, i < N → P i := by
    intro m
    induction m with
    | zero => intro k j hk h0 h1 hP; exact .inr ⟨j, rfl, h0, h1, fun i hi => hP i (by omega)⟩
    | succ m ih =>
      intro k j hk h0 h1 hP
      rcases h k j (by omega) h0 h1 with hr | ⟨j', hr, g1, g2, g3⟩
      · left; rw [forO, hr]; rfl
      · rw [forO, hr]
        exact ih (k + 1) j' (by omega) g1 (by omega) (fun i hi => by
          rcases Nat.lt_or_ge i k with h | h
          · exact hP i h
          · have : i = k := by omega
            subst this; exact g3)
  exact key N 0 l (by omega) hl (Int.le_refl _) (fun i hi => by omega)
theorem all_of_gx {α : Type} [Rep α] {xs : List α} {P : α → Prop} (h : ∀ k, k < xs.length → P (gx xs k)) : ∀ x ∈ xs, P x := fun x hx => by
  obtain ⟨i, hi, rfl⟩ := List.getElem_of_mem hx
  have := h i hi
  rwa [gx_lt hi] at this

-- type GCell
instance : Sm GCell := ⟨fun _ => True⟩

@[simp] theorem eq_Cell (a : GCell) : laws_eqCell a a = some true := by simp [laws_eqCell]

theorem eq_CellS (a : List GCell) (hs : Sm.ok a) : laws_eqCellS a a = some true := by
  have hl := sm_len hs
  unfold laws_eqCellS
  simp only [bne_self_eq_false, cond_false]
  rw [gd_pos (by omega), all_next (f := laws_eqCellS_L1 a a) (fun k hk => by
    simp only [laws_eqCellS_L1, eq_Cell (gx a k), Option.bind_some]
    rw [gd_pos hk]; rfl)]
  rfl

theorem mh_CellS (a : List GCell) (j : Int) (hs : Sm.ok a) (h0 : 0 ≤ j) (h1 : j ≤ 1152921504606846976) : ∃ a' j', laws_markCellS a j = some (j', a') ∧ laws_heldCellS a' j = some j' ∧ a'.length = a.length ∧ j ≤ j' ∧ j' ≤ j + 3145728 := by
  have hl := sm_len hs
  have hst : ∀ k s i, k < a.length → s.length = a.length → gx s k = gx a k → j ≤ i → i + 3 ≤ j + 3145728 → ∃ e j', laws_markCellS_L1 k (s, i) = some (.next (s.set k e, j')) ∧ i ≤ j' ∧ j' ≤ i + 3 ∧ (fun e p q => ∀ l n, gx l n = e → laws_heldCellS_L1 l n p = some (.next q)) e i j' := fun k s i hk hl' hg g0 g1 => by
    have e0 : wr (i + 1) = i + 1 := wr_of (by omega) (by omega)
    have e1 : wr (i + 1 + 1) = i + 1 + 1 := wr_of (by omega) (by omega)
    have e2 : wr (i + 1 + 1 + 1) = i + 1 + 1 + 1 := wr_of (by omega) (by omega)
    exact ⟨(GCell.mk (i) (i + 1) (i + 1 + 1)), i + 1 + 1 + 1, by simp only [laws_markCellS_L1, hg, e0, e1, e2, Option.bind_some], by omega, by omega, fun l n he => by
      simp only [laws_heldCellS_L1, he, e0, e1, e2, bne_self_eq_false, cond_false, Option.bind_some]⟩
  obtain ⟨a', js, q1, q2, q3, q4, q5, q6⟩ := mark_list (f := laws_markCellS_L1) a j 3 (j + 3145728) (fun e p q => ∀ l n, gx l n = e → laws_heldCellS_L1 l n p = some (.next q)) (by decide) (by omega) hst
  refine ⟨a', js a.length, ?_, ?_, q2, q4, by omega⟩
  · unfold laws_markCellS; rw [gd_pos (by omega), q1]; rfl
  · unfold laws_heldCellS; rw [gd_pos (by omega), q2, held_list (f := laws_heldCellS_L1 a') (N := a.length) js q3 (fun k hk => (q6 k hk).1 a' k rfl)]; rfl

-- type GBlock
instance : Sm GBlock := ⟨fun x => Sm.ok x.Cells⟩

theorem eq_Block (a : GBlock) (hs : Sm.ok a) : laws_eqBlock a a = some true := by simp only [laws_eqBlock, bne_self_eq_false, cond_false, Option.bind_some, Bool.not_true, eq_CellS a.Cells hs]

-- type GMember
instance : Sm GMember := ⟨fun _ => True⟩

@[simp] theorem eq_Member (a : GMember) : laws_eqMember a a = some true := by simp [laws_eqMember]

theorem eq_MemberS (a : List GMember) (hs : Sm.ok a) : laws_eqMemberS a a = some true := by
  have hl := sm_len hs
  unfold laws_eqMemberS
  simp only [bne_self_eq_false, cond_false]
  rw [gd_pos (by omega), all_next (f := laws_eqMemberS_L1 a a) (fun k hk => by
    simp only [laws_eqMemberS_L1, eq_Member (gx a k), Option.bind_some]
    rw [gd_pos hk]; rfl)]
  rfl

theorem mh_MemberS (a : List GMember) (j : Int) (hs : Sm.ok a) (h0 : 0 ≤ j) (h1 : j ≤ 1152921504606846976) : ∃ a' j', laws_markMemberS a j = some (j', a') ∧ laws_heldMemberS a' j = some j' ∧ a'.length = a.length ∧ j ≤ j' ∧ j' ≤ j + 3145728 := by
  have hl := sm_len hs
  have hst : ∀ k s i, k < a.length → s.length = a.length → gx s k = gx a k → j ≤ i → i + 3 ≤ j + 3145728 → ∃ e j', laws_markMemberS_L1 k (s, i) = some (.next (s.set k e, j')) ∧ i ≤ j' ∧ j' ≤ i + 3 ∧ (fun e p q => ∀ l n, gx l n = e → laws_heldMemberS_L1 l n p = some (.next q)) e i j' := fun k s i hk hl' hg g0 g1 => by
    have e0 : wr (i + 1) = i + 1 := wr_of (by omega) (by omega)
    have e1 : wr (i + 1 + 1) = i + 1 + 1 := wr_of (by omega) (by omega)
    have e2 : wr (i + 1 + 1 + 1) = i + 1 + 1 + 1 := wr_of (by omega) (by omega)
    exact ⟨(GMember.mk (i) (i + 1) (i + 1 + 1)), i + 1 + 1 + 1, by simp only [laws_markMemberS_L1, hg, e0, e1, e2, Option.bind_some], by omega, by omega, fun l n he => by
      simp only [laws_heldMemberS_L1, he, e0, e1, e2, bne_self_eq_false, cond_false, Option.bind_some]⟩
  obtain ⟨a', js, q1, q2, q3, q4, q5, q6⟩ := mark_list (f := laws_markMemberS_L1) a j 3 (j + 3145728) (fun e p q => ∀ l n, gx l n = e → laws_heldMemberS_L1 l n p = some (.next q)) (by decide) (by omega) hst
  refine ⟨a', js a.length, ?_, ?_, q2, q4, by omega⟩
  · unfold laws_markMemberS; rw [gd_pos (by omega), q1]; rfl
  · unfold laws_heldMemberS; rw [gd_pos (by omega), q2, held_list (f := laws_heldMemberS_L1 a') (N := a.length) js q3 (fun k hk => (q6 k hk).1 a' k rfl)]; rfl

theorem eq_IntS (a : List Int) (hs : Sm.ok a) : laws_eqIntS a a = some true := by
  have hl := sm_len hs
  unfold laws_eqIntS
  simp only [bne_self_eq_false, cond_false]
  rw [gd_pos (by omega), all_next (f := laws_eqIntS_L1 a a) (fun k hk => by
    simp [laws_eqIntS_L1, hk, gd])]
  rfl

theorem mh_IntS (a : List Int) (j : Int) (hs : Sm.ok a) (h0 : 0 ≤ j) (h1 : j ≤ 1152921504606846976) : ∃ a' j', laws_markIntS a j = some (j', a') ∧ laws_heldIntS a' j = some j' ∧ a'.length = a.length ∧ j ≤ j' ∧ j' ≤ j + 1048576 := by
  have hl := sm_len hs
  have hst : ∀ k s i, k < a.length → s.length = a.length → gx s k = gx a k → j ≤ i → i + 1 ≤ j + 1048576 → ∃ e j', laws_markIntS_L1 k (s, i) = some (.next (s.set k e, j')) ∧ i ≤ j' ∧ j' ≤ i + 1 ∧ (fun e p q => ∀ l n, gx l n = e → laws_heldIntS_L1 l n p = some (.next q)) e i j' := fun k s i hk hl' hg g0 g1 => by
    have e0 : wr (i + 1) = i + 1 := wr_of (by omega) (by omega)
    exact ⟨i, i + 1, by simp only [laws_markIntS_L1, hg, e0, Option.bind_some], by omega, by omega, fun l n he => by
      simp only [laws_heldIntS_L1, he, e0, bne_self_eq_false, cond_false, Option.bind_some]⟩
  obtain ⟨a', js, q1, q2, q3, q4, q5, q6⟩ := mark_list (f := laws_markIntS_L1) a j 1 (j + 1048576) (fun e p q => ∀ l n, gx l n = e → laws_heldIntS_L1 l n p = some (.next q)) (by decide) (by omega) hst
  refine ⟨a', js a.length, ?_, ?_, q2, q4, by omega⟩
  · unfold laws_markIntS; rw [gd_pos (by omega), q1]; rfl
  · unfold laws_heldIntS; rw [gd_pos (by omega), q2, held_list (f := laws_heldIntS_L1 a') (N := a.length) js q3 (fun k hk => (q6 k hk).1 a' k rfl)]; rfl

-- type GEntry
instance : Sm GEntry := ⟨fun x => Sm.ok x.Block⟩

theorem eq_Entry (a : GEntry) (hs : Sm.ok a) : laws_eqEntry a a = some true := by simp only [laws_eqEntry, bne_self_eq_false, cond_false, Option.bind_some, Bool.not_true, eq_Block a.Block hs]

theorem eq_EntryS (a : List GEntry) (hs : Sm.ok a) : laws_eqEntryS a a = some true := by
  have hl := sm_len hs
  unfold laws_eqEntryS
  simp only [bne_self_eq_false, cond_false]
  rw [gd_pos (by omega), all_next (f := laws_eqEntryS_L1 a a) (fun k hk => by
    simp only [laws_eqEntryS_L1, eq_Entry (gx a k) (sm_gx hs hk), Option.bind_some]
    rw [gd_pos hk]; rfl)]
  rfl

theorem mh_EntryS (a : List GEntry) (j : Int) (hs : Sm.ok a) (h0 : 0 ≤ j) (h1 : j ≤ 576460752303423488) : ∃ a' j', laws_markEntryS a j = some (j', a') ∧ laws_heldEntryS a' j = some j' ∧ a'.length = a.length ∧ j ≤ j' ∧ j' ≤ j + 3298538029056 := by
  have hl := sm_len hs
  have hst : ∀ k s i, k < a.length → s.length = a.length → gx s k = gx a k → j ≤ i → i + 3145731 ≤ j + 3298538029056 → ∃ e j', laws_markEntryS_L1 k (s, i) = some (.next (s.set k e, j')) ∧ i ≤ j' ∧ j' ≤ i + 3145731 ∧ (fun e p q => ∀ l n, gx l n = e → laws_heldEntryS_L1 l n p = some (.next q)) e i j' := fun k s i hk hl' hg g0 g1 => by
    have e0 : wr (i + 1) = i + 1 := wr_of (by omega) (by omega)
    have e1 : wr (i + 1 + 1) = i + 1 + 1 := wr_of (by omega) (by omega)
    have e2 : wr (i + 1 + 1 + 1) = i + 1 + 1 + 1 := wr_of (by omega) (by omega)
    obtain ⟨b0, c0, m0, hh0, l0, lo0, hi0⟩ := mh_CellS ((gx a k).Block.Cells) (i + 1 + 1 + 1) (sm_gx hs hk) (by omega) (by omega)
    have d0 : decide (c0 < 0) = false := decide_eq_false (by omega)
    exact ⟨(GEntry.mk (i) (i + 1) (GBlock.mk (i + 1 + 1) (b0))), c0, by simp only [laws_markEntryS_L1, hg, e0, e1, e2, m0, Option.bind_some], by omega, by omega, fun l n he => by
      simp only [laws_heldEntryS_L1, he, e0, e1, e2, hh0, d0, bne_self_eq_false, cond_false, Option.bind_some]⟩
  obtain ⟨a', js, q1, q2, q3, q4, q5, q6⟩ := mark_list (f := laws_markEntryS_L1) a j 3145731 (j + 3298538029056) (fun e p q => ∀ l n, gx l n = e → laws_heldEntryS_L1 l n p = some (.next q)) (by decide) (by omega) hst
  refine ⟨a', js a.length, ?_, ?_, q2, q4, by omega⟩
  · unfold laws_markEntryS; rw [gd_pos (by omega), q1]; rfl
  · unfold laws_heldEntryS; rw [gd_pos (by omega), q2, held_list (f := laws_heldEntryS_L1 a') (N := a.length) js q3 (fun k hk => (q6 k hk).1 a' k rfl)]; rfl

-- type GBooking
instance : Sm GBooking := ⟨fun _ => True⟩

@[simp] theorem eq_Booking (a : GBooking) : laws_eqBooking a a = some true := by simp [laws_eqBooking]

theorem eq_BookingS (a : List GBooking) (hs : Sm.ok a) : laws_eqBookingS a a = some true := by
  have hl := sm_len hs
  unfold laws_eqBookingS
  simp only [bne_self_eq_false, cond_false]
  rw [gd_pos (by omega), all_next (f := laws_eqBookingS_L1 a a) (fun k hk => by
    simp only [laws_eqBookingS_L1, eq_Booking (gx a k), Option.bind_some]
    rw [gd_pos hk]; rfl)]
  rfl

theorem mh_BookingS (a : List GBooking) (j : Int) (hs : Sm.ok a) (h0 : 0 ≤ j) (h1 : j ≤ 1152921504606846976) : ∃ a' j', laws_markBookingS a j = some (j', a') ∧ laws_heldBookingS a' j = some j' ∧ a'.length = a.length ∧ j ≤ j' ∧ j' ≤ j + 4194304 := by
  have hl := sm_len hs
  have hst : ∀ k s i, k < a.length → s.length = a.length → gx s k = gx a k → j ≤ i → i + 4 ≤ j + 4194304 → ∃ e j', laws_markBookingS_L1 k (s, i) = some (.next (s.set k e, j')) ∧ i ≤ j' ∧ j' ≤ i + 4 ∧ (fun e p q => ∀ l n, gx l n = e → laws_heldBookingS_L1 l n p = some (.next q)) e i j' := fun k s i hk hl' hg g0 g1 => by
    have e0 : wr (i + 1) = i + 1 := wr_of (by omega) (by omega)
    have e1 : wr (i + 1 + 1) = i + 1 + 1 := wr_of (by omega) (by omega)
    have e2 : wr (i + 1 + 1 + 1) = i + 1 + 1 + 1 := wr_of (by omega) (by omega)
    have e3 : wr (i + 1 + 1 + 1 + 1) = i + 1 + 1 + 1 + 1 := wr_of (by omega) (by omega)
    exact ⟨(GBooking.mk (i) (i + 1) (i + 1 + 1) (i + 1 + 1 + 1)), i + 1 + 1 + 1 + 1, by simp only [laws_markBookingS_L1, hg, e0, e1, e2, e3, Option.bind_some], by omega, by omega, fun l n he => by
      simp only [laws_heldBookingS_L1, he, e0, e1, e2, e3, bne_self_eq_false, cond_false, Option.bind_some]⟩
  obtain ⟨a', js, q1, q2, q3, q4, q5, q6⟩ := mark_list (f := laws_markBookingS_L1) a j 4 (j + 4194304) (fun e p q => ∀ l n, gx l n = e → laws_heldBookingS_L1 l n p = some (.next q)) (by decide) (by omega) hst
  refine ⟨a', js a.length, ?_, ?_, q2, q4, by omega⟩
  · unfold laws_markBookingS; rw [gd_pos (by omega), q1]; rfl
  · unfold laws_heldBookingS; rw [gd_pos (by omega), q2, held_list (f := laws_heldBookingS_L1 a') (N := a.length) js q3 (fun k hk => (q6 k hk).1 a' k rfl)]; rfl

-- type GGuild
instance : Sm GGuild := ⟨fun x => Sm.ok x.Members ∧ Sm.ok x.Stock ∧ Sm.ok x.Entries ∧ Sm.ok x.Books⟩

theorem eq_Guild (a : GGuild) (hs : Sm.ok a) : laws_eqGuild a a = some true := by simp only [laws_eqGuild, bne_self_eq_false, cond_false, Option.bind_some, Bool.not_true, eq_MemberS a.Members hs.1, eq_IntS a.Stock hs.2.1, eq_EntryS a.Entries hs.2.2.1, eq_BookingS a.Books hs.2.2.2]

theorem mh_Guild (a : GGuild) (j : Int) (hs : Sm.ok a) (h0 : 0 ≤ j) (h1 : j ≤ 288230376151711744) : ∃ b0 b1 b2 b3 j', laws_markGuild a j = some (j', b0, b1, b2, b3) ∧ laws_heldGuild (GGuild.mk b0 b1 b2 b3 a.Round a.Year) j = some j' ∧ j ≤ j' ∧ j' ≤ j + 3298546417664 := by
  obtain ⟨b0, c0, m0, hh0, l0, lo0, hi0⟩ := mh_MemberS a.Members j hs.1 (by omega) (by omega)
  have d0 : decide (c0 < 0) = false := decide_eq_false (by omega)
  obtain ⟨b1, c1, m1, hh1, l1, lo1, hi1⟩ := mh_IntS a.Stock c0 hs.2.1 (by omega) (by omega)
  have d1 : decide (c1 < 0) = false := decide_eq_false (by omega)
  obtain ⟨b2, c2, m2, hh2, l2, lo2, hi2⟩ := mh_EntryS a.Entries c1 hs.2.2.1 (by omega) (by omega)
  have d2 : decide (c2 < 0) = false := decide_eq_false (by omega)
  obtain ⟨b3, c3, m3, hh3, l3, lo3, hi3⟩ := mh_BookingS a.Books c2 hs.2.2.2 (by omega) (by omega)
  have d3 : decide (c3 < 0) = false := decide_eq_false (by omega)
  exact ⟨b0, b1, b2, b3, c3, by simp only [laws_markGuild, m0, m1, m2, m3, Option.bind_some], by simp only [laws_heldGuild, hh0, hh1, hh2, hh3, d0, d1, d2, d3, Option.bind_some, cond_false], by omega, by omega⟩

def inR (x a b : Int) : Bool := decide (x ≥ a) && decide (x ≤ b)
theorem inR_iff {x a b : Int} : inR x a b = true ↔ a ≤ x ∧ x ≤ b := by simp [inR]
theorem inR_not {x a b : Int} : inR x a b = false ↔ ¬(a ≤ x ∧ x ≤ b) := by rw [← inR_iff]; simp

@[simp] theorem l01In_eq (x a b : Int) : spec_l01In x a b = some (inR x a b) := rfl

@[simp] theorem within_eq (x a b : Int) : impl_within x a b = some (inR x a b) := rfl

@[simp] theorem isColor_eq (a : Int) : impl_isColor a = some (inR a 0 5) := rfl

def CellOkM (c : GCell) : Bool := inR c.Split 0 2 && inR c.A 0 5 && inR c.B 0 5 && ((c.Split == 0) == (c.A == c.B))

@[simp] theorem spec_CellOk_eq (c : GCell) : spec_CellOk c = some (CellOkM c) := by
  unfold spec_CellOk CellOkM
  simp only [l01In_eq, Option.bind_some]
  cases inR c.Split 0 2 <;> cases inR c.A 0 5 <;> cases inR c.B 0 5 <;> simp

@[simp] theorem impl_CellOk_eq (c : GCell) : impl_CellOk c = some (CellOkM c) := by
  unfold impl_CellOk CellOkM
  simp only [within_eq, isColor_eq, Option.bind_some]
  cases inR c.Split 0 2 <;> cases inR c.A 0 5 <;> cases inR c.B 0 5 <;> simp

theorem cellOk_spec {c : GCell} (h : CellOkM c = true) : 0 ≤ c.Split ∧ c.Split ≤ 2 ∧ 0 ≤ c.A ∧ c.A ≤ 5 ∧ 0 ≤ c.B ∧ c.B ≤ 5 ∧ (c.Split = 0 ↔ c.A = c.B) := by
  simp only [CellOkM, Bool.and_eq_true, inR_iff, beq_iff_eq] at h
  obtain ⟨⟨⟨⟨h1, h2⟩, h3, h4⟩, h5, h6⟩, h7⟩ := h
  refine ⟨h1, h2, h3, h4, h5, h6, ?_⟩
  have e1 : (c.Split == 0) = decide (c.Split = 0) := by cases h : c.Split == 0 <;> simp_all
  have e2 : (c.A == c.B) = decide (c.A = c.B) := by cases h : c.A == c.B <;> simp_all
  rw [e1, e2] at h7
  constructor
  · intro h; simp [h] at h7; exact h7
  · intro h; simp [h] at h7; exact h7
theorem cellOk_of {c : GCell} (h1 : 0 ≤ c.Split) (h2 : c.Split ≤ 2) (h3 : 0 ≤ c.A) (h4 : c.A ≤ 5) (h5 : 0 ≤ c.B) (h6 : c.B ≤ 5) (h7 : c.Split = 0 ↔ c.A = c.B) : CellOkM c = true := by
  have e1 : inR c.Split 0 2 = true := inR_iff.2 ⟨h1, h2⟩
  have e2 : inR c.A 0 5 = true := inR_iff.2 ⟨h3, h4⟩
  have e3 : inR c.B 0 5 = true := inR_iff.2 ⟨h5, h6⟩
  unfold CellOkM
  rw [e1, e2, e3]
  by_cases h : c.Split = 0
  · have := h7.1 h; simp [h, this]
  · have : ¬ c.A = c.B := fun e => h (h7.2 e)
    have q1 : (c.Split == 0) = false := beq_eq_false_iff_ne.2 h
    have q2 : (c.A == c.B) = false := beq_eq_false_iff_ne.2 this
    rw [q1, q2]; rfl

def WholeCellM (a : Int) : GCell := bif inR a 0 5 then ⟨0, a, a⟩ else ⟨0, 0, 0⟩

def SplitCellM (s a b : Int) : GCell := bif a == b then WholeCellM a else bif CellOkM ⟨s, a, b⟩ then ⟨s, a, b⟩ else ⟨0, 0, 0⟩

/-- Row by row. -/
def cellsM {α : Type} (h w : Nat) (F : Nat → Nat → α) : List α := (List.range h).flatMap fun y => (List.range w).map fun x => F y x
theorem cellsM_length {α : Type} (h w : Nat) (F : Nat → Nat → α) : (cellsM h w F).length = h * w := by
  induction h with
  | zero => simp [cellsM]
  | succ h ih =>
    unfold cellsM at ih ⊢
    rw [List.range_succ, List.flatMap_append, List.length_append, ih]
    simp [Nat.add_mul]
theorem cellsM_succ {α : Type} (h w : Nat) (F : Nat → Nat → α) : cellsM (h + 1) w F = cellsM h w F ++ (List.range w).map fun x => F h x := by
  simp [cellsM, List.range_succ]
theorem cellsM_gx {α : Type} [Rep α] {h w : Nat} {F : Nat → Nat → α} {y x : Nat} (hy : y < h) (hx : x < w) : gx (cellsM h w F) (y * w + x) = F y x := by
  induction h with
  | zero => omega
  | succ h ih =>
    rw [cellsM_succ]
    rcases Nat.lt_or_ge y h with hlt | hge
    · have hl : y * w + x < h * w := by
        have := Nat.mul_le_mul_right w (show y + 1 ≤ h from hlt)
        rw [Nat.add_mul] at this; omega
      have := ih hlt
      unfold gx List.getD at this ⊢
      rw [List.getElem?_append_left (by rw [cellsM_length]; exact hl)]
      exact this
    · have e : y = h := by omega
      subst e
      unfold gx List.getD
      rw [List.getElem?_append_right (by rw [cellsM_length]; omega), cellsM_length]
      simp [hx]
theorem cellsM_all {α : Type} {h w : Nat} {F : Nat → Nat → α} {P : α → Prop} (hF : ∀ y x, y < h → x < w → P (F y x)) : ∀ c ∈ cellsM h w F, P c := by
  intro c hc
  simp only [cellsM, List.mem_flatMap, List.mem_map, List.mem_range] at hc
  obtain ⟨y, hy, x, hx, rfl⟩ := hc
  exact hF y x hy hx
theorem loop2 {α : Type} {f1 : Nat → List α → Option (Res (List α) Empty)} {f2 : Nat → Nat → List α → Option (Res (List α) Empty)} {h w : Nat} (F : Nat → Nat → α) (h1 : ∀ k s, f1 k s = (lpO (f2 k) w s).bind fun e => some (.next e))
    (h2 : ∀ k1 k2 s, k1 < h → k2 < w → s.length < h * w → f2 k1 k2 s = some (.next (s ++ [F k1 k2]))) : lpO f1 h [] = some (cellsM h w F) := by
  refine (lpO_cat (xs := []) (fun y => (List.range w).map fun x => F y x) fun k s hk hs => ?_).trans (by simp [cellsM])
  have hl : s.length = k * w := by
    rw [hs, List.nil_append]; exact cellsM_length k w F
  rw [h1, lpO_app (xs := s) (fun x => F k x) fun k2 s2 hk2 hs2 => h2 k k2 s2 hk hk2 (by
    have := Nat.mul_le_mul_right w (show k + 1 ≤ h from hk)
    rw [Nat.add_mul] at this; omega)]
  rfl

def BlockOkM (b : GBlock) : Bool := inR b.Size 1 4 && ((b.Cells.length : Int) == b.Size * b.Size) && b.Cells.all CellOkM
theorem size_cases {n : Int} (h : inR n 1 4 = true) : n = 1 ∨ n = 2 ∨ n = 3 ∨ n = 4 := by
  rw [inR_iff] at h; omega

@[simp] theorem spec_BlockOk_eq (b : GBlock) : spec_BlockOk b = some (BlockOkM b) := by
  unfold spec_BlockOk BlockOkM
  simp only [l01In_eq, Option.bind_some]
  cases h : inR b.Size 1 4
  · rfl
  · have hw : wr (b.Size * b.Size) = b.Size * b.Size := by rcases size_cases h with e | e | e | e <;> rw [e] <;> decide
    rw [hw]
    cases hl : ((b.Cells.length : Int) == b.Size * b.Size)
    · have : (((b.Cells.length : Nat) : Int) != b.Size * b.Size) = true := by simp [bne, hl]
      simp [this]
    · have hl' : (b.Cells.length : Int) = b.Size * b.Size := by simpa using hl
      have : (((b.Cells.length : Nat) : Int) != b.Size * b.Size) = false := by simp [bne, hl]
      simp only [this, Bool.not_true, cond_false, Option.bind_some]
      rw [gd_pos (by rcases size_cases h with e | e | e | e <;> rw [e] at hl' <;> omega), forO_all (f := spec_BlockOk_L1 b) (fun k => CellOkM (gx b.Cells k)) (fun k hk => by
        simp only [spec_BlockOk_L1, spec_CellOk_eq, Option.bind_some]; cases CellOkM (gx b.Cells k) <;> rfl), all_gx]
      cases b.Cells.all CellOkM <;> rfl

@[simp] theorem impl_BlockOk_eq (b : GBlock) : impl_BlockOk b = some (BlockOkM b) := by
  unfold impl_BlockOk BlockOkM
  simp only [within_eq, Option.bind_some]
  cases h : inR b.Size 1 4
  · rfl
  · have hw : wr (b.Size * b.Size) = b.Size * b.Size := by rcases size_cases h with e | e | e | e <;> rw [e] <;> decide
    rw [hw]
    cases hl : ((b.Cells.length : Int) == b.Size * b.Size)
    · have : (((b.Cells.length : Nat) : Int) != b.Size * b.Size) = true := by simp [bne, hl]
      simp [this]
    · have hl' : (b.Cells.length : Int) = b.Size * b.Size := by simpa using hl
      have : (((b.Cells.length : Nat) : Int) != b.Size * b.Size) = false := by simp [bne, hl]
      simp only [this, Bool.not_true, cond_false, Option.bind_some]
      rw [gd_pos (by rcases size_cases h with e | e | e | e <;> rw [e] at hl' <;> omega), forO_all (f := impl_BlockOk_L1 b) (fun k => CellOkM (gx b.Cells k)) (fun k hk => by
        simp only [impl_BlockOk_L1, impl_CellOk_eq, Option.bind_some]; cases CellOkM (gx b.Cells k) <;> rfl), all_gx]
      cases b.Cells.all CellOkM <;> rfl

/-- A valid block: its side as a number, and its cells. -/
theorem blockOk_spec {b : GBlock} (h : BlockOkM b = true) : ∃ n : Nat, b.Size = n ∧ 1 ≤ n ∧ n ≤ 4 ∧ b.Cells.length = n * n ∧ ∀ c ∈ b.Cells, CellOkM c = true := by
  simp only [BlockOkM, Bool.and_eq_true, beq_iff_eq, List.all_eq_true] at h
  obtain ⟨⟨h1, h2⟩, h3⟩ := h
  rcases size_cases h1 with e | e | e | e <;> rw [e] at h2
  · exact ⟨1, e, by omega, by omega, by omega, h3⟩
  · exact ⟨2, e, by omega, by omega, by omega, h3⟩
  · exact ⟨3, e, by omega, by omega, by omega, h3⟩
  · exact ⟨4, e, by omega, by omega, by omega, h3⟩
theorem blockOk_of {n : Nat} {cs : List GCell} (h1 : 1 ≤ n) (h2 : n ≤ 4) (hl : cs.length = n * n) (hc : ∀ c ∈ cs, CellOkM c = true) : BlockOkM ⟨n, cs⟩ = true := by
  simp only [BlockOkM, Bool.and_eq_true, beq_iff_eq, List.all_eq_true]
  exact ⟨⟨inR_iff.2 ⟨by omega, by omega⟩, by rw [hl]; simp⟩, hc⟩
theorem blockOk_sm {b : GBlock} (h : BlockOkM b = true) : Sm.ok b := by
  obtain ⟨n, _, h1, h2, hl, _⟩ := blockOk_spec h
  have : n * n ≤ 4 * 4 := Nat.mul_le_mul h2 h2
  exact ⟨by omega, fun _ _ => trivial⟩
theorem zero_sm : Sm.ok (⟨0, []⟩ : GBlock) := ⟨by simp, fun _ h => by simp at h⟩

def CellAtM (b : GBlock) (x y : Int) : GCell := bif BlockOkM b && inR x 0 (b.Size - 1) && inR y 0 (b.Size - 1) then gx b.Cells (y * b.Size + x).toNat else ⟨0, 0, 0⟩
theorem idx_lt {n y x : Nat} (hy : y < n) (hx : x < n) : y * n + x < n * n := by
  have := Nat.mul_le_mul_right n (show y + 1 ≤ n from hy)
  rw [Nat.add_mul] at this; omega
theorem idx_lt2 {h w y x : Nat} (hy : y < h) (hx : x < w) : y * w + x < h * w := by
  have := Nat.mul_le_mul_right w (show y + 1 ≤ h from hy)
  rw [Nat.add_mul] at this; omega
theorem cellAtM_nat {b : GBlock} {n x y : Nat} (h : BlockOkM b = true) (hn : b.Size = n) (hx : x < n) (hy : y < n) : CellAtM b x y = gx b.Cells (y * n + x) := by
  have e1 : inR (x : Int) 0 (b.Size - 1) = true := inR_iff.2 ⟨by omega, by omega⟩
  have e2 : inR (y : Int) 0 (b.Size - 1) = true := inR_iff.2 ⟨by omega, by omega⟩
  have e3 : ((y : Int) * b.Size + x).toNat = y * n + x := by
    rw [hn]
    have : ((y : Int) * (n : Int) + (x : Int)) = ((y * n + x : Nat) : Int) := by simp
    rw [this, Int.toNat_natCast]
  simp [CellAtM, h, e1, e2, e3]

theorem prev_idx {k N : Nat} (hk : k < N) (hN : N ≤ 4611686018427387904) (h0 : decide ((k : Int) > 0) = true) : wr ((k : Int) - 1) = ((k - 1 : Nat) : Int) ∧ k - 1 < N := by
  have : (k : Int) > 0 := of_decide_eq_true h0
  exact ⟨by rw [wr_of (by omega) (by omega)]; omega, by omega⟩

def memP (xs : List GMember) (k : Nat) : Bool := inR (gx xs k).Number 1 999 && inR (gx xs k).Since 1900 2999 && inR (gx xs k).Paid (wr ((gx xs k).Since - 1)) 2999 && !(decide ((k : Int) > 0) && decide ((gx xs k).Number ≤ (gx xs (k - 1)).Number))
def MembersOkM (xs : List GMember) : Bool := (List.range xs.length).all (memP xs) && decide (((xs.length : Nat) : Int) ≤ 40)
theorem memOk_len {xs : List GMember} (h : MembersOkM xs = true) : xs.length ≤ 40 := by
  simp only [MembersOkM, Bool.and_eq_true, decide_eq_true_eq] at h; omega

theorem spec_MembersOk_eq (xs : List GMember) (hl : xs.length ≤ 4611686018427387904) : spec_MembersOk xs = some (MembersOkM xs) := by
  unfold spec_MembersOk MembersOkM
  rw [gd_pos hl, forO_all (f := spec_MembersOk_L1 xs) (c := false) (memP xs) (fun k hk => by
    simp only [spec_MembersOk_L1, l01In_eq, Option.bind_some, memP]
    cases hd : decide ((k : Int) > 0)
    · cases inR (gx xs k).Number 1 999 <;> cases inR (gx xs k).Since 1900 2999 <;> cases inR (gx xs k).Paid (wr ((gx xs k).Since - 1)) 2999 <;> rfl
    · obtain ⟨e1, e2⟩ := prev_idx hk hl hd
      simp only [e1, Int.toNat_natCast, cond_true]
      rw [gd_pos ⟨by omega, by omega⟩]
      cases inR (gx xs k).Number 1 999 <;> cases inR (gx xs k).Since 1900 2999 <;> cases inR (gx xs k).Paid (wr ((gx xs k).Since - 1)) 2999 <;> cases decide ((gx xs k).Number ≤ (gx xs (k - 1)).Number) <;> rfl)]
  cases (List.range xs.length).all (memP xs) <;> rfl

theorem impl_MembersOk_eq (xs : List GMember) (hl : xs.length ≤ 4611686018427387904) : impl_MembersOk xs = some (MembersOkM xs) := by
  unfold impl_MembersOk MembersOkM
  rw [gd_pos hl, forO_all (f := impl_MembersOk_L1 xs) (c := false) (memP xs) (fun k hk => by
    simp only [impl_MembersOk_L1, within_eq, Option.bind_some, memP]
    cases hd : decide ((k : Int) > 0)
    · cases inR (gx xs k).Number 1 999 <;> cases inR (gx xs k).Since 1900 2999 <;> cases inR (gx xs k).Paid (wr ((gx xs k).Since - 1)) 2999 <;> rfl
    · obtain ⟨e1, e2⟩ := prev_idx hk hl hd
      simp only [e1, Int.toNat_natCast, cond_true]
      rw [gd_pos ⟨by omega, by omega⟩]
      cases inR (gx xs k).Number 1 999 <;> cases inR (gx xs k).Since 1900 2999 <;> cases inR (gx xs k).Paid (wr ((gx xs k).Since - 1)) 2999 <;> cases decide ((gx xs k).Number ≤ (gx xs (k - 1)).Number) <;> rfl)]
  cases (List.range xs.length).all (memP xs) <;> rfl

def StockOkM (xs : List Int) : Bool := xs.all (fun n => inR n 0 1000000) && (((xs.length : Nat) : Int) == 6)
theorem stockOk_len {xs : List Int} (h : StockOkM xs = true) : xs.length = 6 := by
  simp only [StockOkM, Bool.and_eq_true, beq_iff_eq] at h; omega

theorem spec_StockOk_eq (xs : List Int) (hl : xs.length ≤ 4611686018427387904) : spec_StockOk xs = some (StockOkM xs) := by
  unfold spec_StockOk StockOkM
  rw [gd_pos hl, forO_all (f := spec_StockOk_L1 xs) (c := false) (fun k => inR (gx xs k) 0 1000000) (fun k hk => by
    simp only [spec_StockOk_L1, l01In_eq, Option.bind_some]; cases inR (gx xs k) 0 1000000 <;> rfl), all_gx (fun n => inR n 0 1000000)]
  cases xs.all (fun n => inR n 0 1000000) <;> rfl

theorem impl_allWithin_eq (xs : List Int) (a b : Int) (hl : xs.length ≤ 4611686018427387904) : impl_allWithin xs a b = some (xs.all fun n => inR n a b) := by
  unfold impl_allWithin
  rw [gd_pos hl, forO_all (f := impl_allWithin_L1 xs a b) (c := false) (fun k => inR (gx xs k) a b) (fun k hk => by
    simp only [impl_allWithin_L1, within_eq, Option.bind_some]; cases inR (gx xs k) a b <;> rfl), all_gx (fun n => inR n a b)]
  cases xs.all (fun n => inR n a b) <;> rfl

theorem impl_StockOk_eq (xs : List Int) (hl : xs.length ≤ 4611686018427387904) : impl_StockOk xs = some (StockOkM xs) := by
  unfold impl_StockOk StockOkM
  rw [impl_allWithin_eq xs _ _ hl]
  cases (((xs.length : Nat) : Int) == 6) <;> cases xs.all (fun n => inR n 0 1000000) <;> rfl

def ledP (xs : List GBooking) (k : Nat) : Bool := inR (gx xs k).Day 0 9999 && inR (gx xs k).From 0 4 && inR (gx xs k).To 0 4 && !((gx xs k).From == (gx xs k).To) && inR (gx xs k).Sum 1 100000 && !(decide ((k : Int) > 0) && decide ((gx xs k).Day < (gx xs (k - 1)).Day))
def LedgerOkM (xs : List GBooking) : Bool := (List.range xs.length).all (ledP xs) && decide (((xs.length : Nat) : Int) ≤ 60)
theorem ledOk_len {xs : List GBooking} (h : LedgerOkM xs = true) : xs.length ≤ 60 := by
  simp only [LedgerOkM, Bool.and_eq_true, decide_eq_true_eq] at h; omega

theorem spec_LedgerOk_eq (xs : List GBooking) (hl : xs.length ≤ 4611686018427387904) : spec_LedgerOk xs = some (LedgerOkM xs) := by
  unfold spec_LedgerOk LedgerOkM
  rw [gd_pos hl, forO_all (f := spec_LedgerOk_L1 xs) (c := false) (ledP xs) (fun k hk => by
    simp only [spec_LedgerOk_L1, l01In_eq, Option.bind_some, ledP]
    cases hd : decide ((k : Int) > 0)
    · cases inR (gx xs k).Day 0 9999 <;> cases inR (gx xs k).From 0 4 <;> cases inR (gx xs k).To 0 4 <;> cases ((gx xs k).From == (gx xs k).To) <;> cases inR (gx xs k).Sum 1 100000 <;> rfl
    · obtain ⟨e1, e2⟩ := prev_idx hk hl hd
      simp only [e1, Int.toNat_natCast, cond_true]
      rw [gd_pos ⟨by omega, by omega⟩]
      cases inR (gx xs k).Day 0 9999 <;> cases inR (gx xs k).From 0 4 <;> cases inR (gx xs k).To 0 4 <;> cases ((gx xs k).From == (gx xs k).To) <;> cases inR (gx xs k).Sum 1 100000 <;> cases decide ((gx xs k).Day < (gx xs (k - 1)).Day) <;> rfl)]
  cases (List.range xs.length).all (ledP xs) <;> rfl

theorem impl_LedgerOk_eq (xs : List GBooking) (hl : xs.length ≤ 4611686018427387904) : impl_LedgerOk xs = some (LedgerOkM xs) := by
  unfold impl_LedgerOk LedgerOkM
  rw [gd_pos hl, forO_all (f := impl_LedgerOk_L1 xs) (c := false) (ledP xs) (fun k hk => by
    simp only [impl_LedgerOk_L1, within_eq, Option.bind_some, ledP]
    cases hd : decide ((k : Int) > 0)
    · cases inR (gx xs k).Day 0 9999 <;> cases inR (gx xs k).From 0 4 <;> cases inR (gx xs k).To 0 4 <;> cases ((gx xs k).From == (gx xs k).To) <;> cases inR (gx xs k).Sum 1 100000 <;> rfl
    · obtain ⟨e1, e2⟩ := prev_idx hk hl hd
      simp only [e1, Int.toNat_natCast, cond_true]
      rw [gd_pos ⟨by omega, by omega⟩]
      cases inR (gx xs k).Day 0 9999 <;> cases inR (gx xs k).From 0 4 <;> cases inR (gx xs k).To 0 4 <;> cases ((gx xs k).From == (gx xs k).To) <;> cases inR (gx xs k).Sum 1 100000 <;> cases decide ((gx xs k).Day < (gx xs (k - 1)).Day) <;> rfl)]
  cases (List.range xs.length).all (ledP xs) <;> rfl

def EntryOkM (e : GEntry) : Bool := inR e.Owner 0 99 && inR e.Day 0 9999 && BlockOkM e.Block

@[simp] theorem spec_EntryOk_eq (e : GEntry) : spec_EntryOk e = some (EntryOkM e) := by
  unfold spec_EntryOk EntryOkM
  simp only [l01In_eq, spec_BlockOk_eq, Option.bind_some]
  cases inR e.Owner 0 99 <;> cases inR e.Day 0 9999 <;> rfl

@[simp] theorem impl_EntryOk_eq (e : GEntry) : impl_EntryOk e = some (EntryOkM e) := by
  unfold impl_EntryOk EntryOkM
  simp only [within_eq, impl_BlockOk_eq, Option.bind_some]
  cases inR e.Owner 0 99 <;> cases inR e.Day 0 9999 <;> rfl

def memberM (xs : List GMember) (n : Int) : Bool := !((List.range xs.length).all fun k => !((gx xs k).Number == n))

theorem spec_l38Member_eq (xs : List GMember) (n : Int) (hl : xs.length ≤ 4611686018427387904) : spec_l38Member xs n = some (memberM xs n) := by
  unfold spec_l38Member memberM
  rw [gd_pos hl, forO_all (f := spec_l38Member_L1 xs n) (c := true) (fun k => !((gx xs k).Number == n)) (fun k hk => by
    simp only [spec_l38Member_L1]; cases ((gx xs k).Number == n) <;> rfl)]
  cases (List.range xs.length).all (fun k => !((gx xs k).Number == n)) <;> rfl

theorem impl_isMember_eq (xs : List GMember) (n : Int) (hl : xs.length ≤ 4611686018427387904) : impl_isMember xs n = some (memberM xs n) := by
  unfold impl_isMember memberM
  rw [gd_pos hl, forO_all (f := impl_isMember_L1 xs n) (c := true) (fun k => !((gx xs k).Number == n)) (fun k hk => by
    simp only [impl_isMember_L1]; cases ((gx xs k).Number == n) <;> rfl)]
  cases (List.range xs.length).all (fun k => !((gx xs k).Number == n)) <;> rfl

def GoodM (xs : List GMember) (y : Int) : List Int := bif MembersOkM xs then ((List.range xs.length).filter fun k => decide ((gx xs k).Paid ≥ y)).map fun k => (gx xs k).Number else []
theorem good_len (xs : List GMember) (y : Int) : (GoodM xs y).length ≤ 40 := by
  unfold GoodM
  cases h : MembersOkM xs
  · simp
  · have h1 := memOk_len h
    have h2 := List.length_filter_le (fun k => decide ((gx xs k).Paid ≥ y)) (List.range xs.length)
    simp at h2 ⊢; omega

theorem impl_GoodStanding_eq (xs : List GMember) (y : Int) (hl : xs.length ≤ 4611686018427387904) : impl_GoodStanding xs y = some (GoodM xs y) := by
  unfold impl_GoodStanding GoodM
  rw [impl_MembersOk_eq xs hl]
  cases h : MembersOkM xs
  · rfl
  have h1 := memOk_len h
  simp only [Option.bind_some, Bool.not_true, cond_false, cond_true]
  rw [gd_pos hl, lpO_filter (f := impl_GoodStanding_L1 xs y) (xs := []) (fun k => decide ((gx xs k).Paid ≥ y)) (fun k => (gx xs k).Number) (fun k s hk hs => by
    simp only [impl_GoodStanding_L1]
    rw [gd_pos (by simp at hs; omega)]
    cases decide ((gx xs k).Paid ≥ y) <;> rfl)]
  rfl

theorem spec_GoodStanding_eq (xs : List GMember) (y : Int) (hl : xs.length ≤ 4611686018427387904) : spec_GoodStanding xs y = some (GoodM xs y) := by
  unfold spec_GoodStanding GoodM
  rw [gd_pos hl]
  cases h : MembersOkM xs
  · rcases Nat.eq_zero_or_pos xs.length with e | e
    · rw [e]; rfl
    · unfold lpO
      rw [forO_brkAt (f := spec_GoodStanding_L1 xs y) (fun _ => []) rfl 0 e (fun k hk => by omega) (s' := []) (by
        simp only [spec_GoodStanding_L1, spec_MembersOk_eq xs hl, h, Option.bind_some, cond_false])]
      rfl
  have h1 := memOk_len h
  simp only [cond_true]
  rw [lpO_filter (f := spec_GoodStanding_L1 xs y) (xs := []) (fun k => decide ((gx xs k).Paid ≥ y)) (fun k => (gx xs k).Number) (fun k s hk hs => by
    simp only [spec_GoodStanding_L1, spec_MembersOk_eq xs hl, h, Option.bind_some, cond_true]
    rw [gd_pos (by simp at hs; omega)]
    cases decide ((gx xs k).Paid ≥ y) <;> rfl)]
  rfl

def RoundsM (g : GGuild) : Int := bif inR (GoodM g.Members g.Year).length 2 10 then (GoodM g.Members g.Year).length - 1 else 0

theorem spec_SwapRounds_eq (g : GGuild) (hl : g.Members.length ≤ 4611686018427387904) : spec_SwapRounds g = some (RoundsM g) := by
  unfold spec_SwapRounds RoundsM
  have := good_len g.Members g.Year
  rw [spec_GoodStanding_eq _ _ hl]
  simp only [Option.bind_some, l01In_eq, wr_of (n := ((GoodM g.Members g.Year).length : Int) - 1) (by omega) (by omega)]
  cases inR (GoodM g.Members g.Year).length 2 10 <;> rfl

theorem impl_SwapRounds_eq (g : GGuild) (hl : g.Members.length ≤ 4611686018427387904) : impl_SwapRounds g = some (RoundsM g) := by
  unfold impl_SwapRounds RoundsM
  have := good_len g.Members g.Year
  rw [impl_GoodStanding_eq _ _ hl]
  simp only [Option.bind_some, within_eq, wr_of (n := ((GoodM g.Members g.Year).length : Int) - 1) (by omega) (by omega)]
  cases inR (GoodM g.Members g.Year).length 2 10 <;> rfl

/-- Lists of a length that loops may have. -/
def GL (g : GGuild) : Prop := g.Members.length ≤ 4611686018427387904 ∧ g.Stock.length ≤ 4611686018427387904 ∧ g.Entries.length ≤ 4611686018427387904 ∧ g.Books.length ≤ 4611686018427387904
theorem sm_GL {g : GGuild} (h : Sm.ok g) : GL g := by
  obtain ⟨h1, h2, h3, h4⟩ := h
  have := sm_len h1; have := sm_len h2; have := sm_len h3; have := sm_len h4
  exact ⟨by omega, by omega, by omega, by omega⟩
def entP (g : GGuild) (k : Nat) : Bool := EntryOkM (gx g.Entries k) && memberM g.Members (gx g.Entries k).Owner && !(decide ((k : Int) > 0) && decide ((gx g.Entries k).Day < (gx g.Entries (k - 1)).Day))
def GuildOkM (g : GGuild) : Bool := MembersOkM g.Members && StockOkM g.Stock && LedgerOkM g.Books && !decide (((g.Entries.length : Nat) : Int) > 10) && inR g.Year 1900 2999 && (List.range g.Entries.length).all (entP g) && inR g.Round 0 (RoundsM g)

theorem spec_GuildOk_eq (g : GGuild) (h : GL g) : spec_GuildOk g = some (GuildOkM g) := by
  obtain ⟨h1, h2, h3, h4⟩ := h
  unfold spec_GuildOk GuildOkM
  simp only [spec_MembersOk_eq _ h1, spec_StockOk_eq _ h2, spec_LedgerOk_eq _ h4, l01In_eq, Option.bind_some, spec_SwapRounds_eq _ h1]
  cases MembersOkM g.Members
  · rfl
  cases StockOkM g.Stock
  · rfl
  cases LedgerOkM g.Books
  · rfl
  cases decide (((g.Entries.length : Nat) : Int) > 10)
  · cases inR g.Year 1900 2999
    · rfl
    simp only [Bool.not_true, Bool.not_false, cond_false, Option.bind_some]
    rw [gd_pos h3, forO_all (f := spec_GuildOk_L1 g) (c := false) (entP g) (fun k hk => by
      simp only [spec_GuildOk_L1, spec_EntryOk_eq, spec_l38Member_eq _ _ h1, Option.bind_some, entP]
      cases hd : decide ((k : Int) > 0)
      · cases EntryOkM (gx g.Entries k) <;> cases memberM g.Members (gx g.Entries k).Owner <;> rfl
      · obtain ⟨e1, e2⟩ := prev_idx hk h3 hd
        simp only [e1, Int.toNat_natCast, cond_true]
        rw [gd_pos ⟨by omega, by omega⟩]
        cases EntryOkM (gx g.Entries k) <;> cases memberM g.Members (gx g.Entries k).Owner <;> cases decide ((gx g.Entries k).Day < (gx g.Entries (k - 1)).Day) <;> rfl)]
    cases (List.range g.Entries.length).all (entP g) <;> rfl
  · rfl

theorem impl_GuildOk_eq (g : GGuild) (h : GL g) : impl_GuildOk g = some (GuildOkM g) := by
  obtain ⟨h1, h2, h3, h4⟩ := h
  unfold impl_GuildOk GuildOkM
  simp only [impl_MembersOk_eq _ h1, impl_StockOk_eq _ h2, impl_LedgerOk_eq _ h4, within_eq, Option.bind_some, impl_SwapRounds_eq _ h1]
  cases MembersOkM g.Members
  · rfl
  cases StockOkM g.Stock
  · rfl
  cases LedgerOkM g.Books
  · rfl
  cases decide (((g.Entries.length : Nat) : Int) > 10)
  · simp only [Bool.not_true, Bool.not_false, cond_false, Option.bind_some]
    rw [gd_pos h3, forO_all (f := impl_GuildOk_L1 g) (c := false) (entP g) (fun k hk => by
      simp only [impl_GuildOk_L1, impl_EntryOk_eq, impl_isMember_eq _ _ h1, Option.bind_some, entP]
      cases hd : decide ((k : Int) > 0)
      · cases EntryOkM (gx g.Entries k) <;> cases memberM g.Members (gx g.Entries k).Owner <;> rfl
      · obtain ⟨e1, e2⟩ := prev_idx hk h3 hd
        simp only [e1, Int.toNat_natCast, cond_true]
        rw [gd_pos ⟨by omega, by omega⟩]
        cases EntryOkM (gx g.Entries k) <;> cases memberM g.Members (gx g.Entries k).Owner <;> cases decide ((gx g.Entries k).Day < (gx g.Entries (k - 1)).Day) <;> rfl)]
    cases (List.range g.Entries.length).all (entP g) <;> cases inR g.Year 1900 2999 <;> rfl
  · rfl

theorem guildOk_sm {g : GGuild} (h : GuildOkM g = true) : Sm.ok g := by
  simp only [GuildOkM, Bool.and_eq_true, Bool.not_eq_true', decide_eq_false_iff_not] at h
  obtain ⟨⟨⟨⟨⟨⟨h1, h2⟩, h3⟩, h4⟩, _⟩, h6⟩, _⟩ := h
  have := memOk_len h1; have := stockOk_len h2; have := ledOk_len h3
  refine ⟨⟨by omega, fun _ _ => trivial⟩, ⟨by omega, fun _ _ => trivial⟩, ⟨by omega, all_of_gx fun k hk => ?_⟩, ⟨by omega, fun _ _ => trivial⟩⟩
  rw [List.all_eq_true] at h6
  have := h6 k (by simpa using hk)
  simp only [entP, EntryOkM, Bool.and_eq_true] at this
  exact blockOk_sm this.1.1.2

theorem spec_l03Copy_sm {b : GBlock} (h : Sm.ok b) : spec_l03Copy b = some b := by
  have := sm_len h
  unfold spec_l03Copy
  rw [gd_pos (by simp; omega)]; simp

theorem impl_Block_copied_sm {b : GBlock} (h : Sm.ok b) : impl_Block_copied b = some b := by
  have := sm_len h
  unfold impl_Block_copied
  rw [gd_pos (by simp; omega)]; simp

theorem spec_l38Copy_eq {g : GGuild} (h : Sm.ok g) : spec_l38Copy g = some g := by
  obtain ⟨h1, h2, h3, h4⟩ := h
  have l1 := sm_len h1; have l2 := sm_len h2; have l3 := sm_len h3; have l4 := sm_len h4
  unfold spec_l38Copy
  rw [gd_pos (by simp; omega), gd_pos (by simp; omega), gd_pos (by simp; omega), gd_pos (by omega), lpO_app (f := spec_l38Copy_L1 g) (xs := []) (fun k => gx g.Entries k) (fun k s hk hs => by
    simp only [spec_l38Copy_L1, spec_l03Copy_sm (h3.2 _ (gx_mem hk)), Option.bind_some]
    rw [gd_pos (by simp at hs; omega)])]
  have := map_gx id g.Entries
  simp only [id] at this
  simp [this]

theorem impl_copyMembers_eq {xs : List GMember} (h : xs.length ≤ 1048600) : impl_copyMembers xs = some xs := by
  unfold impl_copyMembers
  rw [gd_pos (by simp; omega)]; simp

theorem impl_copyOf_eq {xs : List Int} (h : xs.length ≤ 1048600) : impl_copyOf xs = some xs := by
  unfold impl_copyOf
  rw [gd_pos (by simp; omega)]; simp

theorem impl_Guild_copied_eq {g : GGuild} (h : Sm.ok g) : impl_Guild_copied g = some g := by
  obtain ⟨h1, h2, h3, h4⟩ := h
  have l1 := sm_len h1; have l2 := sm_len h2; have l3 := sm_len h3; have l4 := sm_len h4
  unfold impl_Guild_copied
  rw [impl_copyMembers_eq (by omega), impl_copyOf_eq (by omega)]
  simp only [Option.bind_some]
  rw [gd_pos (by simp; omega), gd_pos (by omega), lpO_app (f := impl_Guild_copied_L1 g) (xs := []) (fun k => gx g.Entries k) (fun k s hk hs => by
    simp only [impl_Guild_copied_L1, impl_Block_copied_sm (h3.2 _ (gx_mem hk)), Option.bind_some]
    rw [gd_pos (by simp at hs; omega)])]
  have := map_gx id g.Entries
  simp only [id] at this
  simp [this]

theorem impl_becomes_eq {g next : GGuild} (h : Sm.ok g) (hn : GL next) (ok : Bool) : impl_Guild_becomes g next ok = some (bif GuildOkM g && ok && GuildOkM next then (next, true) else (g, false)) := by
  unfold impl_Guild_becomes
  rw [impl_GuildOk_eq g (sm_GL h), impl_GuildOk_eq next hn, impl_Guild_copied_eq h]
  cases GuildOkM g <;> cases ok <;> cases GuildOkM next <;> rfl

theorem same_NewGuild (y : Int) (_ : Fit.ok y) : ∃ w, spec_NewGuild y = some w ∧ impl_NewGuild y = some w ∧ Sm.ok w.1 := by
  have hg : GL (⟨[], [1000, 1000, 1000, 1000, 1000, 1000], [], [], 0, y⟩ : GGuild) := ⟨by simp, by simp, by simp, by simp⟩
  have hl : lpO spec_NewGuild_L1 6 ([] : List Int) = some [1000, 1000, 1000, 1000, 1000, 1000] := rfl
  have hz : Sm.ok (⟨[], [], [], [], 0, 0⟩ : GGuild) := ⟨⟨by simp, fun _ h => by simp at h⟩, ⟨by simp, fun _ h => by simp at h⟩, ⟨by simp, fun _ h => by simp at h⟩, ⟨by simp, fun _ h => by simp at h⟩⟩
  unfold spec_NewGuild impl_NewGuild
  rw [hl]
  simp only [Option.bind_some, spec_GuildOk_eq _ hg, impl_GuildOk_eq _ hg]
  cases h : GuildOkM (⟨[], [1000, 1000, 1000, 1000, 1000, 1000], [], [], 0, y⟩ : GGuild)
  · exact ⟨_, rfl, rfl, hz⟩
  · exact ⟨_, rfl, rfl, guildOk_sm h⟩

def addU (acc : List Int) (a : Int) : List Int := bif acc.contains a then acc else acc ++ [a]
theorem addU_nodup {acc : List Int} (h : acc.Nodup) (a : Int) : (addU acc a).Nodup := by
  unfold addU
  cases hc : acc.contains a
  · have hn : ¬ a ∈ acc := by
      intro hm
      have := List.contains_iff_mem.2 hm
      rw [hc] at this; cases this
    simp only [cond_false]
    rw [List.nodup_append]
    refine ⟨h, by simp, ?_⟩
    intro x hx y hy e
    simp only [List.mem_singleton] at hy
    subst hy; subst e
    exact hn hx
  · exact h
theorem addU_mem {acc : List Int} {a x : Int} : x ∈ addU acc a ↔ x ∈ acc ∨ x = a := by
  unfold addU
  cases hc : acc.contains a
  · simp
  · have hm : a ∈ acc := List.contains_iff_mem.1 hc
    simp only [cond_true]
    constructor
    · exact Or.inl
    · rintro (h | rfl)
      · exact h
      · exact hm
theorem fold_addU : ∀ (l acc : List Int), acc.Nodup → (l.foldl addU acc).Nodup ∧ ∀ x, x ∈ l.foldl addU acc ↔ x ∈ acc ∨ x ∈ l
  | [], acc, h => ⟨h, fun x => by simp⟩
  | a :: l, acc, h => by
    obtain ⟨h1, h2⟩ := fold_addU l (addU acc a) (addU_nodup h a)
    refine ⟨h1, fun x => ?_⟩
    rw [List.foldl_cons, h2, addU_mem]
    simp [or_assoc]
def useSeq (b : GBlock) : List Int := b.Cells.flatMap fun c => [c.A, c.B]
def six : List Int := [0, 1, 2, 3, 4, 5]
theorem mem_six {x : Int} : x ∈ six ↔ 0 ≤ x ∧ x ≤ 5 := by
  simp only [six, List.mem_cons, List.not_mem_nil, or_false]; omega
def ord6 (b : GBlock) : List Int := (useSeq b ++ six).foldl addU []
theorem mem_useSeq {b : GBlock} {x : Int} : x ∈ useSeq b ↔ ∃ c ∈ b.Cells, x = c.A ∨ x = c.B := by simp [useSeq]
theorem ord6_ok {b : GBlock} (h : BlockOkM b = true) : (ord6 b).Nodup ∧ (∀ x, x ∈ ord6 b ↔ 0 ≤ x ∧ x ≤ 5) ∧ (ord6 b).length = 6 := by
  obtain ⟨n, hn, h1, h2, hl, hc⟩ := blockOk_spec h
  obtain ⟨g1, g2⟩ := fold_addU (useSeq b ++ six) [] (by simp)
  have g3 : ∀ x, x ∈ ord6 b ↔ 0 ≤ x ∧ x ≤ 5 := fun x => by
    unfold ord6
    rw [g2]
    simp only [List.not_mem_nil, false_or, List.mem_append, mem_six]
    constructor
    · rintro (h | h)
      · obtain ⟨c, hm, h⟩ := mem_useSeq.1 h
        obtain ⟨c1, c2, c3, c4, c5, c6, _⟩ := cellOk_spec (hc c hm)
        rcases h with rfl | rfl <;> omega
      · exact h
    · exact Or.inr
  refine ⟨g1, g3, ?_⟩
  have p : (ord6 b).Perm six := (List.perm_ext_iff_of_nodup (show (ord6 b).Nodup from g1) (by decide)).2 fun x => by rw [g3, mem_six]
  exact p.length_eq

/-- The first index of a number, -1 if there is none. -/
def idxM (l : List Int) (n : Int) : Int := match (List.range l.length).find? (fun k => gx l k == n) with | some k => (k : Int) | none => -1
theorem idxM_cases (l : List Int) (n : Int) : (¬ n ∈ l ∧ idxM l n = -1) ∨ ∃ k : Nat, k < l.length ∧ idxM l n = k ∧ gx l k = n := by
  unfold idxM
  cases h : (List.range l.length).find? (fun k => gx l k == n) with
  | none =>
    left
    refine ⟨fun hm => ?_, rfl⟩
    obtain ⟨i, hi, rfl⟩ := List.getElem_of_mem hm
    rw [List.find?_eq_none] at h
    exact h i (by simpa using hi) (by simp [gx_lt hi])
  | some k =>
    right
    refine ⟨k, by simpa using List.mem_of_find?_eq_some h, rfl, by simpa using List.find?_some h⟩
theorem idxM_neg {l : List Int} {n : Int} : idxM l n < 0 ↔ ¬ n ∈ l := by
  rcases idxM_cases l n with ⟨h1, h2⟩ | ⟨k, h1, h2, h3⟩
  · simp [h1, h2]
  · constructor
    · intro h; omega
    · intro h; exact absurd (h3 ▸ gx_mem h1) h
theorem idxM_of {l : List Int} (hn : l.Nodup) {k : Nat} (hk : k < l.length) : idxM l (gx l k) = k := by
  rcases idxM_cases l (gx l k) with ⟨h1, h2⟩ | ⟨j, h1, h2, h3⟩
  · exact absurd (gx_mem hk) h1
  · rw [h2]
    rw [gx_lt h1, gx_lt hk] at h3
    have := (List.getElem_inj hn).1 h3
    rw [this]
theorem idxM_contains (l : List Int) (n : Int) : decide (idxM l n < 0) = !(l.contains n) := by
  rw [Bool.eq_iff_iff]
  simp [idxM_neg]
theorem gx_append_left {α : Type} [Rep α] {l m : List α} {k : Nat} (h : k < l.length) : gx (l ++ m) k = gx l k := by
  unfold gx List.getD
  rw [List.getElem?_append_left h]
theorem idxM_append {l : List Int} (m : List Int) {n : Int} (hn : (l ++ m).Nodup) (h : n ∈ l) : idxM (l ++ m) n = idxM l n := by
  rcases idxM_cases l n with ⟨h1, h2⟩ | ⟨k, h1, h2, h3⟩
  · exact absurd h h1
  · rw [h2, ← h3, ← gx_append_left (m := m) h1, idxM_of hn (by simp; omega)]
theorem idxM_last {l : List Int} {n : Int} (hn : (l ++ [n]).Nodup) : idxM (l ++ [n]) n = l.length := by
  have := idxM_of hn (k := l.length) (by simp)
  have e : gx (l ++ [n]) l.length = n := by simp [gx, List.getD]
  rwa [e] at this
def FirstUseM (b : GBlock) : List Int := bif BlockOkM b then (List.range 6).map fun a : Nat => idxM (ord6 b) (a : Int) else []
theorem firstUse_len {b : GBlock} (h : BlockOkM b = true) : (FirstUseM b).length = 6 := by simp [FirstUseM, h]
theorem firstUse_in {b : GBlock} (h : BlockOkM b = true) : ∀ x ∈ FirstUseM b, 0 ≤ x ∧ x ≤ 5 := by
  obtain ⟨g1, g2, g3⟩ := ord6_ok h
  intro x hx
  simp only [FirstUseM, h, cond_true, List.mem_map, List.mem_range] at hx
  obtain ⟨a, ha, rfl⟩ := hx
  rcases idxM_cases (ord6 b) (a : Int) with ⟨h1, h2⟩ | ⟨k, h1, h2, h3⟩
  · exact absurd ((g2 _).2 ⟨by omega, by omega⟩) h1
  · omega

def ListOkM (l : List Int) : Bool := l.length == 6 && l.all fun a => inR a 0 5
theorem listOk_spec {l : List Int} (h : ListOkM l = true) : l.length = 6 ∧ ∀ a ∈ l, 0 ≤ a ∧ a ≤ 5 := by
  simp only [ListOkM, Bool.and_eq_true, beq_iff_eq, List.all_eq_true, inR_iff] at h
  exact h
theorem listOk_of {l : List Int} (h : l.length = 6) (h2 : ∀ a ∈ l, 0 ≤ a ∧ a ≤ 5) : ListOkM l = true := by
  simp only [ListOkM, Bool.and_eq_true, beq_iff_eq, List.all_eq_true, inR_iff]
  exact ⟨h, h2⟩
theorem firstUse_ok {b : GBlock} (h : BlockOkM b = true) : ListOkM (FirstUseM b) = true := listOk_of (firstUse_len h) (firstUse_in h)
theorem splitCell_ok (s a b : Int) : CellOkM (SplitCellM s a b) = true := by
  unfold SplitCellM WholeCellM
  cases h : a == b
  · cases h2 : CellOkM ⟨s, a, b⟩
    · rfl
    · exact h2
  · cases h2 : inR a 0 5
    · rfl
    · have := inR_iff.1 h2
      exact cellOk_of (by simp) (by simp) this.1 this.2 this.1 this.2 (by simp)
def ExchangeCellM (c : GCell) (l : List Int) : GCell := bif CellOkM c && ListOkM l then SplitCellM c.Split (gx l c.A.toNat) (gx l c.B.toNat) else ⟨0, 0, 0⟩
theorem exchangeCell_ok (c : GCell) (l : List Int) : CellOkM (ExchangeCellM c l) = true := by
  unfold ExchangeCellM
  cases CellOkM c && ListOkM l
  · rfl
  · exact splitCell_ok _ _ _
def ExchangeM (b : GBlock) (l : List Int) : GBlock × Bool := bif BlockOkM b && ListOkM l then (⟨b.Size, b.Cells.map fun c => ExchangeCellM c l⟩, true) else (b, false)
theorem exchange_ok {b : GBlock} (h : BlockOkM b = true) (l : List Int) : BlockOkM (ExchangeM b l).1 = true ∧ (ExchangeM b l).1.Size = b.Size := by
  unfold ExchangeM
  cases hc : BlockOkM b && ListOkM l
  · exact ⟨h, rfl⟩
  · obtain ⟨n, hn, h1, h2, hl, hcs⟩ := blockOk_spec h
    refine ⟨?_, rfl⟩
    rw [hn]
    exact blockOk_of h1 h2 (by simpa using hl) (fun c hm => by
      simp only [List.mem_map] at hm
      obtain ⟨d, _, rfl⟩ := hm
      exact exchangeCell_ok d l)
def PlainM (b : GBlock) : GBlock := (ExchangeM b (FirstUseM b)).1
theorem plain_ok {b : GBlock} (h : BlockOkM b = true) : BlockOkM (PlainM b) = true ∧ (PlainM b).Size = b.Size := exchange_ok h _
theorem cells_grid {α β : Type} [Rep α] (F : α → β) {n : Nat} {l : List α} (hl : l.length = n * n) : (cellsM n n fun y x => F (gx l (y * n + x))) = l.map F := by
  apply List.ext_getElem
  · rw [cellsM_length]; simp [hl]
  · intro i h1 h2
    have hi : i < n * n := by rw [cellsM_length] at h1; exact h1
    have hn : 0 < n := by
      rcases Nat.eq_zero_or_pos n with h | h
      · subst h; simp at hi
      · exact h
    have hd : i / n * n + i % n = i := by rw [Nat.mul_comm]; exact Nat.div_add_mod i n
    have key : ∀ (h w : Nat) (G : Nat → Nat → β) (y x : Nat), y < h → x < w → (cellsM h w G)[y * w + x]? = some (G y x) := by
      intro h w G y x hy hx
      induction h with
      | zero => omega
      | succ h ih =>
        rw [cellsM_succ]
        rcases Nat.lt_or_ge y h with hlt | hge
        · rw [List.getElem?_append_left (by rw [cellsM_length]; exact idx_lt2 hlt hx)]
          exact ih hlt
        · have e : y = h := by omega
          subst e
          rw [List.getElem?_append_right (by rw [cellsM_length]; omega), cellsM_length]
          simp [hx]
    have k1 := key n n (fun y x => F (gx l (y * n + x))) (i / n) (i % n) ((Nat.div_lt_iff_lt_mul hn).2 hi) (Nat.mod_lt _ hn)
    simp only [hd] at k1
    rw [List.getElem?_eq_getElem h1] at k1
    have := Option.some.inj k1
    rw [this, gx_lt (by omega)]
    simp

theorem join_loop (xs : List GMember) (n : Int) (hl : xs.length ≤ 1048600) : ∃ j : Nat, j ≤ xs.length ∧ wlO (spec_JoinGuild_L1 xs n) 18446744073709551616 0 = some (j : Int) := by
  have key : ∀ m k fuel, k + m = xs.length → m < fuel → ∃ j : Nat, j ≤ xs.length ∧ whO (spec_JoinGuild_L1 xs n) fuel (k : Int) = some (.inl (j : Int)) := by
    intro m
    induction m with
    | zero =>
      intro k fuel hk hf
      obtain ⟨fuel, rfl⟩ : ∃ q, fuel = q + 1 := ⟨fuel - 1, by omega⟩
      refine ⟨k, by omega, ?_⟩
      have hd : decide ((k : Int) < (xs.length : Int)) = false := by simp; omega
      have hg : spec_JoinGuild_L1 xs n (k : Int) = some (.brk (k : Int)) := by
        unfold spec_JoinGuild_L1
        rw [hd]; rfl
      rw [whO, hg]; rfl
    | succ m ih =>
      intro k fuel hk hf
      obtain ⟨fuel, rfl⟩ : ∃ q, fuel = q + 1 := ⟨fuel - 1, by omega⟩
      have hd : decide ((k : Int) < (xs.length : Int)) = true := by simp; omega
      have e : wr ((k : Int) + 1) = ((k + 1 : Nat) : Int) := by rw [wr_of (by omega) (by omega)]; simp
      have hg : spec_JoinGuild_L1 xs n (k : Int) = some (bif decide ((gx xs k).Number < n) then .next ((k + 1 : Nat) : Int) else .brk (k : Int)) := by
        unfold spec_JoinGuild_L1
        rw [hd, e]
        simp only [cond_true, Int.toNat_natCast]
        rw [gd_pos ⟨by omega, by omega⟩]
        simp only [Option.bind_some]
        cases decide ((gx xs k).Number < n) <;> rfl
      rw [whO, hg]
      cases decide ((gx xs k).Number < n)
      · exact ⟨k, by omega, rfl⟩
      · exact ih (k + 1) fuel (by omega) (by omega)
  obtain ⟨j, h1, h2⟩ := key xs.length 0 18446744073709551616 (by omega) (by omega)
  refine ⟨j, h1, ?_⟩
  unfold wlO
  rw [show (0 : Int) = ((0 : Nat) : Int) from rfl, h2]; rfl
theorem gx_mid {α : Type} [Rep α] (A B : List α) (x : α) {j : Nat} (hj : A.length = j) : gx ((A ++ [x]) ++ B) j = x := by
  subst hj
  simp [gx, List.getD]

theorem join_same (xs : List GMember) (n y : Int) (hl : xs.length ≤ 1048576) : ∃ r : List GMember × Bool, r.1.length ≤ xs.length + 1 ∧ spec_JoinGuild xs n y = some r ∧ impl_JoinGuild xs n y = some r := by
  obtain ⟨j, hj, hloop⟩ := join_loop xs n (by omega)
  have hloop' : wlO (impl_JoinGuild_L1 xs n) 18446744073709551616 0 = some (j : Int) := hloop
  have hA : (([] : List GMember) ++ ((xs.drop 0).take (j - 0))).length = j := by simp; omega
  have hB : ((xs.drop j).take (xs.length - j)).length = xs.length - j := by simp
  generalize hout : ((([] : List GMember) ++ ((xs.drop 0).take (j - 0))) ++ [(GMember.mk n y (wr (y - 1)))]) ++ ((xs.drop j).take (xs.length - j)) = out
  have hol : out.length = xs.length + 1 := by
    rw [← hout, List.length_append, List.length_append, hA, hB]; simp; omega
  have hmid : gx out j = GMember.mk n y (wr (y - 1)) := by rw [← hout]; exact gx_mid _ _ _ hA
  have g1 : gd (0 ≤ (j : Int) ∧ 0 ≤ (j : Int).toNat ∧ (j : Int).toNat ≤ xs.length) = fun (t : Option (List GMember × Bool)) => t := by
    funext t; exact gd_pos ⟨by omega, by omega, by omega⟩ t
  have hd0 : ((xs.drop 0).take (j - 0)).length = j := by simp; omega
  have fI : impl_JoinGuild xs n y = ((bif !MembersOkM xs then some true else some (!MembersOkM out)).bind fun j2 => bif j2 then some (xs, false) else some (out, true)) := by
    unfold impl_JoinGuild
    rw [hloop']
    simp only [Option.bind_some, Int.toNat_natCast]
    rw [gd_pos ⟨by omega, by omega, by omega⟩, gd_pos (by rw [hd0]; simp; omega), gd_pos (by rw [hA]; omega), gd_pos ⟨by omega, by omega, by omega⟩, gd_pos (by rw [List.length_append, hA, hB]; simp; omega)]
    rw [hout, impl_MembersOk_eq xs (by omega), impl_MembersOk_eq out (by omega), impl_copyMembers_eq (by omega)]
    simp only [Option.bind_some]
  have fS : spec_JoinGuild xs n y = ((bif !MembersOkM xs then some true else some (!inR y 1900 2999)).bind fun j1 => bif j1 then some (xs, false) else (bif !MembersOkM out then some (xs, false) else some (out, true))) := by
    unfold spec_JoinGuild
    rw [hloop]
    simp only [Option.bind_some, Int.toNat_natCast]
    rw [gd_pos (by simp; omega), spec_MembersOk_eq xs (by omega)]
    simp only [l01In_eq, Option.bind_some, List.nil_append]
    have e : ∀ t : Option (List GMember × Bool), (gd (0 ≤ (j : Int) ∧ 0 ≤ j ∧ j ≤ xs.length) <| gd (([] : List GMember).length + ((xs.drop 0).take (j - 0)).length ≤ 1099511627776) <| gd ((((xs.drop 0).take (j - 0))).length + 1 ≤ 1099511627776) <| gd (0 ≤ (j : Int) ∧ j ≤ xs.length ∧ xs.length ≤ xs.length) <| gd (((((xs.drop 0).take (j - 0))) ++ [(GMember.mk n y (wr (y - 1)))]).length + ((xs.drop j).take (xs.length - j)).length ≤ 1099511627776) t) = t := fun t => by
      rw [gd_pos ⟨by omega, by omega, by omega⟩, gd_pos (by rw [hd0]; simp; omega), gd_pos (by rw [hd0]; omega), gd_pos ⟨by omega, by omega, by omega⟩, gd_pos (by rw [List.length_append, hd0, hB]; simp; omega)]
    rw [e]
    have ho : (((xs.drop 0).take (j - 0)) ++ [(GMember.mk n y (wr (y - 1)))]) ++ ((xs.drop j).take (xs.length - j)) = out := by rw [← hout]; simp
    rw [ho, spec_MembersOk_eq out (by omega)]
    simp only [Option.bind_some]
  rw [fI, fS]
  cases hm : MembersOkM xs
  · exact ⟨(xs, false), by simp, rfl, rfl⟩
  cases ho : MembersOkM out
  · exact ⟨(xs, false), by simp, by cases inR y 1900 2999 <;> rfl, rfl⟩
  · have hy : inR y 1900 2999 = true := by
      simp only [MembersOkM, Bool.and_eq_true, List.all_eq_true, List.mem_range] at ho
      have := ho.1 j (by omega)
      simp only [memP, hmid, Bool.and_eq_true] at this
      exact this.1.1.2
    rw [hy]
    exact ⟨(out, true), by simp only; omega, rfl, rfl⟩

theorem set_self {α : Type} [Rep α] {s : List α} {k : Nat} {x : α} (hk : k < s.length) (h : gx s k = x) : s.set k x = s := by
  apply gx_ext
  · simp
  · intro i hi
    by_cases e : i = k
    · subst e; rw [gx_set hk, h]
    · rw [gx_set_ne e]
theorem map_loop {α : Type} [Rep α] {f : Nat → List α × Bool → Option (Res (List α × Bool) Empty)} (xs : List α) (F : α → α) (p : α → Bool) (h : ∀ k s b, k < xs.length → s.length = xs.length → gx s k = gx xs k → f k (s, b) = some (.next (s.set k (F (gx xs k)), p (gx xs k) || b))) : lpO f xs.length (xs, false) = some (xs.map F, xs.any p) := by
  have hend : (xs.map F, xs.any p) = ((xs.take xs.length).map F ++ xs.drop xs.length, (xs.take xs.length).any p) := by simp
  rw [hend]
  refine lpO_st (fun k => ((xs.take k).map F ++ xs.drop k, (xs.take k).any p)) (by simp) fun k hk => ?_
  have hg : gx ((xs.take k).map F ++ xs.drop k) k = gx xs k := by
    unfold gx List.getD
    rw [List.getElem?_append_right (by simp; omega)]
    simp [Nat.min_eq_left (Nat.le_of_lt hk)]
  rw [h k _ _ hk (by simp; omega) hg]
  congr 3
  · apply gx_ext
    · simp; omega
    · intro i hi
      have hi' : i < xs.length := by simp at hi; omega
      by_cases e : i = k
      · subst e
        rw [gx_set (by simp; omega), List.take_succ_eq_append_getElem hk, ← gx_lt hk, List.map_append]
        rw [gx_append_left (by simp; omega)]
        unfold gx List.getD
        rw [List.getElem?_append_right (by simp; omega)]
        simp [Nat.min_eq_left (Nat.le_of_lt hk)]
      · rw [gx_set_ne e]
        rcases Nat.lt_or_ge i k with hlt | hge
        · rw [gx_append_left (by simp; omega), gx_append_left (by simp; omega), List.take_succ_eq_append_getElem hk, List.map_append, gx_append_left (by simp; omega)]
        · unfold gx List.getD
          rw [List.getElem?_append_right (by simp; omega), List.getElem?_append_right (by simp; omega)]
          simp only [List.length_map, List.length_take, List.getElem?_drop]
          rw [Nat.min_eq_left (by omega), Nat.min_eq_left (by omega), show k + (i - k) = k + 1 + (i - (k + 1)) by omega]
  · rw [List.take_succ_eq_append_getElem hk, List.any_append, ← gx_lt hk, Bool.or_comm]
    simp
def dueM (n : Int) (m : GMember) : GMember := bif m.Number == n then ⟨m.Number, m.Since, wr (m.Paid + 1)⟩ else m
def PayM (xs : List GMember) (n : Int) : List GMember × Bool := bif MembersOkM xs && xs.any (fun m => m.Number == n) && MembersOkM (xs.map (dueM n)) then (xs.map (dueM n), true) else (xs, false)
theorem pay_len (xs : List GMember) (n : Int) : (PayM xs n).1.length = xs.length := by
  unfold PayM
  cases MembersOkM xs && xs.any (fun m => m.Number == n) && MembersOkM (xs.map (dueM n)) <;> simp

theorem spec_PayDues_eq {xs : List GMember} (hl : xs.length ≤ 1048577) (n : Int) : spec_PayDues xs n 1 = some (PayM xs n) := by
  unfold spec_PayDues PayM
  simp only [List.nil_append]
  rw [gd_pos (by simp; omega), gd_pos (by omega), map_loop (f := spec_PayDues_L1 xs n 1) xs (dueM n) (fun m => m.Number == n) (fun k s b hk hs hg => by
    have i1 : inR 1 1 10 = true := rfl
    simp only [spec_PayDues_L1, l01In_eq, i1, Option.bind_some, cond_true, dueM, hg]
    cases hq : (gx xs k).Number == n
    · simp only [cond_false, Option.bind_some, Bool.false_or]
      rw [set_self (by omega) hg]
    · simp only [cond_true]
      rw [gd_pos (by omega)]
      rfl)]
  simp only [Option.bind_some, spec_MembersOk_eq xs (show xs.length ≤ 4611686018427387904 by omega), spec_MembersOk_eq (xs.map (dueM n)) (show (xs.map (dueM n)).length ≤ 4611686018427387904 by simp; omega)]
  cases MembersOkM xs <;> cases xs.any (fun m => m.Number == n) <;> cases MembersOkM (xs.map (dueM n)) <;> rfl

theorem impl_PayDues_eq {xs : List GMember} (hl : xs.length ≤ 1048577) (n : Int) : impl_PayDues xs n 1 = some (PayM xs n) := by
  have i1 : inR 1 1 10 = true := rfl
  unfold impl_PayDues PayM
  simp only [impl_copyMembers_eq (show xs.length ≤ 1048600 by omega), within_eq, i1, Option.bind_some, impl_MembersOk_eq xs (show xs.length ≤ 4611686018427387904 by omega)]
  cases MembersOkM xs
  · rfl
  simp only [Bool.not_true, cond_false, Option.bind_some]
  rw [gd_pos (by omega), map_loop (f := impl_PayDues_L1 n 1) xs (dueM n) (fun m => m.Number == n) (fun k s b hk hs hg => by
    unfold impl_PayDues_L1
    rw [gd_pos (by simp only; omega)]
    simp only [hg, dueM]
    cases hq : (gx xs k).Number == n
    · simp only [cond_false]
      rw [set_self (by omega) hg]
    · rfl)]
  simp only [Option.bind_some, impl_MembersOk_eq (xs.map (dueM n)) (show (xs.map (dueM n)).length ≤ 4611686018427387904 by simp; omega)]
  cases xs.any (fun m => m.Number == n) <;> cases MembersOkM (xs.map (dueM n)) <;> rfl

def BookM (xs : List GBooking) (b : GBooking) : List GBooking × Bool := bif LedgerOkM xs && LedgerOkM (xs ++ [b]) then (xs ++ [b], true) else (xs, false)
theorem book_len (xs : List GBooking) (b : GBooking) : (BookM xs b).1.length ≤ xs.length + 1 := by
  unfold BookM
  cases LedgerOkM xs && LedgerOkM (xs ++ [b]) <;> simp

theorem spec_BookSum_eq {xs : List GBooking} (hl : xs.length ≤ 1048576) (b : GBooking) : spec_BookSum xs b = some (BookM xs b) := by
  unfold spec_BookSum BookM
  simp only [List.nil_append]
  rw [gd_pos (by simp; omega), gd_pos (by omega), spec_LedgerOk_eq xs (by omega), spec_LedgerOk_eq (xs ++ [b]) (by simp; omega)]
  cases LedgerOkM xs <;> cases LedgerOkM (xs ++ [b]) <;> rfl

theorem impl_BookSum_eq {xs : List GBooking} (hl : xs.length ≤ 1048576) (b : GBooking) : impl_BookSum xs b = some (BookM xs b) := by
  unfold impl_BookSum BookM
  simp only [List.nil_append]
  rw [gd_pos (by simp; omega), gd_pos (by omega), impl_LedgerOk_eq xs (by omega), impl_LedgerOk_eq (xs ++ [b]) (by simp; omega)]
  cases LedgerOkM xs <;> cases LedgerOkM (xs ++ [b]) <;> rfl

theorem ex_Admit (g : GGuild) (n : Int) (h : Sm.ok g) : ∃ w, spec_Admit g n = some w ∧ impl_Admit g n = some w ∧ Sm.ok w.1 := by
  have hm := h.1.1
  have hbk : g.Books.length ≤ 1048576 := h.2.2.2.1
  obtain ⟨r, rl, rs, ri⟩ := join_same g.Members n g.Year hm
  have hday : ∃ d : Int, (bif decide ((g.Books.length : Int) > 0) then gd (0 ≤ wr ((g.Books.length : Int) - 1) ∧ wr ((g.Books.length : Int) - 1) < (g.Books.length : Int)) (some (gx g.Books (wr ((g.Books.length : Int) - 1)).toNat).Day) else some 0) = some d := by
    cases hd : decide ((g.Books.length : Int) > 0)
    · exact ⟨0, rfl⟩
    · have hd' : (g.Books.length : Int) > 0 := by simpa using hd
      have e : wr ((g.Books.length : Int) - 1) = (g.Books.length : Int) - 1 := wr_of (by omega) (by omega)
      rw [e]
      exact ⟨_, by rw [cond_true, gd_pos ⟨by omega, by omega⟩]⟩
  obtain ⟨d, hd⟩ := hday
  have pl := pay_len r.1 n
  have bl := book_len g.Books ⟨d, 0, 1, 20⟩
  have hgl := sm_GL h
  have hn : GL (⟨(PayM r.1 n).1, g.Stock, g.Entries, (BookM g.Books ⟨d, 0, 1, 20⟩).1, g.Round, g.Year⟩ : GGuild) := ⟨by simp only; omega, hgl.2.1, hgl.2.2.1, by simp only; omega⟩
  unfold spec_Admit impl_Admit
  simp only [spec_l38Copy_eq h, impl_Guild_copied_eq h, spec_GuildOk_eq g hgl, Option.bind_some, hd, rs, ri, spec_PayDues_eq (show r.1.length ≤ 1048577 by omega), impl_PayDues_eq (show r.1.length ≤ 1048577 by omega), spec_BookSum_eq hbk, impl_BookSum_eq hbk, spec_GuildOk_eq _ hn, impl_becomes_eq h hn]
  generalize (⟨(PayM r.1 n).1, g.Stock, g.Entries, (BookM g.Books ⟨d, 0, 1, 20⟩).1, g.Round, g.Year⟩ : GGuild) = x at hn ⊢
  cases hg : GuildOkM g
  · exact ⟨(g, false), rfl, by cases r.2 <;> cases (PayM r.1 n).2 <;> cases (BookM g.Books ⟨d, 0, 1, 20⟩).2 <;> rfl, h⟩
  cases hr : g.Round == 0
  · have hr' : (g.Round != 0) = true := by simp [bne, hr]
    exact ⟨(g, false), by rw [hr']; rfl, by cases r.2 <;> cases (PayM r.1 n).2 <;> cases (BookM g.Books ⟨d, 0, 1, 20⟩).2 <;> rfl, h⟩
  have hr' : (g.Round != 0) = false := by simp [bne, hr]
  rw [hr']
  cases r.2
  · exact ⟨(g, false), rfl, rfl, h⟩
  cases (PayM r.1 n).2
  · exact ⟨(g, false), rfl, rfl, h⟩
  cases (BookM g.Books ⟨d, 0, 1, 20⟩).2
  · exact ⟨(g, false), rfl, rfl, h⟩
  cases hx : GuildOkM x
  · exact ⟨(g, false), rfl, rfl, h⟩
  · exact ⟨(x, true), rfl, rfl, guildOk_sm hx⟩

theorem same_Admit (g : GGuild) (n : Int) (h : Sm.ok g) (_ : Fit.ok n) : ∃ w, spec_Admit g n = some w ∧ impl_Admit g n = some w ∧ Sm.ok w.1 := ex_Admit g n h

theorem same_SampleGuild : ∃ w, spec_SampleGuild = some w ∧ impl_SampleGuild = some w ∧ Sm.ok w := by
  obtain ⟨w0, s0, i0, m0⟩ := same_NewGuild 2020 ⟨by decide, by decide⟩
  obtain ⟨w1, s1, i1, m1⟩ := same_Admit w0.1 1 m0 ⟨by decide, by decide⟩
  obtain ⟨w2, s2, i2, m2⟩ := same_Admit w1.1 2 m1 ⟨by decide, by decide⟩
  obtain ⟨w3, s3, i3, m3⟩ := same_Admit w2.1 3 m2 ⟨by decide, by decide⟩
  refine ⟨w3.1, ?_, ?_, m3⟩
  · unfold spec_SampleGuild
    rw [s0]
    simp only [Option.bind_some]
    rw [lpO_st (f := spec_SampleGuild_L1) (s0 := (w0.1.Members, w0.1.Stock, w0.1.Entries, w0.1.Books, w0.1.Round, w0.1.Year)) (fun k => (fun g : GGuild => (g.Members, g.Stock, g.Entries, g.Books, g.Round, g.Year)) (if k = 0 then w0.1 else if k = 1 then w1.1 else if k = 2 then w2.1 else w3.1)) rfl (fun k hk => by
      have hk3 : k = 0 ∨ k = 1 ∨ k = 2 := by omega
      rcases hk3 with rfl | rfl | rfl
      · exact (congrArg (fun o : Option (GGuild × Bool) => o.bind fun v2 => some (Res.next (v2.1.Members, v2.1.Stock, v2.1.Entries, v2.1.Books, v2.1.Round, v2.1.Year))) s1)
      · exact (congrArg (fun o : Option (GGuild × Bool) => o.bind fun v2 => some (Res.next (v2.1.Members, v2.1.Stock, v2.1.Entries, v2.1.Books, v2.1.Round, v2.1.Year))) s2)
      · exact (congrArg (fun o : Option (GGuild × Bool) => o.bind fun v2 => some (Res.next (v2.1.Members, v2.1.Stock, v2.1.Entries, v2.1.Books, v2.1.Round, v2.1.Year))) s3))]
    rfl
  · unfold impl_SampleGuild
    rw [i0]
    simp only [Option.bind_some]
    rw [lpO_st (f := impl_SampleGuild_L1) (s0 := (w0.1.Members, w0.1.Stock, w0.1.Entries, w0.1.Books, w0.1.Round, w0.1.Year)) (fun k => (fun g : GGuild => (g.Members, g.Stock, g.Entries, g.Books, g.Round, g.Year)) (if k = 0 then w0.1 else if k = 1 then w1.1 else if k = 2 then w2.1 else w3.1)) rfl (fun k hk => by
      have hk3 : k = 0 ∨ k = 1 ∨ k = 2 := by omega
      rcases hk3 with rfl | rfl | rfl
      · exact (congrArg (fun o : Option (GGuild × Bool) => o.bind fun v2 => some (Res.next (v2.1.Members, v2.1.Stock, v2.1.Entries, v2.1.Books, v2.1.Round, v2.1.Year))) i1)
      · exact (congrArg (fun o : Option (GGuild × Bool) => o.bind fun v2 => some (Res.next (v2.1.Members, v2.1.Stock, v2.1.Entries, v2.1.Books, v2.1.Round, v2.1.Year))) i2)
      · exact (congrArg (fun o : Option (GGuild × Bool) => o.bind fun v2 => some (Res.next (v2.1.Members, v2.1.Stock, v2.1.Entries, v2.1.Books, v2.1.Round, v2.1.Year))) i3))]
    rfl

/-- The colors that an index picks. -/
def pkM : List Nat → Nat → List Int → List Int
  | [], _, _ => []
  | r :: rs, i, left => gx left (i / r) :: pkM rs (i % r) (left.take (i / r) ++ left.drop (i / r + 1))
theorem pk1_ok : ∀ i, i < 6 → (pkM [1] i six).Nodup ∧ ∀ x ∈ pkM [1] i six, 0 ≤ x ∧ x ≤ 5 := by decide +kernel
theorem pk2_ok : ∀ i, i < 30 → (pkM [5, 1] i six).Nodup ∧ ∀ x ∈ pkM [5, 1] i six, 0 ≤ x ∧ x ≤ 5 := by decide +kernel
theorem pk3_ok : ∀ i, i < 120 → (pkM [20, 4, 1] i six).Nodup ∧ ∀ x ∈ pkM [20, 4, 1] i six, 0 ≤ x ∧ x ≤ 5 := by decide +kernel
def inv2 (a b : Nat) : Nat := 5 * a + (b - bif decide (a < b) then 1 else 0)
def inv3 (a b c : Nat) : Nat := 20 * a + 4 * (b - bif decide (a < b) then 1 else 0) + (c - (bif decide (a < c) then 1 else 0) - (bif decide (b < c) then 1 else 0))
theorem pk1_inv : ∀ a, a < 6 → pkM [1] a six = [(a : Int)] := by decide +kernel
theorem pk2_inv : ∀ a, a < 6 → ∀ b, b < 6 → a ≠ b → inv2 a b < 30 ∧ pkM [5, 1] (inv2 a b) six = [(a : Int), (b : Int)] := by decide +kernel
def chk3 : Bool := (List.range 6).all fun a => (List.range 6).all fun b => (List.range 6).all fun c => (a == b || a == c || b == c) || (decide (inv3 a b c < 120) && (pkM [20, 4, 1] (inv3 a b c) six == [(a : Int), (b : Int), (c : Int)]))
theorem chk3_ok : chk3 = true := by decide +kernel
theorem pk3_inv (a : Nat) (ha : a < 6) (b : Nat) (hb : b < 6) (c : Nat) (hc : c < 6) (hab : a ≠ b) (hac : a ≠ c) (hbc : b ≠ c) : inv3 a b c < 120 ∧ pkM [20, 4, 1] (inv3 a b c) six = [(a : Int), (b : Int), (c : Int)] := by
  have h := chk3_ok
  unfold chk3 at h
  rw [List.all_eq_true] at h
  have h := h a (by simpa using ha)
  rw [List.all_eq_true] at h
  have h := h b (by simpa using hb)
  rw [List.all_eq_true] at h
  have h := h c (by simpa using hc)
  have e1 : (a == b) = false := by simpa using hab
  have e2 : (a == c) = false := by simpa using hac
  have e3 : (b == c) = false := by simpa using hbc
  rw [e1, e2, e3] at h
  simp only [Bool.or_self, Bool.false_or, Bool.and_eq_true, decide_eq_true_iff, beq_iff_eq] at h
  exact h
def asgM : List Int → List Int → List Int → List Int
  | u :: L, v :: p, acc => asgM L p (acc.set u.toNat v)
  | _, _, acc => acc
theorem asg_len : ∀ (L p acc : List Int), (asgM L p acc).length = acc.length
  | [], _, _ => by simp [asgM]
  | _ :: _, [], _ => by simp [asgM]
  | u :: L, v :: p, acc => by rw [asgM, asg_len L p]; simp
theorem asg_other : ∀ (L p acc : List Int) {x : Nat}, (∀ u ∈ L, u.toNat ≠ x) → gx (asgM L p acc) x = gx acc x
  | [], _, _, _, _ => by simp [asgM]
  | _ :: _, [], _, _, _ => by simp [asgM]
  | u :: L, v :: p, acc, x, h => by
    rw [asgM, asg_other L p _ fun w hw => h w (by simp [hw]), gx_set_ne (Ne.symm (h u (by simp)))]
theorem asg_gx : ∀ (L p acc : List Int), acc.length = 6 → L.Nodup → (∀ u ∈ L, 0 ≤ u ∧ u ≤ 5) → ∀ q ∈ L.zip p, gx (asgM L p acc) q.1.toNat = q.2
  | [], _, _, _, _, _, q, hq => by simp at hq
  | _ :: _, [], _, _, _, _, q, hq => by simp at hq
  | u :: L, v :: p, acc, hl, hn, hr, q, hq => by
    rw [List.nodup_cons] at hn
    rw [List.zip_cons_cons, List.mem_cons] at hq
    have hu := hr u (by simp)
    rw [asgM]
    rcases hq with rfl | hq
    · rw [asg_other L p _ fun w hw e => hn.1 (by
        have := hr w (by simp [hw])
        have : w = u := by simp only at e; omega
        rw [← this]; exact hw), gx_set (by rw [hl]; omega)]
    · exact asg_gx L p _ (by simpa using hl) hn.2 (fun w hw => hr w (by simp [hw])) q hq
theorem asg_in : ∀ (L p acc : List Int), (∀ x ∈ acc, 0 ≤ x ∧ x ≤ 5) → (∀ x ∈ p, 0 ≤ x ∧ x ≤ 5) → ∀ x ∈ asgM L p acc, 0 ≤ x ∧ x ≤ 5
  | [], _, _, h, _, x, hx => h x (by simpa [asgM] using hx)
  | _ :: _, [], _, h, _, x, hx => h x (by simpa [asgM] using hx)
  | u :: L, v :: p, acc, h, hp, x, hx => by
    rw [asgM] at hx
    refine asg_in L p _ (fun y hy => ?_) (fun y hy => hp y (by simp [hy])) x hx
    rcases List.mem_or_eq_of_mem_set hy with hm | rfl
    · exact h y hm
    · exact hp _ (by simp)
def zeros6 : List Int := List.replicate 6 0
def wayM (L p : List Int) : List Int := asgM L p zeros6
theorem way_ok {L p : List Int} (hp : ∀ x ∈ p, 0 ≤ x ∧ x ≤ 5) : ListOkM (wayM L p) = true :=
  listOk_of (by unfold wayM; rw [asg_len]; rfl) (asg_in L p _ (by intro x hx; simp [zeros6] at hx; omega) hp)
def ratesM : Nat → List Nat
  | 1 => [1]
  | 2 => [5, 1]
  | 3 => [20, 4, 1]
  | _ => []
def chsM : Nat → Nat
  | 1 => 6
  | 2 => 30
  | 3 => 120
  | _ => 1
theorem pk_ok {n i : Nat} (h1 : 1 ≤ n) (h3 : n ≤ 3) (hi : i < chsM n) : (pkM (ratesM n) i six).length = n ∧ (pkM (ratesM n) i six).Nodup ∧ ∀ x ∈ pkM (ratesM n) i six, 0 ≤ x ∧ x ≤ 5 := by
  have hn : n = 1 ∨ n = 2 ∨ n = 3 := by omega
  rcases hn with rfl | rfl | rfl
  · exact ⟨rfl, pk1_ok i hi⟩
  · exact ⟨rfl, pk2_ok i hi⟩
  · exact ⟨rfl, pk3_ok i hi⟩
theorem pk_surj {p : List Int} (h1 : 1 ≤ p.length) (h3 : p.length ≤ 3) (hr : ∀ x ∈ p, 0 ≤ x ∧ x ≤ 5) (hn : p.Nodup) : ∃ i, i < chsM p.length ∧ pkM (ratesM p.length) i six = p := by
  match p, h1, h3, hr, hn with
  | [x], _, _, hr, _ =>
    obtain ⟨a, rfl⟩ := Int.eq_ofNat_of_zero_le (hr x (by simp)).1
    have := (hr _ (List.mem_singleton.2 rfl)).2
    exact ⟨a, by simp only [chsM, List.length_cons, List.length_nil]; omega, pk1_inv a (by omega)⟩
  | [x, y], _, _, hr, hn =>
    have hx := hr x (by simp)
    have hy := hr y (by simp)
    obtain ⟨a, rfl⟩ := Int.eq_ofNat_of_zero_le hx.1
    obtain ⟨b, rfl⟩ := Int.eq_ofNat_of_zero_le hy.1
    have hab : a ≠ b := fun e => by subst e; simp at hn
    obtain ⟨g1, g2⟩ := pk2_inv a (by omega) b (by omega) hab
    exact ⟨inv2 a b, g1, g2⟩
  | [x, y, z], _, _, hr, hn =>
    have hx := hr x (by simp)
    have hy := hr y (by simp)
    have hz := hr z (by simp)
    obtain ⟨a, rfl⟩ := Int.eq_ofNat_of_zero_le hx.1
    obtain ⟨b, rfl⟩ := Int.eq_ofNat_of_zero_le hy.1
    obtain ⟨c, rfl⟩ := Int.eq_ofNat_of_zero_le hz.1
    have hab : a ≠ b := fun e => by subst e; simp at hn
    have hac : a ≠ c := fun e => by subst e; simp at hn
    have hbc : b ≠ c := fun e => by subst e; simp at hn
    obtain ⟨g1, g2⟩ := pk3_inv a (by omega) b (by omega) c (by omega) hab hac hbc
    exact ⟨inv3 a b c, g1, g2⟩
  | _ :: _ :: _ :: _ :: _, _, h3, _, _ => simp at h3

/-- How many are not used below n. -/
def freeN (used : List Bool) : Nat → Nat
  | 0 => 0
  | n + 1 => freeN used n + (bif gx used n then 0 else 1)
theorem freeN_mono (used : List Bool) {a : Nat} : ∀ {b : Nat}, a ≤ b → freeN used a ≤ freeN used b
  | 0, h => by
    have : a = 0 := by omega
    rw [this]; exact Nat.le_refl _
  | b + 1, h => by
    rcases Nat.lt_or_ge a (b + 1) with h1 | h1
    · exact Nat.le_trans (freeN_mono used (b := b) (by omega)) (by rw [freeN]; omega)
    · have : a = b + 1 := by omega
      rw [this]; exact Nat.le_refl _
theorem freeN_le (used : List Bool) : ∀ n, freeN used n ≤ n
  | 0 => Nat.le_refl _
  | n + 1 => by
    have := freeN_le used n
    rw [freeN]
    cases gx used n <;> simp <;> omega

def nof : List Bool := List.replicate 6 false
/-- The picks by marks are the picks by cutting. -/
def chkB1 : Bool := (List.range 6).all fun i => freeN nof i == i && gx nof i == false && pkM [1] i six == [(i : Int)]
def secB (a b : Nat) : Nat := bif decide (b < a) then b else b + 1
def chkB2 : Bool := (List.range 30).all fun i => freeN nof (i / 5) == i / 5 && gx nof (i / 5) == false && freeN (nof.set (i / 5) true) (secB (i / 5) (i % 5)) == i % 5 && gx (nof.set (i / 5) true) (secB (i / 5) (i % 5)) == false && pkM [5, 1] i six == [((i / 5 : Nat) : Int), ((secB (i / 5) (i % 5) : Nat) : Int)] && decide (secB (i / 5) (i % 5) < 6)
def u3 (i : Nat) : List Bool := nof.set (i / 20) true
def s3 (i : Nat) : Nat := secB (i / 20) (i % 20 / 4)
def v3 (i : Nat) : List Bool := (u3 i).set (s3 i) true
def t3 (i : Nat) : Nat := (pkM [20, 4, 1] i six)[2]!.toNat
def chkB3 : Bool := (List.range 120).all fun i => freeN nof (i / 20) == i / 20 && gx nof (i / 20) == false && freeN (u3 i) (s3 i) == i % 20 / 4 && gx (u3 i) (s3 i) == false && freeN (v3 i) (t3 i) == i % 20 % 4 && gx (v3 i) (t3 i) == false && pkM [20, 4, 1] i six == [((i / 20 : Nat) : Int), ((s3 i : Nat) : Int), ((t3 i : Nat) : Int)] && decide (s3 i < 6) && decide (t3 i < 6)
theorem chkB1_ok : chkB1 = true := by decide +kernel
theorem chkB2_ok : chkB2 = true := by decide +kernel
theorem chkB3_ok : chkB3 = true := by decide +kernel

theorem p_FnExactSampleGuild  : laws_FnExactSampleGuild  = some true := by
  unfold laws_FnExactSampleGuild
  obtain ⟨w, hs, hi, q0⟩ := same_SampleGuild 
  obtain ⟨bw0_0, bw0_1, bw0_2, bw0_3, kw0, mw0, xw0, lw0, hw0⟩ := mh_Guild w 1 q0 (by omega) (by omega)
  have dw0 : ¬ kw0 < 0 := by omega
  simp [hs, hi, eq_Guild w q0, mw0, xw0, dw0]
end Go.Proofs.Ytnfdinafbfggeab
