/-
  The plain laws: what the functions compute, in Lean alone.
-/
import Derived.Test.YtgimnmlcdidcdahPure
namespace Go.Proofs.Ytgimnmlcdidcdah
open Go

theorem gd_pos {α : Type} {p : Prop} [Decidable p] (h : p) (t : Option α) : gd p t = t := by simp [gd, h]
@[simp] theorem sq_inl {J C : Type} (j : J) (k : J → Option C) : sq (some (.inl j)) k = k j := rfl
@[simp] theorem sq_inr {J C : Type} (c : C) (k : J → Option C) : sq (some (.inr c)) k = some c := rfl

section
variable {S C : Type} {f : Nat → S → Option (Res S C)} {N : Nat}
theorem forO_at (st : Nat → S) (h : ∀ k, k < N → f k (st k) = some (.next (st (k + 1)))) : ∀ m k, k + m = N → forO f m k (st k) = some (.inl (st N))
  | 0, k, e => by simp at e; subst e; rfl
  | m + 1, k, e => by
    rw [forO, h k (by omega)]
    exact forO_at st h m (k + 1) (by omega)
theorem forO_st (st : Nat → S) {s0 : S} (h0 : s0 = st 0) (h : ∀ k, k < N → f k (st k) = some (.next (st (k + 1)))) : forO f N 0 s0 = some (.inl (st N)) := by
  rw [h0]; exact forO_at st h N 0 (by omega)
theorem forO_upto (st : Nat → S) (K : Nat) (hK : K < N) (h : ∀ k, k < K → f k (st k) = some (.next (st (k + 1)))) : ∀ m k, k + m = N → k ≤ K → forO f m k (st k) = forO f (N - K) K (st K)
  | 0, k, e, hk => by omega
  | m + 1, k, e, hk => by
    rcases Nat.lt_or_ge k K with hlt | hge
    · rw [forO, h k hlt]
      exact forO_upto st K hK h m (k + 1) (by omega) (by omega)
    · have : k = K := by omega
      subst this
      rw [show N - k = m + 1 by omega]
theorem forO_retAt (st : Nat → S) {s0 : S} (h0 : s0 = st 0) (K : Nat) (hK : K < N) (h : ∀ k, k < K → f k (st k) = some (.next (st (k + 1)))) {c : C} (hr : f K (st K) = some (.ret c)) : forO f N 0 s0 = some (.inr c) := by
  rw [h0, forO_upto st K hK h N 0 (by omega) (by omega), show N - K = (N - K - 1) + 1 by omega, forO, hr]; rfl
theorem forO_brkAt (st : Nat → S) {s0 : S} (h0 : s0 = st 0) (K : Nat) (hK : K < N) (h : ∀ k, k < K → f k (st k) = some (.next (st (k + 1)))) {s' : S} (hr : f K (st K) = some (.brk s')) : forO f N 0 s0 = some (.inl s') := by
  rw [h0, forO_upto st K hK h N 0 (by omega) (by omega), show N - K = (N - K - 1) + 1 by omega, forO, hr]; rfl
/-- A loop that looks for the first place where p fails. -/
theorem forO_all (p : Nat → Bool) {s : S} {c : C} (h : ∀ k, k < N → f k s = some (bif p k then .next s else .ret c)) : forO f N 0 s = some (bif (List.range N).all p then .inl s else .inr c) := by
  cases ha : (List.range N).all p with
  | true =>
    rw [List.all_eq_true] at ha
    exact forO_st (fun _ => s) rfl fun k hk => by rw [h k hk, ha k (by simpa using hk)]; rfl
  | false =>
    have : ∃ k, k < N ∧ p k = false := by
      rw [List.all_eq_false] at ha
      obtain ⟨k, hk, hp⟩ := ha
      exact ⟨k, by simpa using hk, by simpa using hp⟩
    have hmin : ∃ k, k < N ∧ p k = false ∧ ∀ j, j < k → p j = true := by
      obtain ⟨k, hk, hp⟩ := this
      induction k using Nat.strongRecOn with
      | _ k ih =>
        by_cases hx : ∃ j, j < k ∧ p j = false
        · obtain ⟨j, hj, hpj⟩ := hx
          exact ih j hj (by omega) hpj
        · refine ⟨k, hk, hp, fun j hj => ?_⟩
          cases hpj : p j with
          | true => rfl
          | false => exact absurd ⟨j, hj, hpj⟩ hx
    obtain ⟨k, hk, hp, hall⟩ := hmin
    exact forO_retAt (fun _ => s) rfl k hk (fun j hj => by rw [h j (by omega), hall j hj]; rfl) (by rw [h k hk, hp]; rfl)
/-- A loop that returns at the first place where p holds. -/
theorem forO_find (p : Nat → Bool) {s : S} (c : Nat → C) (h : ∀ k, k < N → f k s = some (bif p k then .ret (c k) else .next s)) : forO f N 0 s = some (match (List.range N).find? p with | some k => .inr (c k) | none => .inl s) := by
  cases ha : (List.range N).find? p with
  | none =>
    rw [List.find?_eq_none] at ha
    exact forO_st (fun _ => s) rfl fun k hk => by
      rw [h k hk]
      have := ha k (by simpa using hk)
      simp at this
      rw [this]; rfl
  | some K =>
    have hp := List.find?_some ha
    have hK : K < N := by simpa using List.mem_of_find?_eq_some ha
    refine forO_retAt (fun _ => s) rfl K hK (fun j hj => ?_) (by rw [h K hK, hp]; rfl)
    rw [h j (by omega)]
    have : p j = false := by
      rw [List.find?_range_eq_some] at ha
      simpa using ha.2.2 j hj
    rw [this]; rfl
end
section
variable {S : Type} {f : Nat → S → Option (Res S Empty)} {N : Nat}
theorem lpO_st (st : Nat → S) {s0 : S} (h0 : s0 = st 0) (h : ∀ k, k < N → f k (st k) = some (.next (st (k + 1)))) : lpO f N s0 = some (st N) := by
  unfold lpO; rw [forO_st st h0 h]; rfl
/-- A state that each round turns by g. -/
def fold {S : Type} (g : Nat → S → S) (s0 : S) : Nat → S
  | 0 => s0
  | n + 1 => g n (fold g s0 n)
theorem lpO_fold (g : Nat → S → S) {s0 : S} (h : ∀ k, k < N → f k (fold g s0 k) = some (.next (g k (fold g s0 k)))) : lpO f N s0 = some (fold g s0 N) :=
  lpO_st (fold g s0) rfl h
end
section
variable {α : Type} {f : Nat → List α → Option (Res (List α) Empty)} {N : Nat}
theorem lpO_app (F : Nat → α) {xs : List α} (h : ∀ k s, k < N → s.length = xs.length + k → f k s = some (.next (s ++ [F k]))) : lpO f N xs = some (xs ++ (List.range N).map F) :=
  lpO_st (fun k => xs ++ (List.range k).map F) (by simp) fun k hk => by
    rw [h k _ hk (by simp)]
    simp [List.range_succ]
theorem lpO_filter (p : Nat → Bool) (F : Nat → α) {xs : List α} (h : ∀ k s, k < N → s.length ≤ xs.length + k → f k s = some (.next (bif p k then s ++ [F k] else s))) : lpO f N xs = some (xs ++ ((List.range N).filter p).map F) :=
  lpO_st (fun k => xs ++ ((List.range k).filter p).map F) (by simp) fun k hk => by
    rw [h k _ hk (by
      have := List.length_filter_le p (List.range k)
      simp at this ⊢; omega)]
    cases hp : p k <;> simp [List.range_succ, List.filter_append, hp]
theorem lpO_cat (F : Nat → List α) {xs : List α} (h : ∀ k s, k < N → s = xs ++ (List.range k).flatMap F → f k s = some (.next (s ++ F k))) : lpO f N xs = some (xs ++ (List.range N).flatMap F) :=
  lpO_st (fun k => xs ++ (List.range k).flatMap F) (by simp) fun k hk => by
    rw [h k _ hk rfl]
    simp [List.range_succ]
end
theorem map_gx {α β : Type} [Rep α] (F : α → β) (xs : List α) : (List.range xs.length).map (fun k => F (gx xs k)) = xs.map F := by
  apply List.ext_getElem
  · simp
  · intro i h1 h2
    simp at h1
    simp [gx, List.getD, h1]
theorem all_gx {α : Type} [Rep α] (F : α → Bool) (xs : List α) : (List.range xs.length).all (fun k => F (gx xs k)) = xs.all F := by
  have := map_gx F xs
  calc (List.range xs.length).all (fun k => F (gx xs k)) = ((List.range xs.length).map (fun k => F (gx xs k))).all id := by simp [List.all_map]
    _ = xs.all F := by rw [this]; simp [List.all_map]
theorem gx_lt {α : Type} [Rep α] {xs : List α} {k : Nat} (h : k < xs.length) : gx xs k = xs[k] := by simp [gx, List.getD, h]
theorem gx_mem {α : Type} [Rep α] {xs : List α} {k : Nat} (h : k < xs.length) : gx xs k ∈ xs := by rw [gx_lt h]; exact List.getElem_mem h
theorem wr_of {n : Int} (h1 : -4611686018427387904 ≤ n) (h2 : n ≤ 4611686018427387904) : wr n = n := wr_id (by omega) (by omega)

/-- What is small enough for all bounds. -/
class Sm (α : Type) where
  ok : α → Prop
instance : Sm Int := ⟨fun _ => True⟩
instance : Sm Bool := ⟨fun _ => True⟩
instance : Sm Str := ⟨fun s => s.b.length ≤ 1048576⟩
instance (α : Type) [Sm α] : Sm (List α) := ⟨fun xs => xs.length ≤ 1048576 ∧ ∀ x ∈ xs, Sm.ok x⟩
theorem sm_len {α : Type} [Sm α] {xs : List α} (h : Sm.ok xs) : xs.length ≤ 1048576 := h.1
theorem sm_gx {α : Type} [Sm α] [Rep α] {xs : List α} (h : Sm.ok xs) {k : Nat} (hk : k < xs.length) : Sm.ok (gx xs k) := h.2 _ (gx_mem hk)
theorem sm_ints {xs : List Int} (h : xs.length ≤ 1048576) : Sm.ok xs := ⟨h, fun _ _ => trivial⟩

theorem gx_set_ne {α : Type} [Rep α] {xs : List α} {k j : Nat} {e : α} (h : j ≠ k) : gx (xs.set k e) j = gx xs j := by
  simp [gx, List.getD, List.getElem?_set_ne (Ne.symm h)]
theorem gx_ext {α : Type} [Rep α] {xs ys : List α} (hl : xs.length = ys.length) (h : ∀ k, k < xs.length → gx xs k = gx ys k) : xs = ys := by
  apply List.ext_getElem hl
  intro i h1 h2
  have := h i h1
  rwa [gx_lt h1, gx_lt h2] at this

theorem to_list {α : Type} [Rep α] {f : Nat → List α → Option (Res (List α) Empty)} (a : List α) (z : α) (h : ∀ k s, k < a.length → s.length = a.length → f k s = some (.next (s.set k (gx a k)))) : lpO f a.length (List.replicate a.length z) = some a := by
  have := lpO_st (f := f) (N := a.length) (fun k => a.take k ++ List.replicate (a.length - k) z) (s0 := List.replicate a.length z) (by simp) fun k hk => by
    rw [h k _ hk (by simp; omega)]
    congr 2
    apply List.ext_getElem
    · simp; omega
    · intro i h1 h2
      rw [List.getElem_set]
      split
      · rename_i e; subst e
        rw [gx_lt hk, List.getElem_append_left (by simp; omega)]
        simp
      · rename_i hne
        rcases Nat.lt_or_ge i k with hi | hi
        · rw [List.getElem_append_left (by simp; omega), List.getElem_append_left (by simp; omega)]; simp
        · rw [List.getElem_append_right (by simp; omega), List.getElem_append_right (by simp; omega)]; simp
  simpa using this
theorem all_next {C : Type} {f : Nat → Unit → Option (Res Unit C)} {N : Nat} (h : ∀ k, k < N → f k () = some (.next ())) : forO f N 0 () = some (.inl ()) := forO_st (fun _ => ()) rfl h

theorem mark_list {α : Type} [Rep α] {f : Nat → List α × Int → Option (Res (List α × Int) Empty)} (a : List α) (j0 B M : Int) (R : α → Int → Int → Prop) (hB : 0 ≤ B) (hM : j0 + B * a.length ≤ M)
    (h : ∀ k s j, k < a.length → s.length = a.length → gx s k = gx a k → j0 ≤ j → j + B ≤ M → ∃ e j', f k (s, j) = some (.next (s.set k e, j')) ∧ j ≤ j' ∧ j' ≤ j + B ∧ R e j j') :
    ∃ (a' : List α) (js : Nat → Int), lpO f a.length (a, j0) = some (a', js a.length) ∧ a'.length = a.length ∧ js 0 = j0 ∧ j0 ≤ js a.length ∧ js a.length ≤ j0 + B * a.length ∧ ∀ k, k < a.length → R (gx a' k) (js k) (js (k + 1)) ∧ j0 ≤ js k := by
  have key : ∀ m k (s : List α) (j : Int), k + m = a.length → s.length = a.length → (∀ i, k ≤ i → i < a.length → gx s i = gx a i) → j0 ≤ j → j ≤ j0 + B * k →
      ∃ (a' : List α) (js : Nat → Int), forO f m k (s, j) = some (.inl (a', js a.length)) ∧ a'.length = a.length ∧ js k = j ∧ j ≤ js a.length ∧ js a.length ≤ j0 + B * a.length ∧ (∀ i, i < k → gx a' i = gx s i) ∧ ∀ i, k ≤ i → i < a.length → R (gx a' i) (js i) (js (i + 1)) ∧ j ≤ js i := by
    intro m
    induction m with
    | zero =>
      intro k s j hk hl _ h0 h1
      have e : k = a.length := by omega
      subst e
      exact ⟨s, fun _ => j, rfl, hl, rfl, Int.le_refl _, h1, fun _ _ => rfl, fun i h1 h2 => by omega⟩
    | succ m ih =>
      intro k s j hk hl hs h0 h1
      have hle : B * (k : Int) + B ≤ B * a.length := by
        have : (k : Int) + 1 ≤ a.length := by omega
        have := Int.mul_le_mul_of_nonneg_left this hB
        rw [Int.mul_add, Int.mul_one] at this
        exact this
      obtain ⟨e, j', hf, g1, g2, hR⟩ := h k s j (by omega) hl (hs k (Nat.le_refl _) (by omega)) h0 (by omega)
      obtain ⟨a', js, i1, i2, i3, i3', i4, i5, i6⟩ := ih (k + 1) (s.set k e) j' (by omega) (by simpa using hl) (fun i h1 h2 => by rw [gx_set_ne (by omega)]; exact hs i (by omega) h2) (by omega) (by
        have e1 : B * ((k + 1 : Nat) : Int) = B * k + B := by rw [Int.natCast_add, Int.mul_add]; simp
        rw [e1]; omega)
      refine ⟨a', fun i => if i = k then j else js i, ?_, i2, by simp, ?_, ?_, fun i hi => ?_, fun i h1 h2 => ?_⟩
      · rw [forO, hf]
        have hne : a.length ≠ k := by omega
        simp only [Option.bind_some, hne, if_false]
        exact i1
      · have hne : a.length ≠ k := by omega
        simp only [hne, if_false]
        omega
      · have hne : a.length ≠ k := by omega
        simp only [hne, if_false]
        exact i4
      · rw [i5 i (by omega), gx_set_ne (by omega)]
      · rcases Nat.eq_or_lt_of_le h1 with e1 | e1
        · subst e1
          have hne : k + 1 ≠ k := by omega
          simp only [if_true, hne, if_false]
          rw [i3, i5 k (by omega), gx_set (by omega)]
          exact ⟨hR, Int.le_refl _⟩
        · have n1 : i ≠ k := by omega
          have n2 : i + 1 ≠ k := by omega
          simp only [n1, n2, if_false]
          obtain ⟨q1, q2⟩ := i6 i (by omega) h2
          exact ⟨q1, by omega⟩
  obtain ⟨a', js, i1, i2, i3, i3', i4, _, i6⟩ := key a.length 0 a j0 (by omega) rfl (fun _ _ _ => rfl) (Int.le_refl _) (by simp)
  refine ⟨a', js, ?_, i2, i3, i3', i4, fun k hk => i6 k (Nat.zero_le _) hk⟩
  unfold lpO
  rw [i1]; rfl
theorem held_list {C : Type} {f : Nat → Int → Option (Res Int C)} {N : Nat} (js : Nat → Int) {j0 : Int} (h0 : js 0 = j0) (h : ∀ k, k < N → f k (js k) = some (.next (js (k + 1)))) : forO f N 0 j0 = some (.inl (js N)) := forO_st js h0.symm h
/-- Sizes: each round takes off what an element has, or ends. -/
theorem size_list {f : Nat → Int → Option (Res Int Int)} {N : Nat} (P : Nat → Prop) (l : Int) (h : ∀ k j, k < N → 0 ≤ j → j ≤ l → (f k j = some (.ret (-1))) ∨ ∃ j', f k j = some (.next j') ∧ 0 ≤ j' ∧ j' ≤ j ∧ P k) (hl : 0 ≤ l) :
    forO f N 0 l = some (.inr (-1)) ∨ ∃ j, forO f N 0 l = some (.inl j) ∧ 0 ≤ j ∧ j ≤ l ∧ ∀ k, k < N → P k := by
  have key : ∀ m k j, k + m = N → 0 ≤ j → j ≤ l → (∀ i, i < k → P i) → forO f m k j = some (.inr (-1)) ∨ ∃ j', forO f m k j = some (.inl j') ∧ 0 ≤ j' ∧ j' ≤ l ∧ ∀ i, i < N → P i := by
    intro m
    induction m with
    | zero => intro k j hk h0 h1 hP; exact .inr ⟨j, rfl, h0, h1, fun i hi => hP i (by omega)⟩
    | succ m ih =>
      intro k j hk h0 h1 hP
      rcases h k j (by omega) h0 h1 with hr | ⟨j', hr, g1, g2, g3⟩
      · left; rw [forO, hr]; rfl
      · rw [forO, hr]
        exact ih (k + 1) j' (by omega) g1 (by omega) (fun i hi => by
          rcases Nat.lt_or_ge i k with h | h
          · exact hP i h
          · have : i = k := by omega
            subst this; exact g3)
  exact key N 0 l (by omega) hl (Int.le_refl _) (fun i hi => by omega)
theorem all_of_gx {α : Type} [Rep α] {xs : List α} {P : α → Prop} (h : ∀ k, k < xs.length → P (gx xs k)) : ∀ x ∈ xs, P x := fun x hx => by
  obtain ⟨i, hi, rfl⟩ := List.getElem_of_mem hx
  have := h i hi
  rwa [gx_lt hi] at this

-- type GCell
instance : Sm GCell := ⟨fun _ => True⟩

@[simp] theorem eq_Cell (a : GCell) : laws_eqCell a a = some true := by simp [laws_eqCell]

theorem eq_CellS (a : List GCell) (hs : Sm.ok a) : laws_eqCellS a a = some true := by
  have hl := sm_len hs
  unfold laws_eqCellS
  simp only [bne_self_eq_false, cond_false]
  rw [gd_pos (by omega), all_next (f := laws_eqCellS_L1 a a) (fun k hk => by
    simp only [laws_eqCellS_L1, eq_Cell (gx a k), Option.bind_some]
    rw [gd_pos hk]; rfl)]
  rfl

theorem mh_CellS (a : List GCell) (j : Int) (hs : Sm.ok a) (h0 : 0 ≤ j) (h1 : j ≤ 1152921504606846976) : ∃ a' j', laws_markCellS a j = some (j', a') ∧ laws_heldCellS a' j = some j' ∧ a'.length = a.length ∧ j ≤ j' ∧ j' ≤ j + 3145728 := by
  have hl := sm_len hs
  have hst : ∀ k s i, k < a.length → s.length = a.length → gx s k = gx a k → j ≤ i → i + 3 ≤ j + 3145728 → ∃ e j', laws_markCellS_L1 k (s, i) = some (.next (s.set k e, j')) ∧ i ≤ j' ∧ j' ≤ i + 3 ∧ (fun e p q => ∀ l n, gx l n = e → laws_heldCellS_L1 l n p = some (.next q)) e i j' := fun k s i hk hl' hg g0 g1 => by
    have e0 : wr (i + 1) = i + 1 := wr_of (by omega) (by omega)
    have e1 : wr (i + 1 + 1) = i + 1 + 1 := wr_of (by omega) (by omega)
    have e2 : wr (i + 1 + 1 + 1) = i + 1 + 1 + 1 := wr_of (by omega) (by omega)
    exact ⟨(GCell.mk (i) (i + 1) (i + 1 + 1)), i + 1 + 1 + 1, by simp only [laws_markCellS_L1, hg, e0, e1, e2, Option.bind_some], by omega, by omega, fun l n he => by
      simp only [laws_heldCellS_L1, he, e0, e1, e2, bne_self_eq_false, cond_false, Option.bind_some]⟩
  obtain ⟨a', js, q1, q2, q3, q4, q5, q6⟩ := mark_list (f := laws_markCellS_L1) a j 3 (j + 3145728) (fun e p q => ∀ l n, gx l n = e → laws_heldCellS_L1 l n p = some (.next q)) (by decide) (by omega) hst
  refine ⟨a', js a.length, ?_, ?_, q2, q4, by omega⟩
  · unfold laws_markCellS; rw [gd_pos (by omega), q1]; rfl
  · unfold laws_heldCellS; rw [gd_pos (by omega), q2, held_list (f := laws_heldCellS_L1 a') (N := a.length) js q3 (fun k hk => (q6 k hk).1 a' k rfl)]; rfl

-- type GBlock
instance : Sm GBlock := ⟨fun x => Sm.ok x.Cells⟩

theorem eq_Block (a : GBlock) (hs : Sm.ok a) : laws_eqBlock a a = some true := by simp only [laws_eqBlock, bne_self_eq_false, cond_false, Option.bind_some, Bool.not_true, eq_CellS a.Cells hs]

-- type GMember
instance : Sm GMember := ⟨fun _ => True⟩

@[simp] theorem eq_Member (a : GMember) : laws_eqMember a a = some true := by simp [laws_eqMember]

theorem eq_MemberS (a : List GMember) (hs : Sm.ok a) : laws_eqMemberS a a = some true := by
  have hl := sm_len hs
  unfold laws_eqMemberS
  simp only [bne_self_eq_false, cond_false]
  rw [gd_pos (by omega), all_next (f := laws_eqMemberS_L1 a a) (fun k hk => by
    simp only [laws_eqMemberS_L1, eq_Member (gx a k), Option.bind_some]
    rw [gd_pos hk]; rfl)]
  rfl

theorem mh_MemberS (a : List GMember) (j : Int) (hs : Sm.ok a) (h0 : 0 ≤ j) (h1 : j ≤ 1152921504606846976) : ∃ a' j', laws_markMemberS a j = some (j', a') ∧ laws_heldMemberS a' j = some j' ∧ a'.length = a.length ∧ j ≤ j' ∧ j' ≤ j + 3145728 := by
  have hl := sm_len hs
  have hst : ∀ k s i, k < a.length → s.length = a.length → gx s k = gx a k → j ≤ i → i + 3 ≤ j + 3145728 → ∃ e j', laws_markMemberS_L1 k (s, i) = some (.next (s.set k e, j')) ∧ i ≤ j' ∧ j' ≤ i + 3 ∧ (fun e p q => ∀ l n, gx l n = e → laws_heldMemberS_L1 l n p = some (.next q)) e i j' := fun k s i hk hl' hg g0 g1 => by
    have e0 : wr (i + 1) = i + 1 := wr_of (by omega) (by omega)
    have e1 : wr (i + 1 + 1) = i + 1 + 1 := wr_of (by omega) (by omega)
    have e2 : wr (i + 1 + 1 + 1) = i + 1 + 1 + 1 := wr_of (by omega) (by omega)
    exact ⟨(GMember.mk (i) (i + 1) (i + 1 + 1)), i + 1 + 1 + 1, by simp only [laws_markMemberS_L1, hg, e0, e1, e2, Option.bind_some], by omega, by omega, fun l n he => by
      simp only [laws_heldMemberS_L1, he, e0, e1, e2, bne_self_eq_false, cond_false, Option.bind_some]⟩
  obtain ⟨a', js, q1, q2, q3, q4, q5, q6⟩ := mark_list (f := laws_markMemberS_L1) a j 3 (j + 3145728) (fun e p q => ∀ l n, gx l n = e → laws_heldMemberS_L1 l n p = some (.next q)) (by decide) (by omega) hst
  refine ⟨a', js a.length, ?_, ?_, q2, q4, by omega⟩
  · unfold laws_markMemberS; rw [gd_pos (by omega), q1]; rfl
  · unfold laws_heldMemberS; rw [gd_pos (by omega), q2, held_list (f := laws_heldMemberS_L1 a') (N := a.length) js q3 (fun k hk => (q6 k hk).1 a' k rfl)]; rfl

theorem eq_IntS (a : List Int) (hs : Sm.ok a) : laws_eqIntS a a = some true := by
  have hl := sm_len hs
  unfold laws_eqIntS
  simp only [bne_self_eq_false, cond_false]
  rw [gd_pos (by omega), all_next (f := laws_eqIntS_L1 a a) (fun k hk => by
    simp [laws_eqIntS_L1, hk, gd])]
  rfl

theorem mh_IntS (a : List Int) (j : Int) (hs : Sm.ok a) (h0 : 0 ≤ j) (h1 : j ≤ 1152921504606846976) : ∃ a' j', laws_markIntS a j = some (j', a') ∧ laws_heldIntS a' j = some j' ∧ a'.length = a.length ∧ j ≤ j' ∧ j' ≤ j + 1048576 := by
  have hl := sm_len hs
  have hst : ∀ k s i, k < a.length → s.length = a.length → gx s k = gx a k → j ≤ i → i + 1 ≤ j + 1048576 → ∃ e j', laws_markIntS_L1 k (s, i) = some (.next (s.set k e, j')) ∧ i ≤ j' ∧ j' ≤ i + 1 ∧ (fun e p q => ∀ l n, gx l n = e → laws_heldIntS_L1 l n p = some (.next q)) e i j' := fun k s i hk hl' hg g0 g1 => by
    have e0 : wr (i + 1) = i + 1 := wr_of (by omega) (by omega)
    exact ⟨i, i + 1, by simp only [laws_markIntS_L1, hg, e0, Option.bind_some], by omega, by omega, fun l n he => by
      simp only [laws_heldIntS_L1, he, e0, bne_self_eq_false, cond_false, Option.bind_some]⟩
  obtain ⟨a', js, q1, q2, q3, q4, q5, q6⟩ := mark_list (f := laws_markIntS_L1) a j 1 (j + 1048576) (fun e p q => ∀ l n, gx l n = e → laws_heldIntS_L1 l n p = some (.next q)) (by decide) (by omega) hst
  refine ⟨a', js a.length, ?_, ?_, q2, q4, by omega⟩
  · unfold laws_markIntS; rw [gd_pos (by omega), q1]; rfl
  · unfold laws_heldIntS; rw [gd_pos (by omega), q2, held_list (f := laws_heldIntS_L1 a') (N := a.length) js q3 (fun k hk => (q6 k hk).1 a' k rfl)]; rfl

-- type GEntry
instance : Sm GEntry := ⟨fun x => Sm.ok x.Block⟩

theorem eq_Entry (a : GEntry) (hs : Sm.ok a) : laws_eqEntry a a = some true := by simp only [laws_eqEntry, bne_self_eq_false, cond_false, Option.bind_some, Bool.not_true, eq_Block a.Block hs]

theorem eq_EntryS (a : List GEntry) (hs : Sm.ok a) : laws_eqEntryS a a = some true := by
  have hl := sm_len hs
  unfold laws_eqEntryS
  simp only [bne_self_eq_false, cond_false]
  rw [gd_pos (by omega), all_next (f := laws_eqEntryS_L1 a a) (fun k hk => by
    simp only [laws_eqEntryS_L1, eq_Entry (gx a k) (sm_gx hs hk), Option.bind_some]
    rw [gd_pos hk]; rfl)]
  rfl

theorem mh_EntryS (a : List GEntry) (j : Int) (hs : Sm.ok a) (h0 : 0 ≤ j) (h1 : j ≤ 576460752303423488) : ∃ a' j', laws_markEntryS a j = some (j', a') ∧ laws_heldEntryS a' j = some j' ∧ a'.length = a.length ∧ j ≤ j' ∧ j' ≤ j + 3298538029056 := by
  have hl := sm_len hs
  have hst : ∀ k s i, k < a.length → s.length = a.length → gx s k = gx a k → j ≤ i → i + 3145731 ≤ j + 3298538029056 → ∃ e j', laws_markEntryS_L1 k (s, i) = some (.next (s.set k e, j')) ∧ i ≤ j' ∧ j' ≤ i + 3145731 ∧ (fun e p q => ∀ l n, gx l n = e → laws_heldEntryS_L1 l n p = some (.next q)) e i j' := fun k s i hk hl' hg g0 g1 => by
    have e0 : wr (i + 1) = i + 1 := wr_of (by omega) (by omega)
    have e1 : wr (i + 1 + 1) = i + 1 + 1 := wr_of (by omega) (by omega)
    have e2 : wr (i + 1 + 1 + 1) = i + 1 + 1 + 1 := wr_of (by omega) (by omega)
    obtain ⟨b0, c0, m0, hh0, l0, lo0, hi0⟩ := mh_CellS ((gx a k).Block.Cells) (i + 1 + 1 + 1) (sm_gx hs hk) (by omega) (by omega)
    have d0 : decide (c0 < 0) = false := decide_eq_false (by omega)
    exact ⟨(GEntry.mk (i) (i + 1) (GBlock.mk (i + 1 + 1) (b0))), c0, by simp only [laws_markEntryS_L1, hg, e0, e1, e2, m0, Option.bind_some], by omega, by omega, fun l n he => by
      simp only [laws_heldEntryS_L1, he, e0, e1, e2, hh0, d0, bne_self_eq_false, cond_false, Option.bind_some]⟩
  obtain ⟨a', js, q1, q2, q3, q4, q5, q6⟩ := mark_list (f := laws_markEntryS_L1) a j 3145731 (j + 3298538029056) (fun e p q => ∀ l n, gx l n = e → laws_heldEntryS_L1 l n p = some (.next q)) (by decide) (by omega) hst
  refine ⟨a', js a.length, ?_, ?_, q2, q4, by omega⟩
  · unfold laws_markEntryS; rw [gd_pos (by omega), q1]; rfl
  · unfold laws_heldEntryS; rw [gd_pos (by omega), q2, held_list (f := laws_heldEntryS_L1 a') (N := a.length) js q3 (fun k hk => (q6 k hk).1 a' k rfl)]; rfl

-- type GBooking
instance : Sm GBooking := ⟨fun _ => True⟩

@[simp] theorem eq_Booking (a : GBooking) : laws_eqBooking a a = some true := by simp [laws_eqBooking]

theorem eq_BookingS (a : List GBooking) (hs : Sm.ok a) : laws_eqBookingS a a = some true := by
  have hl := sm_len hs
  unfold laws_eqBookingS
  simp only [bne_self_eq_false, cond_false]
  rw [gd_pos (by omega), all_next (f := laws_eqBookingS_L1 a a) (fun k hk => by
    simp only [laws_eqBookingS_L1, eq_Booking (gx a k), Option.bind_some]
    rw [gd_pos hk]; rfl)]
  rfl

theorem mh_BookingS (a : List GBooking) (j : Int) (hs : Sm.ok a) (h0 : 0 ≤ j) (h1 : j ≤ 1152921504606846976) : ∃ a' j', laws_markBookingS a j = some (j', a') ∧ laws_heldBookingS a' j = some j' ∧ a'.length = a.length ∧ j ≤ j' ∧ j' ≤ j + 4194304 := by
  have hl := sm_len hs
  have hst : ∀ k s i, k < a.length → s.length = a.length → gx s k = gx a k → j ≤ i → i + 4 ≤ j + 4194304 → ∃ e j', laws_markBookingS_L1 k (s, i) = some (.next (s.set k e, j')) ∧ i ≤ j' ∧ j' ≤ i + 4 ∧ (fun e p q => ∀ l n, gx l n = e → laws_heldBookingS_L1 l n p = some (.next q)) e i j' := fun k s i hk hl' hg g0 g1 => by
    have e0 : wr (i + 1) = i + 1 := wr_of (by omega) (by omega)
    have e1 : wr (i + 1 + 1) = i + 1 + 1 := wr_of (by omega) (by omega)
    have e2 : wr (i + 1 + 1 + 1) = i + 1 + 1 + 1 := wr_of (by omega) (by omega)
    have e3 : wr (i + 1 + 1 + 1 + 1) = i + 1 + 1 + 1 + 1 := wr_of (by omega) (by omega)
    exact ⟨(GBooking.mk (i) (i + 1) (i + 1 + 1) (i + 1 + 1 + 1)), i + 1 + 1 + 1 + 1, by simp only [laws_markBookingS_L1, hg, e0, e1, e2, e3, Option.bind_some], by omega, by omega, fun l n he => by
      simp only [laws_heldBookingS_L1, he, e0, e1, e2, e3, bne_self_eq_false, cond_false, Option.bind_some]⟩
  obtain ⟨a', js, q1, q2, q3, q4, q5, q6⟩ := mark_list (f := laws_markBookingS_L1) a j 4 (j + 4194304) (fun e p q => ∀ l n, gx l n = e → laws_heldBookingS_L1 l n p = some (.next q)) (by decide) (by omega) hst
  refine ⟨a', js a.length, ?_, ?_, q2, q4, by omega⟩
  · unfold laws_markBookingS; rw [gd_pos (by omega), q1]; rfl
  · unfold laws_heldBookingS; rw [gd_pos (by omega), q2, held_list (f := laws_heldBookingS_L1 a') (N := a.length) js q3 (fun k hk => (q6 k hk).1 a' k rfl)]; rfl

-- type GGuild
instance : Sm GGuild := ⟨fun x => Sm.ok x.Members ∧ Sm.ok x.Stock ∧ Sm.ok x.Entries ∧ Sm.ok x.Books⟩

theorem eq_Guild (a : GGuild) (hs : Sm.ok a) : laws_eqGuild a a = some true := by simp only [laws_eqGuild, bne_self_eq_false, cond_false, Option.bind_some, Bool.not_true, eq_MemberS a.Members hs.1, eq_IntS a.Stock hs.2.1, eq_EntryS a.Entries hs.2.2.1, eq_BookingS a.Books hs.2.2.2]

theorem mh_Guild (a : GGuild) (j : Int) (hs : Sm.ok a) (h0 : 0 ≤ j) (h1 : j ≤ 288230376151711744) : ∃ b0 b1 b2 b3 j', laws_markGuild a j = some (j', b0, b1, b2, b3) ∧ laws_heldGuild (GGuild.mk b0 b1 b2 b3 a.Round a.Year) j = some j' ∧ j ≤ j' ∧ j' ≤ j + 3298546417664 := by
  obtain ⟨b0, c0, m0, hh0, l0, lo0, hi0⟩ := mh_MemberS a.Members j hs.1 (by omega) (by omega)
  have d0 : decide (c0 < 0) = false := decide_eq_false (by omega)
  obtain ⟨b1, c1, m1, hh1, l1, lo1, hi1⟩ := mh_IntS a.Stock c0 hs.2.1 (by omega) (by omega)
  have d1 : decide (c1 < 0) = false := decide_eq_false (by omega)
  obtain ⟨b2, c2, m2, hh2, l2, lo2, hi2⟩ := mh_EntryS a.Entries c1 hs.2.2.1 (by omega) (by omega)
  have d2 : decide (c2 < 0) = false := decide_eq_false (by omega)
  obtain ⟨b3, c3, m3, hh3, l3, lo3, hi3⟩ := mh_BookingS a.Books c2 hs.2.2.2 (by omega) (by omega)
  have d3 : decide (c3 < 0) = false := decide_eq_false (by omega)
  exact ⟨b0, b1, b2, b3, c3, by simp only [laws_markGuild, m0, m1, m2, m3, Option.bind_some], by simp only [laws_heldGuild, hh0, hh1, hh2, hh3, d0, d1, d2, d3, Option.bind_some, cond_false], by omega, by omega⟩

def inR (x a b : Int) : Bool := decide (x ≥ a) && decide (x ≤ b)
theorem inR_iff {x a b : Int} : inR x a b = true ↔ a ≤ x ∧ x ≤ b := by simp [inR]
theorem inR_not {x a b : Int} : inR x a b = false ↔ ¬(a ≤ x ∧ x ≤ b) := by rw [← inR_iff]; simp

@[simp] theorem l01In_eq (x a b : Int) : spec_l01In x a b = some (inR x a b) := rfl

@[simp] theorem within_eq (x a b : Int) : impl_within x a b = some (inR x a b) := rfl

@[simp] theorem isColor_eq (a : Int) : impl_isColor a = some (inR a 0 5) := rfl

def CellOkM (c : GCell) : Bool := inR c.Split 0 2 && inR c.A 0 5 && inR c.B 0 5 && ((c.Split == 0) == (c.A == c.B))

@[simp] theorem spec_CellOk_eq (c : GCell) : spec_CellOk c = some (CellOkM c) := by
  unfold spec_CellOk CellOkM
  simp only [l01In_eq, Option.bind_some]
  cases inR c.Split 0 2 <;> cases inR c.A 0 5 <;> cases inR c.B 0 5 <;> simp

@[simp] theorem impl_CellOk_eq (c : GCell) : impl_CellOk c = some (CellOkM c) := by
  unfold impl_CellOk CellOkM
  simp only [within_eq, isColor_eq, Option.bind_some]
  cases inR c.Split 0 2 <;> cases inR c.A 0 5 <;> cases inR c.B 0 5 <;> simp

def BlockOkM (b : GBlock) : Bool := inR b.Size 1 4 && ((b.Cells.length : Int) == b.Size * b.Size) && b.Cells.all CellOkM
theorem size_cases {n : Int} (h : inR n 1 4 = true) : n = 1 ∨ n = 2 ∨ n = 3 ∨ n = 4 := by
  rw [inR_iff] at h; omega

@[simp] theorem spec_BlockOk_eq (b : GBlock) : spec_BlockOk b = some (BlockOkM b) := by
  unfold spec_BlockOk BlockOkM
  simp only [l01In_eq, Option.bind_some]
  cases h : inR b.Size 1 4
  · rfl
  · have hw : wr (b.Size * b.Size) = b.Size * b.Size := by rcases size_cases h with e | e | e | e <;> rw [e] <;> decide
    rw [hw]
    cases hl : ((b.Cells.length : Int) == b.Size * b.Size)
    · have : (((b.Cells.length : Nat) : Int) != b.Size * b.Size) = true := by simp [bne, hl]
      simp [this]
    · have hl' : (b.Cells.length : Int) = b.Size * b.Size := by simpa using hl
      have : (((b.Cells.length : Nat) : Int) != b.Size * b.Size) = false := by simp [bne, hl]
      simp only [this, Bool.not_true, cond_false, Option.bind_some]
      rw [gd_pos (by rcases size_cases h with e | e | e | e <;> rw [e] at hl' <;> omega), forO_all (f := spec_BlockOk_L1 b) (fun k => CellOkM (gx b.Cells k)) (fun k hk => by
        simp only [spec_BlockOk_L1, spec_CellOk_eq, Option.bind_some]; cases CellOkM (gx b.Cells k) <;> rfl), all_gx]
      cases b.Cells.all CellOkM <;> rfl

@[simp] theorem impl_BlockOk_eq (b : GBlock) : impl_BlockOk b = some (BlockOkM b) := by
  unfold impl_BlockOk BlockOkM
  simp only [within_eq, Option.bind_some]
  cases h : inR b.Size 1 4
  · rfl
  · have hw : wr (b.Size * b.Size) = b.Size * b.Size := by rcases size_cases h with e | e | e | e <;> rw [e] <;> decide
    rw [hw]
    cases hl : ((b.Cells.length : Int) == b.Size * b.Size)
    · have : (((b.Cells.length : Nat) : Int) != b.Size * b.Size) = true := by simp [bne, hl]
      simp [this]
    · have hl' : (b.Cells.length : Int) = b.Size * b.Size := by simpa using hl
      have : (((b.Cells.length : Nat) : Int) != b.Size * b.Size) = false := by simp [bne, hl]
      simp only [this, Bool.not_true, cond_false, Option.bind_some]
      rw [gd_pos (by rcases size_cases h with e | e | e | e <;> rw [e] at hl' <;> omega), forO_all (f := impl_BlockOk_L1 b) (fun k => CellOkM (gx b.Cells k)) (fun k hk => by
        simp only [impl_BlockOk_L1, impl_CellOk_eq, Option.bind_some]; cases CellOkM (gx b.Cells k) <;> rfl), all_gx]
      cases b.Cells.all CellOkM <;> rfl

/-- A valid block: its side as a number, and its cells. -/
theorem blockOk_spec {b : GBlock} (h : BlockOkM b = true) : ∃ n : Nat, b.Size = n ∧ 1 ≤ n ∧ n ≤ 4 ∧ b.Cells.length = n * n ∧ ∀ c ∈ b.Cells, CellOkM c = true := by
  simp only [BlockOkM, Bool.and_eq_true, beq_iff_eq, List.all_eq_true] at h
  obtain ⟨⟨h1, h2⟩, h3⟩ := h
  rcases size_cases h1 with e | e | e | e <;> rw [e] at h2
  · exact ⟨1, e, by omega, by omega, by omega, h3⟩
  · exact ⟨2, e, by omega, by omega, by omega, h3⟩
  · exact ⟨3, e, by omega, by omega, by omega, h3⟩
  · exact ⟨4, e, by omega, by omega, by omega, h3⟩
theorem blockOk_of {n : Nat} {cs : List GCell} (h1 : 1 ≤ n) (h2 : n ≤ 4) (hl : cs.length = n * n) (hc : ∀ c ∈ cs, CellOkM c = true) : BlockOkM ⟨n, cs⟩ = true := by
  simp only [BlockOkM, Bool.and_eq_true, beq_iff_eq, List.all_eq_true]
  exact ⟨⟨inR_iff.2 ⟨by omega, by omega⟩, by rw [hl]; simp⟩, hc⟩
theorem blockOk_sm {b : GBlock} (h : BlockOkM b = true) : Sm.ok b := by
  obtain ⟨n, _, h1, h2, hl, _⟩ := blockOk_spec h
  have : n * n ≤ 4 * 4 := Nat.mul_le_mul h2 h2
  exact ⟨by omega, fun _ _ => trivial⟩
theorem zero_sm : Sm.ok (⟨0, []⟩ : GBlock) := ⟨by simp, fun _ h => by simp at h⟩

theorem prev_idx {k N : Nat} (hk : k < N) (hN : N ≤ 4611686018427387904) (h0 : decide ((k : Int) > 0) = true) : wr ((k : Int) - 1) = ((k - 1 : Nat) : Int) ∧ k - 1 < N := by
  have : (k : Int) > 0 := of_decide_eq_true h0
  exact ⟨by rw [wr_of (by omega) (by omega)]; omega, by omega⟩

def memP (xs : List GMember) (k : Nat) : Bool := inR (gx xs k).Number 1 999 && inR (gx xs k).Since 1900 2999 && inR (gx xs k).Paid (wr ((gx xs k).Since - 1)) 2999 && !(decide ((k : Int) > 0) && decide ((gx xs k).Number ≤ (gx xs (k - 1)).Number))
def MembersOkM (xs : List GMember) : Bool := (List.range xs.length).all (memP xs) && decide (((xs.length : Nat) : Int) ≤ 40)
theorem memOk_len {xs : List GMember} (h : MembersOkM xs = true) : xs.length ≤ 40 := by
  simp only [MembersOkM, Bool.and_eq_true, decide_eq_true_eq] at h; omega

theorem spec_MembersOk_eq (xs : List GMember) (hl : xs.length ≤ 4611686018427387904) : spec_MembersOk xs = some (MembersOkM xs) := by
  unfold spec_MembersOk MembersOkM
  rw [gd_pos hl, forO_all (f := spec_MembersOk_L1 xs) (c := false) (memP xs) (fun k hk => by
    simp only [spec_MembersOk_L1, l01In_eq, Option.bind_some, memP]
    cases hd : decide ((k : Int) > 0)
    · cases inR (gx xs k).Number 1 999 <;> cases inR (gx xs k).Since 1900 2999 <;> cases inR (gx xs k).Paid (wr ((gx xs k).Since - 1)) 2999 <;> rfl
    · obtain ⟨e1, e2⟩ := prev_idx hk hl hd
      simp only [e1, Int.toNat_natCast, cond_true]
      rw [gd_pos ⟨by omega, by omega⟩]
      cases inR (gx xs k).Number 1 999 <;> cases inR (gx xs k).Since 1900 2999 <;> cases inR (gx xs k).Paid (wr ((gx xs k).Since - 1)) 2999 <;> cases decide ((gx xs k).Number ≤ (gx xs (k - 1)).Number) <;> rfl)]
  cases (List.range xs.length).all (memP xs) <;> rfl

theorem impl_MembersOk_eq (xs : List GMember) (hl : xs.length ≤ 4611686018427387904) : impl_MembersOk xs = some (MembersOkM xs) := by
  unfold impl_MembersOk MembersOkM
  rw [gd_pos hl, forO_all (f := impl_MembersOk_L1 xs) (c := false) (memP xs) (fun k hk => by
    simp only [impl_MembersOk_L1, within_eq, Option.bind_some, memP]
    cases hd : decide ((k : Int) > 0)
    · cases inR (gx xs k).Number 1 999 <;> cases inR (gx xs k).Since 1900 2999 <;> cases inR (gx xs k).Paid (wr ((gx xs k).Since - 1)) 2999 <;> rfl
    · obtain ⟨e1, e2⟩ := prev_idx hk hl hd
      simp only [e1, Int.toNat_natCast, cond_true]
      rw [gd_pos ⟨by omega, by omega⟩]
      cases inR (gx xs k).Number 1 999 <;> cases inR (gx xs k).Since 1900 2999 <;> cases inR (gx xs k).Paid (wr ((gx xs k).Since - 1)) 2999 <;> cases decide ((gx xs k).Number ≤ (gx xs (k - 1)).Number) <;> rfl)]
  cases (List.range xs.length).all (memP xs) <;> rfl

def StockOkM (xs : List Int) : Bool := xs.all (fun n => inR n 0 1000000) && (((xs.length : Nat) : Int) == 6)
theorem stockOk_len {xs : List Int} (h : StockOkM xs = true) : xs.length = 6 := by
  simp only [StockOkM, Bool.and_eq_true, beq_iff_eq] at h; omega

theorem spec_StockOk_eq (xs : List Int) (hl : xs.length ≤ 4611686018427387904) : spec_StockOk xs = some (StockOkM xs) := by
  unfold spec_StockOk StockOkM
  rw [gd_pos hl, forO_all (f := spec_StockOk_L1 xs) (c := false) (fun k => inR (gx xs k) 0 1000000) (fun k hk => by
    simp only [spec_StockOk_L1, l01In_eq, Option.bind_some]; cases inR (gx xs k) 0 1000000 <;> rfl), all_gx (fun n => inR n 0 1000000)]
  cases xs.all (fun n => inR n 0 1000000) <;> rfl

theorem impl_allWithin_eq (xs : List Int) (a b : Int) (hl : xs.length ≤ 4611686018427387904) : impl_allWithin xs a b = some (xs.all fun n => inR n a b) := by
  unfold impl_allWithin
  rw [gd_pos hl, forO_all (f := impl_allWithin_L1 xs a b) (c := false) (fun k => inR (gx xs k) a b) (fun k hk => by
    simp only [impl_allWithin_L1, within_eq, Option.bind_some]; cases inR (gx xs k) a b <;> rfl), all_gx (fun n => inR n a b)]
  cases xs.all (fun n => inR n a b) <;> rfl

theorem impl_StockOk_eq (xs : List Int) (hl : xs.length ≤ 4611686018427387904) : impl_StockOk xs = some (StockOkM xs) := by
  unfold impl_StockOk StockOkM
  rw [impl_allWithin_eq xs _ _ hl]
  cases (((xs.length : Nat) : Int) == 6) <;> cases xs.all (fun n => inR n 0 1000000) <;> rfl

def ledP (xs : List GBooking) (k : Nat) : Bool := inR (gx xs k).Day 0 9999 && inR (gx xs k).From 0 4 && inR (gx xs k).To 0 4 && !((gx xs k).From == (gx xs k).To) && inR (gx xs k).Sum 1 100000 && !(decide ((k : Int) > 0) && decide ((gx xs k).Day < (gx xs (k - 1)).Day))
def LedgerOkM (xs : List GBooking) : Bool := (List.range xs.length).all (ledP xs) && decide (((xs.length : Nat) : Int) ≤ 60)
theorem ledOk_len {xs : List GBooking} (h : LedgerOkM xs = true) : xs.length ≤ 60 := by
  simp only [LedgerOkM, Bool.and_eq_true, decide_eq_true_eq] at h; omega

theorem spec_LedgerOk_eq (xs : List GBooking) (hl : xs.length ≤ 4611686018427387904) : spec_LedgerOk xs = some (LedgerOkM xs) := by
  unfold spec_LedgerOk LedgerOkM
  rw [gd_pos hl, forO_all (f := spec_LedgerOk_L1 xs) (c := false) (ledP xs) (fun k hk => by
    simp only [spec_LedgerOk_L1, l01In_eq, Option.bind_some, ledP]
    cases hd : decide ((k : Int) > 0)
    · cases inR (gx xs k).Day 0 9999 <;> cases inR (gx xs k).From 0 4 <;> cases inR (gx xs k).To 0 4 <;> cases ((gx xs k).From == (gx xs k).To) <;> cases inR (gx xs k).Sum 1 100000 <;> rfl
    · obtain ⟨e1, e2⟩ := prev_idx hk hl hd
      simp only [e1, Int.toNat_natCast, cond_true]
      rw [gd_pos ⟨by omega, by omega⟩]
      cases inR (gx xs k).Day 0 9999 <;> cases inR (gx xs k).From 0 4 <;> cases inR (gx xs k).To 0 4 <;> cases ((gx xs k).From == (gx xs k).To) <;> cases inR (gx xs k).Sum 1 100000 <;> cases decide ((gx xs k).Day < (gx xs (k - 1)).Day) <;> rfl)]
  cases (List.range xs.length).all (ledP xs) <;> rfl

theorem impl_LedgerOk_eq (xs : List GBooking) (hl : xs.length ≤ 4611686018427387904) : impl_LedgerOk xs = some (LedgerOkM xs) := by
  unfold impl_LedgerOk LedgerOkM
  rw [gd_pos hl, forO_all (f := impl_LedgerOk_L1 xs) (c := false) (ledP xs) (fun k hk => by
    simp only [impl_LedgerOk_L1, within_eq, Option.bind_some, ledP]
    cases hd : decide ((k : Int) > 0)
    · cases inR (gx xs k).Day 0 9999 <;> cases inR (gx xs k).From 0 4 <;> cases inR (gx xs k).To 0 4 <;> cases ((gx xs k).From == (gx xs k).To) <;> cases inR (gx xs k).Sum 1 100000 <;> rfl
    · obtain ⟨e1, e2⟩ := prev_idx hk hl hd
      simp only [e1, Int.toNat_natCast, cond_true]
      rw [gd_pos ⟨by omega, by omega⟩]
      cases inR (gx xs k).Day 0 9999 <;> cases inR (gx xs k).From 0 4 <;> cases inR (gx xs k).To 0 4 <;> cases ((gx xs k).From == (gx xs k).To) <;> cases inR (gx xs k).Sum 1 100000 <;> cases decide ((gx xs k).Day < (gx xs (k - 1)).Day) <;> rfl)]
  cases (List.range xs.length).all (ledP xs) <;> rfl

def EntryOkM (e : GEntry) : Bool := inR e.Owner 0 99 && inR e.Day 0 9999 && BlockOkM e.Block

@[simp] theorem spec_EntryOk_eq (e : GEntry) : spec_EntryOk e = some (EntryOkM e) := by
  unfold spec_EntryOk EntryOkM
  simp only [l01In_eq, spec_BlockOk_eq, Option.bind_some]
  cases inR e.Owner 0 99 <;> cases inR e.Day 0 9999 <;> rfl

@[simp] theorem impl_EntryOk_eq (e : GEntry) : impl_EntryOk e = some (EntryOkM e) := by
  unfold impl_EntryOk EntryOkM
  simp only [within_eq, impl_BlockOk_eq, Option.bind_some]
  cases inR e.Owner 0 99 <;> cases inR e.Day 0 9999 <;> rfl

def memberM (xs : List GMember) (n : Int) : Bool := !((List.range xs.length).all fun k => !((gx xs k).Number == n))

theorem spec_l38Member_eq (xs : List GMember) (n : Int) (hl : xs.length ≤ 4611686018427387904) : spec_l38Member xs n = some (memberM xs n) := by
  unfold spec_l38Member memberM
  rw [gd_pos hl, forO_all (f := spec_l38Member_L1 xs n) (c := true) (fun k => !((gx xs k).Number == n)) (fun k hk => by
    simp only [spec_l38Member_L1]; cases ((gx xs k).Number == n) <;> rfl)]
  cases (List.range xs.length).all (fun k => !((gx xs k).Number == n)) <;> rfl

theorem impl_isMember_eq (xs : List GMember) (n : Int) (hl : xs.length ≤ 4611686018427387904) : impl_isMember xs n = some (memberM xs n) := by
  unfold impl_isMember memberM
  rw [gd_pos hl, forO_all (f := impl_isMember_L1 xs n) (c := true) (fun k => !((gx xs k).Number == n)) (fun k hk => by
    simp only [impl_isMember_L1]; cases ((gx xs k).Number == n) <;> rfl)]
  cases (List.range xs.length).all (fun k => !((gx xs k).Number == n)) <;> rfl

def GoodM (xs : List GMember) (y : Int) : List Int := bif MembersOkM xs then ((List.range xs.length).filter fun k => decide ((gx xs k).Paid ≥ y)).map fun k => (gx xs k).Number else []
theorem good_len (xs : List GMember) (y : Int) : (GoodM xs y).length ≤ 40 := by
  unfold GoodM
  cases h : MembersOkM xs
  · simp
  · have h1 := memOk_len h
    have h2 := List.length_filter_le (fun k => decide ((gx xs k).Paid ≥ y)) (List.range xs.length)
    simp at h2 ⊢; omega

theorem impl_GoodStanding_eq (xs : List GMember) (y : Int) (hl : xs.length ≤ 4611686018427387904) : impl_GoodStanding xs y = some (GoodM xs y) := by
  unfold impl_GoodStanding GoodM
  rw [impl_MembersOk_eq xs hl]
  cases h : MembersOkM xs
  · rfl
  have h1 := memOk_len h
  simp only [Option.bind_some, Bool.not_true, cond_false, cond_true]
  rw [gd_pos hl, lpO_filter (f := impl_GoodStanding_L1 xs y) (xs := []) (fun k => decide ((gx xs k).Paid ≥ y)) (fun k => (gx xs k).Number) (fun k s hk hs => by
    simp only [impl_GoodStanding_L1]
    rw [gd_pos (by simp at hs; omega)]
    cases decide ((gx xs k).Paid ≥ y) <;> rfl)]
  rfl

theorem spec_GoodStanding_eq (xs : List GMember) (y : Int) (hl : xs.length ≤ 4611686018427387904) : spec_GoodStanding xs y = some (GoodM xs y) := by
  unfold spec_GoodStanding GoodM
  rw [gd_pos hl]
  cases h : MembersOkM xs
  · rcases Nat.eq_zero_or_pos xs.length with e | e
    · rw [e]; rfl
    · unfold lpO
      rw [forO_brkAt (f := spec_GoodStanding_L1 xs y) (fun _ => []) rfl 0 e (fun k hk => by omega) (s' := []) (by
        simp only [spec_GoodStanding_L1, spec_MembersOk_eq xs hl, h, Option.bind_some, cond_false])]
      rfl
  have h1 := memOk_len h
  simp only [cond_true]
  rw [lpO_filter (f := spec_GoodStanding_L1 xs y) (xs := []) (fun k => decide ((gx xs k).Paid ≥ y)) (fun k => (gx xs k).Number) (fun k s hk hs => by
    simp only [spec_GoodStanding_L1, spec_MembersOk_eq xs hl, h, Option.bind_some, cond_true]
    rw [gd_pos (by simp at hs; omega)]
    cases decide ((gx xs k).Paid ≥ y) <;> rfl)]
  rfl

def RoundsM (g : GGuild) : Int := bif inR (GoodM g.Members g.Year).length 2 10 then (GoodM g.Members g.Year).length - 1 else 0

theorem spec_SwapRounds_eq (g : GGuild) (hl : g.Members.length ≤ 4611686018427387904) : spec_SwapRounds g = some (RoundsM g) := by
  unfold spec_SwapRounds RoundsM
  have := good_len g.Members g.Year
  rw [spec_GoodStanding_eq _ _ hl]
  simp only [Option.bind_some, l01In_eq, wr_of (n := ((GoodM g.Members g.Year).length : Int) - 1) (by omega) (by omega)]
  cases inR (GoodM g.Members g.Year).length 2 10 <;> rfl

theorem impl_SwapRounds_eq (g : GGuild) (hl : g.Members.length ≤ 4611686018427387904) : impl_SwapRounds g = some (RoundsM g) := by
  unfold impl_SwapRounds RoundsM
  have := good_len g.Members g.Year
  rw [impl_GoodStanding_eq _ _ hl]
  simp only [Option.bind_some, within_eq, wr_of (n := ((GoodM g.Members g.Year).length : Int) - 1) (by omega) (by omega)]
  cases inR (GoodM g.Members g.Year).length 2 10 <;> rfl

/-- Lists of a length that loops may have. -/
def GL (g : GGuild) : Prop := g.Members.length ≤ 4611686018427387904 ∧ g.Stock.length ≤ 4611686018427387904 ∧ g.Entries.length ≤ 4611686018427387904 ∧ g.Books.length ≤ 4611686018427387904
theorem sm_GL {g : GGuild} (h : Sm.ok g) : GL g := by
  obtain ⟨h1, h2, h3, h4⟩ := h
  have := sm_len h1; have := sm_len h2; have := sm_len h3; have := sm_len h4
  exact ⟨by omega, by omega, by omega, by omega⟩
def entP (g : GGuild) (k : Nat) : Bool := EntryOkM (gx g.Entries k) && memberM g.Members (gx g.Entries k).Owner && !(decide ((k : Int) > 0) && decide ((gx g.Entries k).Day < (gx g.Entries (k - 1)).Day))
def GuildOkM (g : GGuild) : Bool := MembersOkM g.Members && StockOkM g.Stock && LedgerOkM g.Books && !decide (((g.Entries.length : Nat) : Int) > 10) && inR g.Year 1900 2999 && (List.range g.Entries.length).all (entP g) && inR g.Round 0 (RoundsM g)

theorem spec_GuildOk_eq (g : GGuild) (h : GL g) : spec_GuildOk g = some (GuildOkM g) := by
  obtain ⟨h1, h2, h3, h4⟩ := h
  unfold spec_GuildOk GuildOkM
  simp only [spec_MembersOk_eq _ h1, spec_StockOk_eq _ h2, spec_LedgerOk_eq _ h4, l01In_eq, Option.bind_some, spec_SwapRounds_eq _ h1]
  cases MembersOkM g.Members
  · rfl
  cases StockOkM g.Stock
  · rfl
  cases LedgerOkM g.Books
  · rfl
  cases decide (((g.Entries.length : Nat) : Int) > 10)
  · cases inR g.Year 1900 2999
    · rfl
    simp only [Bool.not_true, Bool.not_false, cond_false, Option.bind_some]
    rw [gd_pos h3, forO_all (f := spec_GuildOk_L1 g) (c := false) (entP g) (fun k hk => by
      simp only [spec_GuildOk_L1, spec_EntryOk_eq, spec_l38Member_eq _ _ h1, Option.bind_some, entP]
      cases hd : decide ((k : Int) > 0)
      · cases EntryOkM (gx g.Entries k) <;> cases memberM g.Members (gx g.Entries k).Owner <;> rfl
      · obtain ⟨e1, e2⟩ := prev_idx hk h3 hd
        simp only [e1, Int.toNat_natCast, cond_true]
        rw [gd_pos ⟨by omega, by omega⟩]
        cases EntryOkM (gx g.Entries k) <;> cases memberM g.Members (gx g.Entries k).Owner <;> cases decide ((gx g.Entries k).Day < (gx g.Entries (k - 1)).Day) <;> rfl)]
    cases (List.range g.Entries.length).all (entP g) <;> rfl
  · rfl

theorem impl_GuildOk_eq (g : GGuild) (h : GL g) : impl_GuildOk g = some (GuildOkM g) := by
  obtain ⟨h1, h2, h3, h4⟩ := h
  unfold impl_GuildOk GuildOkM
  simp only [impl_MembersOk_eq _ h1, impl_StockOk_eq _ h2, impl_LedgerOk_eq _ h4, within_eq, Option.bind_some, impl_SwapRounds_eq _ h1]
  cases MembersOkM g.Members
  · rfl
  cases StockOkM g.Stock
  · rfl
  cases LedgerOkM g.Books
  · rfl
  cases decide (((g.Entries.length : Nat) : Int) > 10)
  · simp only [Bool.not_true, Bool.not_false, cond_false, Option.bind_some]
    rw [gd_pos h3, forO_all (f := impl_GuildOk_L1 g) (c := false) (entP g) (fun k hk => by
      simp only [impl_GuildOk_L1, impl_EntryOk_eq, impl_isMember_eq _ _ h1, Option.bind_some, entP]
      cases hd : decide ((k : Int) > 0)
      · cases EntryOkM (gx g.Entries k) <;> cases memberM g.Members (gx g.Entries k).Owner <;> rfl
      · obtain ⟨e1, e2⟩ := prev_idx hk h3 hd
        simp only [e1, Int.toNat_natCast, cond_true]
        rw [gd_pos ⟨by omega, by omega⟩]
        cases EntryOkM (gx g.Entries k) <;> cases memberM g.Members (gx g.Entries k).Owner <;> cases decide ((gx g.Entries k).Day < (gx g.Entries (k - 1)).Day) <;> rfl)]
    cases (List.range g.Entries.length).all (entP g) <;> cases inR g.Year 1900 2999 <;> rfl
  · rfl

theorem guildOk_sm {g : GGuild} (h : GuildOkM g = true) : Sm.ok g := by
  simp only [GuildOkM, Bool.and_eq_true, Bool.not_eq_true', decide_eq_false_iff_not] at h
  obtain ⟨⟨⟨⟨⟨⟨h1, h2⟩, h3⟩, h4⟩, _⟩, h6⟩, _⟩ := h
  have := memOk_len h1; have := stockOk_len h2; have := ledOk_len h3
  refine ⟨⟨by omega, fun _ _ => trivial⟩, ⟨by omega, fun _ _ => trivial⟩, ⟨by omega, all_of_gx fun k hk => ?_⟩, ⟨by omega, fun _ _ => trivial⟩⟩
  rw [List.all_eq_true] at h6
  have := h6 k (by simpa using hk)
  simp only [entP, EntryOkM, Bool.and_eq_true] at this
  exact blockOk_sm this.1.1.2

theorem same_NewGuild (y : Int) (_ : Fit.ok y) : ∃ w, spec_NewGuild y = some w ∧ impl_NewGuild y = some w ∧ Sm.ok w.1 := by
  have hg : GL (⟨[], [1000, 1000, 1000, 1000, 1000, 1000], [], [], 0, y⟩ : GGuild) := ⟨by simp, by simp, by simp, by simp⟩
  have hl : lpO spec_NewGuild_L1 6 ([] : List Int) = some [1000, 1000, 1000, 1000, 1000, 1000] := rfl
  have hz : Sm.ok (⟨[], [], [], [], 0, 0⟩ : GGuild) := ⟨⟨by simp, fun _ h => by simp at h⟩, ⟨by simp, fun _ h => by simp at h⟩, ⟨by simp, fun _ h => by simp at h⟩, ⟨by simp, fun _ h => by simp at h⟩⟩
  unfold spec_NewGuild impl_NewGuild
  rw [hl]
  simp only [Option.bind_some, spec_GuildOk_eq _ hg, impl_GuildOk_eq _ hg]
  cases h : GuildOkM (⟨[], [1000, 1000, 1000, 1000, 1000, 1000], [], [], 0, y⟩ : GGuild)
  · exact ⟨_, rfl, rfl, hz⟩
  · exact ⟨_, rfl, rfl, guildOk_sm h⟩

theorem p_FnExactNewGuild (a0 : Int) (f0 : Fit.ok a0) : laws_FnExactNewGuild a0 = some true := by
  unfold laws_FnExactNewGuild
  obtain ⟨w, hs, hi, q0⟩ := same_NewGuild a0 f0
  obtain ⟨bw0_0, bw0_1, bw0_2, bw0_3, kw0, mw0, xw0, lw0, hw0⟩ := mh_Guild w.1 1 q0 (by omega) (by omega)
  have dw0 : ¬ kw0 < 0 := by omega
  simp [hs, hi, eq_Guild w.1 q0, mw0, xw0, dw0]
end Go.Proofs.Ytgimnmlcdidcdah
