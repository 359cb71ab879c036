/-
 The plain laws: what the functions compute, in Lean alone.
-/
import Derived.Test.YtjfjbgihojiijacGreatDoorPure
namespace Go.Proofs.YtjfjbgihojiijacGreatDoor
open Go

theorem Za {α : Type} {p : Prop} [Decidable p] (h : p) (t : Option α) : gd p t = t := by simp [gd, h]
@[simp] theorem Zdg {J C : Type} (j : J) (k : J → Option C) : sq (some (.inl j)) k = k j := rfl
@[simp] theorem sq_inr {J C : Type} (c : C) (k : J → Option C) : sq (some (.inr c)) k = some c := rfl

section
variable {S C : Type} {f : Nat → S → Option (Res S C)} {N : Nat}
theorem Zsn (st : Nat → S) (h : ∀ k, k < N → f k (st k) = some (.next (st (k + 1)))) : ∀ m k, k + m = N → forO f m k (st k) = some (.inl (st N))
 | 0, k, e => by simp at e; subst e; rfl
 | m + 1, k, e => by
  rw [forO, h k (by omega)]
  exact Zsn st h m (k + 1) (by omega)
theorem Zjv (st : Nat → S) {s0 : S} (h0 : s0 = st 0) (h : ∀ k, k < N → f k (st k) = some (.next (st (k + 1)))) : forO f N 0 s0 = some (.inl (st N)) := by
 rw [h0]; exact Zsn st h N 0 (by omega)
theorem Zmo (st : Nat → S) (K : Nat) (hK : K < N) (h : ∀ k, k < K → f k (st k) = some (.next (st (k + 1)))) : ∀ m k, k + m = N → k ≤ K → forO f m k (st k) = forO f (N - K) K (st K)
 | 0, k, e, hk => by omega
 | m + 1, k, e, hk => by
  rcases Nat.lt_or_ge k K with hlt | hge
  ·rw [forO, h k hlt]
   exact Zmo st K hK h m (k + 1) (by omega) (by omega)
  ·have : k = K := by omega
   subst this
   rw [show N - k = m + 1 by omega]
theorem Zld (st : Nat → S) {s0 : S} (h0 : s0 = st 0) (K : Nat) (hK : K < N) (h : ∀ k, k < K → f k (st k) = some (.next (st (k + 1)))) {c : C} (hr : f K (st K) = some (.ret c)) : forO f N 0 s0 = some (.inr c) := by
 rw [h0, Zmo st K hK h N 0 (by omega) (by omega), show N - K = (N - K - 1) + 1 by omega, forO, hr]; rfl
theorem Zls (st : Nat → S) {s0 : S} (h0 : s0 = st 0) (K : Nat) (hK : K < N) (h : ∀ k, k < K → f k (st k) = some (.next (st (k + 1)))) {s' : S} (hr : f K (st K) = some (.brk s')) : forO f N 0 s0 = some (.inl s') := by
 rw [h0, Zmo st K hK h N 0 (by omega) (by omega), show N - K = (N - K - 1) + 1 by omega, forO, hr]; rfl
theorem Zbi (p : Nat → Bool) {s : S} {c : C} (h : ∀ k, k < N → f k s = some (bif p k then .next s else .ret c)) : forO f N 0 s = some (bif (List.range N).all p then .inl s else .inr c) := by
 cases ha : (List.range N).all p with
 | true =>
  rw [List.all_eq_true] at ha
  exact Zjv (fun _ => s) rfl fun k hk => by rw [h k hk, ha k (by simpa using hk)]; rfl
 | false =>
  have : ∃ k, k < N ∧ p k = false := by
   rw [List.all_eq_false] at ha
   obtain ⟨k, hk, hp⟩ := ha
   exact ⟨k, by simpa using hk, by simpa using hp⟩
  have hmin : ∃ k, k < N ∧ p k = false ∧ ∀ j, j < k → p j = true := by
   obtain ⟨k, hk, hp⟩ := this
   induction k using Nat.strongRecOn with
   | _ k ih =>
    by_cases hx : ∃ j, j < k ∧ p j = false
    ·obtain ⟨j, hj, hpj⟩ := hx
     exact ih j hj (by omega) hpj
    ·refine ⟨k, hk, hp, fun j hj => ?_⟩
     cases hpj : p j with
     | true => rfl
     | false => exact absurd ⟨j, hj, hpj⟩ hx
  obtain ⟨k, hk, hp, hall⟩ := hmin
  exact Zld (fun _ => s) rfl k hk (fun j hj => by rw [h j (by omega), hall j hj]; rfl) (by rw [h k hk, hp]; rfl)
theorem Zqj (p : Nat → Bool) {s : S} (c : Nat → C) (h : ∀ k, k < N → f k s = some (bif p k then .ret (c k) else .next s)) : forO f N 0 s = some (match (List.range N).find? p with | some k => .inr (c k) | none => .inl s) := by
 cases ha : (List.range N).find? p with
 | none =>
  rw [List.find?_eq_none] at ha
  exact Zjv (fun _ => s) rfl fun k hk => by
   rw [h k hk]
   have := ha k (by simpa using hk)
   simp at this
   rw [this]; rfl
 | some K =>
  have hp := List.find?_some ha
  have hK : K < N := by simpa using List.mem_of_find?_eq_some ha
  refine Zld (fun _ => s) rfl K hK (fun j hj => ?_) (by rw [h K hK, hp]; rfl)
  rw [h j (by omega)]
  have : p j = false := by
   rw [List.find?_range_eq_some] at ha
   simpa using ha.2.2 j hj
  rw [this]; rfl
end
section
variable {S : Type} {f : Nat → S → Option (Res S Empty)} {N : Nat}
theorem ZaG (st : Nat → S) {s0 : S} (h0 : s0 = st 0) (h : ∀ k, k < N → f k (st k) = some (.next (st (k + 1)))) : lpO f N s0 = some (st N) := by
 unfold lpO; rw [Zjv st h0 h]; rfl
end
section
variable {α : Type} {f : Nat → List α → Option (Res (List α) Empty)} {N : Nat}
theorem ZbN (F : Nat → α) {xs : List α} (h : ∀ k s, k < N → s.length = xs.length + k → f k s = some (.next (s ++ [F k]))) : lpO f N xs = some (xs ++ (List.range N).map F) :=
 ZaG (fun k => xs ++ (List.range k).map F) (by simp) fun k hk => by
  rw [h k _ hk (by simp)]
  simp [List.range_succ]
theorem Zjl (p : Nat → Bool) (F : Nat → α) {xs : List α} (h : ∀ k s, k < N → s.length ≤ xs.length + k → f k s = some (.next (bif p k then s ++ [F k] else s))) : lpO f N xs = some (xs ++ ((List.range N).filter p).map F) :=
 ZaG (fun k => xs ++ ((List.range k).filter p).map F) (by simp) fun k hk => by
  rw [h k _ hk (by
   have := List.length_filter_le p (List.range k)
   simp at this ⊢; omega)]
  cases hp : p k <;> simp [List.range_succ, List.filter_append, hp]
theorem Zvs (F : Nat → List α) {xs : List α} (h : ∀ k s, k < N → s = xs ++ (List.range k).flatMap F → f k s = some (.next (s ++ F k))) : lpO f N xs = some (xs ++ (List.range N).flatMap F) :=
 ZaG (fun k => xs ++ (List.range k).flatMap F) (by simp) fun k hk => by
  rw [h k _ hk rfl]
  simp [List.range_succ]
end
theorem Zdj {α β : Type} [Rep α] (F : α → β) (xs : List α) : (List.range xs.length).map (fun k => F (gx xs k)) = xs.map F := by
 apply List.ext_getElem
 ·simp
 ·intro i h1 h2
  simp at h1
  simp [gx, List.getD, h1]
theorem ZkY {α : Type} [Rep α] (F : α → Bool) (xs : List α) : (List.range xs.length).all (fun k => F (gx xs k)) = xs.all F := by
 have := Zdj F xs
 calc (List.range xs.length).all (fun k => F (gx xs k)) = ((List.range xs.length).map (fun k => F (gx xs k))).all id := by simp [List.all_map]
  _ = xs.all F := by rw [this]; simp [List.all_map]
theorem Zbq {α : Type} [Rep α] {xs : List α} {k : Nat} (h : k < xs.length) : gx xs k = xs[k] := by simp [gx, List.getD, h]
theorem Z3 {α : Type} [Rep α] {xs : List α} {k : Nat} (h : k < xs.length) : gx xs k ∈ xs := by rw [Zbq h]; exact List.getElem_mem h
theorem Z6 {n : Int} (h1 : -4611686018427387904 ≤ n) (h2 : n ≤ 4611686018427387904) : wr n = n := ZsK (by omega) (by omega)

class Sm (α : Type) where
 ok : α → Prop
instance : Sm Int := ⟨fun _ => True⟩
instance : Sm Bool := ⟨fun _ => True⟩
instance : Sm Str := ⟨fun s => s.b.length ≤ 1048576⟩
instance (α : Type) [Sm α] : Sm (List α) := ⟨fun xs => xs.length ≤ 1048576 ∧ ∀ x ∈ xs, Sm.ok x⟩
theorem ZbR {α : Type} [Sm α] {xs : List α} (h : Sm.ok xs) : xs.length ≤ 1048576 := h.1
theorem ZpL {xs : List Int} (h : xs.length ≤ 1048576) : Sm.ok xs := ⟨h, fun _ _ => trivial⟩

theorem Zet {α : Type} [Rep α] {xs : List α} {k j : Nat} {e : α} (h : j ≠ k) : gx (xs.set k e) j = gx xs j := by
 simp [gx, List.getD, List.getElem?_set_ne (Ne.symm h)]
theorem ZjI {α : Type} [Rep α] {xs ys : List α} (hl : xs.length = ys.length) (h : ∀ k, k < xs.length → gx xs k = gx ys k) : xs = ys := by
 apply List.ext_getElem hl
 intro i h1 h2
 have := h i h1
 rwa [Zbq h1, Zbq h2] at this

theorem Zrv {C : Type} {f : Nat → Unit → Option (Res Unit C)} {N : Nat} (h : ∀ k, k < N → f k () = some (.next ())) : forO f N 0 () = some (.inl ()) := Zjv (fun _ => ()) rfl h

theorem Ztj {α : Type} [Rep α] {f : Nat → List α × Int → Option (Res (List α × Int) Empty)} (a : List α) (j0 B M : Int) (R : α → Int → Int → Prop) (hB : 0 ≤ B) (hM : j0 + B * a.length ≤ M)
  (h : ∀ k s j, k < a.length → s.length = a.length → gx s k = gx a k → j0 ≤ j → j + B ≤ M → ∃ e j', f k (s, j) = some (.next (s.set k e, j')) ∧ j ≤ j' ∧ j' ≤ j + B ∧ R e j j') :
  ∃ (a' : List α) (js : Nat → Int), lpO f a.length (a, j0) = some (a', js a.length) ∧ a'.length = a.length ∧ js 0 = j0 ∧ j0 ≤ js a.length ∧ js a.length ≤ j0 + B * a.length ∧ ∀ k, k < a.length → R (gx a' k) (js k) (js (k + 1)) ∧ j0 ≤ js k := by
 have key : ∀ m k (s : List α) (j : Int), k + m = a.length → s.length = a.length → (∀ i, k ≤ i → i < a.length → gx s i = gx a i) → j0 ≤ j → j ≤ j0 + B * k →
   ∃ (a' : List α) (js : Nat → Int), forO f m k (s, j) = some (.inl (a', js a.length)) ∧ a'.length = a.length ∧ js k = j ∧ j ≤ js a.length ∧ js a.length ≤ j0 + B * a.length ∧ (∀ i, i < k → gx a' i = gx s i) ∧ ∀ i, k ≤ i → i < a.length → R (gx a' i) (js i) (js (i + 1)) ∧ j ≤ js i := by
  intro m
  induction m with
  | zero =>
   intro k s j hk hl _ h0 h1
   have e : k = a.length := by omega
   subst e
   exact ⟨s, fun _ => j, rfl, hl, rfl, Int.le_refl _, h1, fun _ _ => rfl, fun i h1 h2 => by omega⟩
  | succ m ih =>
   intro k s j hk hl hs h0 h1
   have hle : B * (k : Int) + B ≤ B * a.length := by
    have : (k : Int) + 1 ≤ a.length := by omega
    have := Int.mul_le_mul_of_nonneg_left this hB
    rw [Int.mul_add, Int.mul_one] at this
    exact this
   obtain ⟨e, j', hf, g1, g2, hR⟩ := h k s j (by omega) hl (hs k (Nat.le_refl _) (by omega)) h0 (by omega)
   obtain ⟨a', js, i1, i2, i3, i3', i4, i5, i6⟩ := ih (k + 1) (s.set k e) j' (by omega) (by simpa using hl) (fun i h1 h2 => by rw [Zet (by omega)]; exact hs i (by omega) h2) (by omega) (by
    have e1 : B * ((k + 1 : Nat) : Int) = B * k + B := by rw [Int.natCast_add, Int.mul_add]; simp
    rw [e1]; omega)
   refine ⟨a', fun i => if i = k then j else js i, ?_, i2, by simp, ?_, ?_, fun i hi => ?_, fun i h1 h2 => ?_⟩
   ·rw [forO, hf]
    have hne : a.length ≠ k := by omega
    simp only [Option.bind_some, hne, if_false]
    exact i1
   ·have hne : a.length ≠ k := by omega
    simp only [hne, if_false]
    omega
   ·have hne : a.length ≠ k := by omega
    simp only [hne, if_false]
    exact i4
   ·rw [i5 i (by omega), Zet (by omega)]
   ·rcases Nat.eq_or_lt_of_le h1 with e1 | e1
    ·subst e1
     have hne : k + 1 ≠ k := by omega
     simp only [if_true, hne, if_false]
     rw [i3, i5 k (by omega), Zi3 (by omega)]
     exact ⟨hR, Int.le_refl _⟩
    ·have n1 : i ≠ k := by omega
     have n2 : i + 1 ≠ k := by omega
     simp only [n1, n2, if_false]
     obtain ⟨q1, q2⟩ := i6 i (by omega) h2
     exact ⟨q1, by omega⟩
 obtain ⟨a', js, i1, i2, i3, i3', i4, _, i6⟩ := key a.length 0 a j0 (by omega) rfl (fun _ _ _ => rfl) (Int.le_refl _) (by simp)
 refine ⟨a', js, ?_, i2, i3, i3', i4, fun k hk => i6 k (Nat.zero_le _) hk⟩
 unfold lpO
 rw [i1]; rfl
theorem Ztm {C : Type} {f : Nat → Int → Option (Res Int C)} {N : Nat} (js : Nat → Int) {j0 : Int} (h0 : js 0 = j0) (h : ∀ k, k < N → f k (js k) = some (.next (js (k + 1)))) : forO f N 0 j0 = some (.inl (js N)) := Zjv js h0.symm h
theorem Ztp {α : Type} [Rep α] {xs : List α} {P : α → Prop} (h : ∀ k, k < xs.length → P (gx xs k)) : ∀ x ∈ xs, P x := fun x hx => by
 obtain ⟨i, hi, rfl⟩ := List.getElem_of_mem hx
 have := h i hi
 rwa [Zbq hi] at this

instance : Sm GAct := ⟨fun _ => True⟩

instance : Sm GCell := ⟨fun _ => True⟩

instance : Sm GBlock := ⟨fun x => Sm.ok x.Cells⟩

instance : Sm GMember := ⟨fun _ => True⟩

instance : Sm GEntry := ⟨fun x => Sm.ok x.Block⟩

instance : Sm GBooking := ⟨fun _ => True⟩

instance : Sm GGuild := ⟨fun x => Sm.ok x.Members ∧ Sm.ok x.Stock ∧ Sm.ok x.Entries ∧ Sm.ok x.Books⟩

theorem ZsM (a : List Str) (hs : Sm.ok a) : ZdN a a = some true := by
 have hl := ZbR hs
 unfold ZdN
 simp only [bne_self_eq_false, cond_false]
 rw [Za (by omega), Zrv (f := ZeJ a a) (fun k hk => by
  simp [ZeJ, hk, seq, gd])]
 rfl

def inR (x a b : Int) : Bool := decide (x ≥ a) && decide (x ≤ b)
theorem ZT {x a b : Int} : inR x a b = true ↔ a ≤ x ∧ x ≤ b := by simp [inR]
theorem ZpK {x a b : Int} : inR x a b = false ↔ ¬(a ≤ x ∧ x ≤ b) := by rw [← ZT]; simp

@[simp] theorem Zbv (x a b : Int) : ZI x a b = some (inR x a b) := rfl

@[simp] theorem ZaO (x a b : Int) : Zt x a b = some (inR x a b) := rfl

@[simp] theorem ZlC (a : Int) : ZdT a = some (inR a 0 5) := rfl

def Zo (c : GCell) : Bool := inR c.Split 0 2 && inR c.A 0 5 && inR c.B 0 5 && ((c.Split == 0) == (c.A == c.B))

@[simp] theorem Zb0 (c : GCell) : Zby c = some (Zo c) := by
 unfold Zby Zo
 simp only [Zbv, Option.bind_some]
 cases inR c.Split 0 2 <;> cases inR c.A 0 5 <;> cases inR c.B 0 5 <;> simp

@[simp] theorem ZbD (c : GCell) : ZaR c = some (Zo c) := by
 unfold ZaR Zo
 simp only [ZaO, ZlC, Option.bind_some]
 cases inR c.Split 0 2 <;> cases inR c.A 0 5 <;> cases inR c.B 0 5 <;> simp

theorem ZaS {c : GCell} (h : Zo c = true) : 0 ≤ c.Split ∧ c.Split ≤ 2 ∧ 0 ≤ c.A ∧ c.A ≤ 5 ∧ 0 ≤ c.B ∧ c.B ≤ 5 ∧ (c.Split = 0 ↔ c.A = c.B) := by
 simp only [Zo, Bool.and_eq_true, ZT, beq_iff_eq] at h
 obtain ⟨⟨⟨⟨h1, h2⟩, h3, h4⟩, h5, h6⟩, h7⟩ := h
 refine ⟨h1, h2, h3, h4, h5, h6, ?_⟩
 have e1 : (c.Split == 0) = decide (c.Split = 0) := by cases h : c.Split == 0 <;> simp_all
 have e2 : (c.A == c.B) = decide (c.A = c.B) := by cases h : c.A == c.B <;> simp_all
 rw [e1, e2] at h7
 constructor
 ·intro h; simp [h] at h7; exact h7
 ·intro h; simp [h] at h7; exact h7
theorem ZaN {c : GCell} (h1 : 0 ≤ c.Split) (h2 : c.Split ≤ 2) (h3 : 0 ≤ c.A) (h4 : c.A ≤ 5) (h5 : 0 ≤ c.B) (h6 : c.B ≤ 5) (h7 : c.Split = 0 ↔ c.A = c.B) : Zo c = true := by
 have e1 : inR c.Split 0 2 = true := ZT.2 ⟨h1, h2⟩
 have e2 : inR c.A 0 5 = true := ZT.2 ⟨h3, h4⟩
 have e3 : inR c.B 0 5 = true := ZT.2 ⟨h5, h6⟩
 unfold Zo
 rw [e1, e2, e3]
 by_cases h : c.Split = 0
 ·have := h7.1 h; simp [h, this]
 ·have : ¬ c.A = c.B := fun e => h (h7.2 e)
  have q1 : (c.Split == 0) = false := beq_eq_false_iff_ne.2 h
  have q2 : (c.A == c.B) = false := beq_eq_false_iff_ne.2 this
  rw [q1, q2]; rfl

def ZbF (a : Int) : GCell := bif inR a 0 5 then ⟨0, a, a⟩ else ⟨0, 0, 0⟩

@[simp] theorem Znb (a : Int) : ZcV a = some (ZbF a) := by
 unfold ZcV ZbF
 simp only [Zbv, Option.bind_some]
 cases inR a 0 5 <;> rfl

@[simp] theorem Znr (a : Int) : ZcL a = some (ZbF a) := by
 unfold ZcL ZbF
 simp only [ZlC, Option.bind_some]
 cases inR a 0 5 <;> rfl

def Zbm (s a b : Int) : GCell := bif a == b then ZbF a else bif Zo ⟨s, a, b⟩ then ⟨s, a, b⟩ else ⟨0, 0, 0⟩

@[simp] theorem Znl (s a b : Int) : ZdH s a b = some (Zbm s a b) := by
 unfold ZdH Zbm
 simp only [Znb, Zb0, Option.bind_some]
 cases a == b <;> cases Zo ⟨s, a, b⟩ <;> rfl

@[simp] theorem Zm6 (s a b : Int) : Zbf s a b = some (Zbm s a b) := by
 unfold Zbf Zbm
 simp only [Znr, ZbD, Option.bind_some]
 cases a == b <;> cases Zo ⟨s, a, b⟩ <;> rfl

def ZsW : GBlock := ⟨3, [⟨1, 0, 1⟩, ⟨0, 1, 1⟩, ⟨2, 1, 0⟩, ⟨0, 1, 1⟩, ⟨0, 1, 1⟩, ⟨0, 1, 1⟩, ⟨2, 0, 1⟩, ⟨0, 1, 1⟩, ⟨1, 1, 0⟩]⟩

@[simp] theorem spec_StarBlock_eq : Zhl = some ZsW := rfl

@[simp] theorem impl_StarBlock_eq : Zg0 = some ZsW := rfl

def ZbH {α : Type} (h w : Nat) (F : Nat → Nat → α) : List α := (List.range h).flatMap fun y => (List.range w).map fun x => F y x
theorem Zcv {α : Type} (h w : Nat) (F : Nat → Nat → α) : (ZbH h w F).length = h * w := by
 induction h with
 | zero => simp [ZbH]
 | succ h ih =>
  unfold ZbH at ih ⊢
  rw [List.range_succ, List.flatMap_append, List.length_append, ih]
  simp [Nat.add_mul]
theorem Zky {α : Type} (h w : Nat) (F : Nat → Nat → α) : ZbH (h + 1) w F = ZbH h w F ++ (List.range w).map fun x => F h x := by
 simp [ZbH, List.range_succ]
theorem Zpn {α : Type} {h w : Nat} {F : Nat → Nat → α} {P : α → Prop} (hF : ∀ y x, y < h → x < w → P (F y x)) : ∀ c ∈ ZbH h w F, P c := by
 intro c hc
 simp only [ZbH, List.mem_flatMap, List.mem_map, List.mem_range] at hc
 obtain ⟨y, hy, x, hx, rfl⟩ := hc
 exact hF y x hy hx
theorem ZsZ {α : Type} {f1 : Nat → List α → Option (Res (List α) Empty)} {f2 : Nat → Nat → List α → Option (Res (List α) Empty)} {h w : Nat} (F : Nat → Nat → α) (h1 : ∀ k s, f1 k s = (lpO (f2 k) w s).bind fun e => some (.next e))
  (h2 : ∀ k1 k2 s, k1 < h → k2 < w → s.length < h * w → f2 k1 k2 s = some (.next (s ++ [F k1 k2]))) : lpO f1 h [] = some (ZbH h w F) := by
 refine (Zvs (xs := []) (fun y => (List.range w).map fun x => F y x) fun k s hk hs => ?_).trans (by simp [ZbH])
 have hl : s.length = k * w := by
  rw [hs, List.nil_append]; exact Zcv k w F
 rw [h1, ZbN (xs := s) (fun x => F k x) fun k2 s2 hk2 hs2 => h2 k k2 s2 hk hk2 (by
  have := Nat.mul_le_mul_right w (show k + 1 ≤ h from hk)
  rw [Nat.add_mul] at this; omega)]
 rfl

theorem Zqf (n : Nat) (one : Int → Int → Option GCell) (F : Nat → Nat → GCell) (hn : n ≤ 1000) (h : ∀ y x : Nat, y < n → x < n → one (x : Int) (y : Int) = some (F y x)) : Zff (n : Int) one = some ⟨n, ZbH n n F⟩ := by
 unfold Zff
 have hN : ((n : Int)).toNat = n := by simp
 rw [hN, Za (by omega), ZsZ (f1 := Zh8 n one) (f2 := Zh7 one) (h := n) (w := n) F (fun k s => by simp only [Zh8, hN]) (fun k1 k2 s h1 h2 h3 => by
  have : n * n ≤ 1000 * 1000 := Nat.mul_le_mul hn hn
  simp only [Zh7, h k1 k2 h1 h2, Option.bind_some]
  rw [Za (by omega)])]
 rfl

def Ze (b : GBlock) : Bool := inR b.Size 1 4 && ((b.Cells.length : Int) == b.Size * b.Size) && b.Cells.all Zo
theorem Zh6 {n : Int} (h : inR n 1 4 = true) : n = 1 ∨ n = 2 ∨ n = 3 ∨ n = 4 := by
 rw [ZT] at h; omega

@[simp] theorem Z7 (b : GBlock) : Z9 b = some (Ze b) := by
 unfold Z9 Ze
 simp only [Zbv, Option.bind_some]
 cases h : inR b.Size 1 4
 ·rfl
 ·have hw : wr (b.Size * b.Size) = b.Size * b.Size := by rcases Zh6 h with e | e | e | e <;> rw [e] <;> decide
  rw [hw]
  cases hl : ((b.Cells.length : Int) == b.Size * b.Size)
  ·have : (((b.Cells.length : Nat) : Int) != b.Size * b.Size) = true := by simp [bne, hl]
   simp [this]
  ·have hl' : (b.Cells.length : Int) = b.Size * b.Size := by simpa using hl
   have : (((b.Cells.length : Nat) : Int) != b.Size * b.Size) = false := by simp [bne, hl]
   simp only [this, Bool.not_true, cond_false, Option.bind_some]
   rw [Za (by rcases Zh6 h with e | e | e | e <;> rw [e] at hl' <;> omega), Zbi (f := Zgv b) (fun k => Zo (gx b.Cells k)) (fun k hk => by
    simp only [Zgv, Zb0, Option.bind_some]; cases Zo (gx b.Cells k) <;> rfl), ZkY]
   cases b.Cells.all Zo <;> rfl

@[simp] theorem ZV (b : GBlock) : ZY b = some (Ze b) := by
 unfold ZY Ze
 simp only [ZaO, Option.bind_some]
 cases h : inR b.Size 1 4
 ·rfl
 ·have hw : wr (b.Size * b.Size) = b.Size * b.Size := by rcases Zh6 h with e | e | e | e <;> rw [e] <;> decide
  rw [hw]
  cases hl : ((b.Cells.length : Int) == b.Size * b.Size)
  ·have : (((b.Cells.length : Nat) : Int) != b.Size * b.Size) = true := by simp [bne, hl]
   simp [this]
  ·have hl' : (b.Cells.length : Int) = b.Size * b.Size := by simpa using hl
   have : (((b.Cells.length : Nat) : Int) != b.Size * b.Size) = false := by simp [bne, hl]
   simp only [this, Bool.not_true, cond_false, Option.bind_some]
   rw [Za (by rcases Zh6 h with e | e | e | e <;> rw [e] at hl' <;> omega), Zbi (f := Zgn b) (fun k => Zo (gx b.Cells k)) (fun k hk => by
    simp only [Zgn, ZbD, Option.bind_some]; cases Zo (gx b.Cells k) <;> rfl), ZkY]
   cases b.Cells.all Zo <;> rfl

theorem Zu {b : GBlock} (h : Ze b = true) : ∃ n : Nat, b.Size = n ∧ 1 ≤ n ∧ n ≤ 4 ∧ b.Cells.length = n * n ∧ ∀ c ∈ b.Cells, Zo c = true := by
 simp only [Ze, Bool.and_eq_true, beq_iff_eq, List.all_eq_true] at h
 obtain ⟨⟨h1, h2⟩, h3⟩ := h
 rcases Zh6 h1 with e | e | e | e <;> rw [e] at h2
 ·exact ⟨1, e, by omega, by omega, by omega, h3⟩
 ·exact ⟨2, e, by omega, by omega, by omega, h3⟩
 ·exact ⟨3, e, by omega, by omega, by omega, h3⟩
 ·exact ⟨4, e, by omega, by omega, by omega, h3⟩
theorem Zjp {n : Nat} {cs : List GCell} (h1 : 1 ≤ n) (h2 : n ≤ 4) (hl : cs.length = n * n) (hc : ∀ c ∈ cs, Zo c = true) : Ze ⟨n, cs⟩ = true := by
 simp only [Ze, Bool.and_eq_true, beq_iff_eq, List.all_eq_true]
 exact ⟨⟨ZT.2 ⟨by omega, by omega⟩, by rw [hl]; simp⟩, hc⟩
theorem Zdr {b : GBlock} (h : Ze b = true) : Sm.ok b := by
 obtain ⟨n, _, h1, h2, hl, _⟩ := Zu h
 have : n * n ≤ 4 * 4 := Nat.mul_le_mul h2 h2
 exact ⟨by omega, fun _ _ => trivial⟩
def Zac (c : GCell) : GCell := bif Zo c then (bif c.Split == 1 then ⟨2, c.B, c.A⟩ else bif c.Split == 2 then ⟨1, c.A, c.B⟩ else c) else ⟨0, 0, 0⟩
theorem ZnB {c : GCell} (h : Zo c = true) : Zo (Zac c) = true := by
 obtain ⟨h1, h2, h3, h4, h5, h6, h7⟩ := ZaS h
 unfold Zac
 rw [h]
 by_cases e1 : c.Split = 1
 ·simp only [e1, beq_self_eq_true, cond_true]
  exact ZaN (show (0 : Int) ≤ 2 by decide) (show (2 : Int) ≤ 2 by decide) h5 h6 h3 h4 ⟨fun h => by simp at h, fun h => by have := h7.2 h.symm; omega⟩
 ·by_cases e2 : c.Split = 2
  ·have : (c.Split == 1) = false := by simp [e1]
   simp only [e2, cond_true, cond_false, beq_self_eq_true, show ((2 : Int) == 1) = false from rfl]
   exact ZaN (show (0 : Int) ≤ 1 by decide) (show (1 : Int) ≤ 2 by decide) h3 h4 h5 h6 ⟨fun h => by simp at h, fun h => by have := h7.2 h; omega⟩
  ·rw [beq_eq_false_iff_ne.2 e1, beq_eq_false_iff_ne.2 e2]; exact h

@[simp] theorem ZnU (c : GCell) : ZfJ c = some (Zac c) := by
 unfold ZfJ Zac
 simp only [Zb0, Option.bind_some]
 cases Zo c <;> cases c.Split == 1 <;> cases c.Split == 2 <;> rfl

@[simp] theorem ZnN (c : GCell) : ZfW c = some (Zac c) := by
 unfold ZfW Zac
 simp only [ZbD, Option.bind_some]
 cases Zo c <;> cases c.Split == 1 <;> cases c.Split == 2 <;> rfl

def ZP (c : GCell) : GCell := bif Zo c then (bif c.Split == 0 then c else ⟨3 - c.Split, c.B, c.A⟩) else ⟨0, 0, 0⟩
theorem ZlH {c : GCell} (h : Zo c = true) : Zo (ZP c) = true := by
 obtain ⟨h1, h2, h3, h4, h5, h6, h7⟩ := ZaS h
 unfold ZP
 rw [h]
 by_cases e0 : c.Split = 0
 ·simp [e0, h]
 ·have : (c.Split == 0) = false := by simp [e0]
  simp only [this, cond_true, cond_false]
  exact ZaN (by simp only; omega) (by simp only; omega) h5 h6 h3 h4 ⟨fun h => by simp only at h; omega, fun h => absurd (h7.2 h.symm) e0⟩

@[simp] theorem Zmg (c : GCell) : Zes c = some (ZP c) := by
 unfold Zes ZP
 simp only [Zb0, Option.bind_some]
 cases h : Zo c
 ·rfl
 ·obtain ⟨h1, h2, _⟩ := ZaS h
  rw [Z6 (by omega) (by omega)]
  cases c.Split == 0 <;> rfl

@[simp] theorem Zl7 (c : GCell) : Zen c = some (ZP c) := by
 unfold Zen ZP
 simp only [ZbD, Option.bind_some]
 cases h : Zo c
 ·rfl
 ·obtain ⟨h1, h2, _⟩ := ZaS h
  rw [Z6 (by omega) (by omega)]
  cases c.Split == 0 <;> rfl

def ZmM (b : GBlock) (x y : Int) : GCell := bif Ze b && inR x 0 (b.Size - 1) && inR y 0 (b.Size - 1) then gx b.Cells (y * b.Size + x).toNat else ⟨0, 0, 0⟩
theorem ZiZ {n y x : Nat} (hy : y < n) (hx : x < n) : y * n + x < n * n := by
 have := Nat.mul_le_mul_right n (show y + 1 ≤ n from hy)
 rw [Nat.add_mul] at this; omega
theorem Zvy {h w y x : Nat} (hy : y < h) (hx : x < w) : y * w + x < h * w := by
 have := Nat.mul_le_mul_right w (show y + 1 ≤ h from hy)
 rw [Nat.add_mul] at this; omega
theorem ZiM {b : GBlock} {n x y : Nat} (h : Ze b = true) (hn : b.Size = n) (hx : x < n) (hy : y < n) : ZmM b x y = gx b.Cells (y * n + x) := by
 have e1 : inR (x : Int) 0 (b.Size - 1) = true := ZT.2 ⟨by omega, by omega⟩
 have e2 : inR (y : Int) 0 (b.Size - 1) = true := ZT.2 ⟨by omega, by omega⟩
 have e3 : ((y : Int) * b.Size + x).toNat = y * n + x := by
  rw [hn]
  have : ((y : Int) * (n : Int) + (x : Int)) = ((y * n + x : Nat) : Int) := by simp
  rw [this, Int.toNat_natCast]
 simp [ZmM, h, e1, e2, e3]

theorem ZoY (b : GBlock) (x y : Int) : ZcZ b x y = some (Ze b && inR x 0 (b.Size - 1) && inR y 0 (b.Size - 1)) := by
 unfold ZcZ
 simp only [ZV, ZaO, Option.bind_some]
 cases h : Ze b
 ·rfl
 ·obtain ⟨n, hn, h1, h2, _⟩ := Zu h
  rw [Z6 (by omega) (by omega)]
  cases inR x 0 (b.Size - 1) <;> cases inR y 0 (b.Size - 1) <;> rfl

@[simp] theorem Zhi (b : GBlock) (x y : Int) : ZdE b x y = some (ZmM b x y) := by
 unfold ZdE ZmM
 simp only [ZoY, Option.bind_some]
 cases h : (Ze b && inR x 0 (b.Size - 1) && inR y 0 (b.Size - 1))
 ·rfl
 ·simp only [Bool.and_eq_true, ZT] at h
  obtain ⟨⟨h0, hx⟩, hy⟩ := h
  obtain ⟨n, hn, h1, h2, hl, _⟩ := Zu h0
  rw [hn] at hx hy ⊢
  obtain ⟨x', rfl⟩ := Int.eq_ofNat_of_zero_le hx.1
  obtain ⟨y', rfl⟩ := Int.eq_ofNat_of_zero_le hy.1
  have hlt : y' * n + x' < n * n := ZiZ (by omega) (by omega)
  have hnn : n * n ≤ 4 * 4 := Nat.mul_le_mul h2 h2
  have hy' : y' * n ≤ n * n := by omega
  have e : wr (wr ((y' : Int) * (n : Int)) + (x' : Int)) = ((y' * n + x' : Nat) : Int) := by
   have : (y' : Int) * (n : Int) = ((y' * n : Nat) : Int) := by simp
   rw [this, Z6 (n := ((y' * n : Nat) : Int)) (by omega) (by omega), Z6 (by omega) (by omega)]; simp
  have e' : ((y' : Int) * (n : Int) + (x' : Int)) = ((y' * n + x' : Nat) : Int) := by simp
  rw [e, e', Za ⟨by omega, by omega⟩]
  rfl

def Zbl (b : GBlock) : GBlock := bif Ze b then ⟨b.Size, ZbH b.Size.toNat b.Size.toNat fun y x => Zac (gx b.Cells ((b.Size.toNat - 1 - x) * b.Size.toNat + y))⟩ else ⟨0, []⟩
theorem ZrD {b : GBlock} (h : Ze b = true) : Ze (Zbl b) = true := by
 obtain ⟨n, hn, h1, h2, hl, hc⟩ := Zu h
 unfold Zbl
 rw [h, hn]
 simp only [cond_true, Int.toNat_natCast]
 exact Zjp h1 h2 (Zcv _ _ _) (Zpn fun y x hy hx => ZnB (hc _ (Z3 (by rw [hl]; exact ZiZ (by omega) hy))))
theorem ZpM (b : GBlock) (h : Ze b = true) : (Zbl b).Size = b.Size := by simp [Zbl, h]
theorem Zt9 {n y x : Nat} (h1 : 1 ≤ n) (h2 : n ≤ 4) (hy : y < n) (hx : x < n) : wr ((wr ((wr ((wr ((n : Int) - 1)) - (x : Int))) * (n : Int))) + (y : Int)) = (((n - 1 - x) * n + y : Nat) : Int) := by
 have hn : n = 1 ∨ n = 2 ∨ n = 3 ∨ n = 4 := by omega
 rcases hn with rfl | rfl | rfl | rfl <;> simp (disch := omega) only [Z6] <;> omega
theorem ZsL {n y x : Nat} (h1 : 1 ≤ n) (h2 : n ≤ 4) (hy : y < n) (hx : x < n) : wr ((wr ((wr ((wr ((y : Int) * (n : Int))) + (n : Int))) - 1)) - (x : Int)) = ((y * n + (n - 1 - x) : Nat) : Int) := by
 have hn : n = 1 ∨ n = 2 ∨ n = 3 ∨ n = 4 := by omega
 rcases hn with rfl | rfl | rfl | rfl <;> simp (disch := omega) only [Z6] <;> omega

@[simp] theorem Znm (b : GBlock) : Ze3 b = some (Zbl b) := by
 unfold Ze3 Zbl
 simp only [Z7, Option.bind_some]
 cases h : Ze b
 ·rfl
 ·obtain ⟨n, hn, h1, h2, hl, hc⟩ := Zu h
  have hN : b.Size.toNat = n := by rw [hn]; simp
  have hnn : n * n ≤ 4 * 4 := Nat.mul_le_mul h2 h2
  simp only [hN, Bool.not_true, cond_false, cond_true]
  rw [Za (by omega), ZsZ (f1 := ZeM b) (f2 := ZeA b) (h := n) (w := n) (fun y x => Zac (gx b.Cells ((n - 1 - x) * n + y))) (fun k s => by simp only [ZeM, hN]) (fun y x s hy hx hs => by
   have hlt : (n - 1 - x) * n + y < n * n := ZiZ (by omega) hy
   simp only [ZeA, hn, Zt9 h1 h2 hy hx, Int.toNat_natCast, ZnU, Option.bind_some]
   rw [Za ⟨by omega, by omega⟩, Za (by omega)])]
  rfl

@[simp] theorem Zne (b : GBlock) : ZeU b = some (Zbl b) := by
 unfold ZeU Zbl
 simp only [ZV, Option.bind_some]
 cases h : Ze b
 ·rfl
 ·obtain ⟨n, hn, h1, h2, hl, hc⟩ := Zu h
  simp only [Bool.not_true, cond_false, cond_true, hn, Int.toNat_natCast]
  rw [Zqf n _ (fun y x => Zac (gx b.Cells ((n - 1 - x) * n + y))) (by omega) (fun y x hy hx => by
   have e : wr (wr ((n : Int) - 1) - (x : Int)) = ((n - 1 - x : Nat) : Int) := by simp (disch := omega) only [Z6]; omega
   simp only [Zdf, hn, e, Zhi, ZnN, Option.bind_some]
   rw [ZiM h hn hy (by omega)])]
  rfl

def ZaQ (b : GBlock) : GBlock := bif Ze b then ⟨b.Size, ZbH b.Size.toNat b.Size.toNat fun y x => ZP (gx b.Cells (y * b.Size.toNat + (b.Size.toNat - 1 - x)))⟩ else ⟨0, []⟩
theorem ZiD {b : GBlock} (h : Ze b = true) : Ze (ZaQ b) = true := by
 obtain ⟨n, hn, h1, h2, hl, hc⟩ := Zu h
 unfold ZaQ
 rw [h, hn]
 simp only [cond_true, Int.toNat_natCast]
 exact Zjp h1 h2 (Zcv _ _ _) (Zpn fun y x hy hx => ZlH (hc _ (Z3 (by rw [hl]; exact ZiZ hy (by omega)))))
theorem Zob (b : GBlock) (h : Ze b = true) : (ZaQ b).Size = b.Size := by simp [ZaQ, h]

@[simp] theorem ZlZ (b : GBlock) : ZdV b = some (ZaQ b) := by
 unfold ZdV ZaQ
 simp only [Z7, Option.bind_some]
 cases h : Ze b
 ·rfl
 ·obtain ⟨n, hn, h1, h2, hl, hc⟩ := Zu h
  have hN : b.Size.toNat = n := by rw [hn]; simp
  have hnn : n * n ≤ 4 * 4 := Nat.mul_le_mul h2 h2
  simp only [hN, Bool.not_true, cond_false, cond_true]
  rw [Za (by omega), ZsZ (f1 := Zd0 b) (f2 := Zd6 b) (h := n) (w := n) (fun y x => ZP (gx b.Cells (y * n + (n - 1 - x)))) (fun k s => by simp only [Zd0, hN]) (fun y x s hy hx hs => by
   have hlt : y * n + (n - 1 - x) < n * n := ZiZ hy (by omega)
   simp only [Zd6, hn, ZsL h1 h2 hy hx, Int.toNat_natCast, Zmg, Option.bind_some]
   rw [Za ⟨by omega, by omega⟩, Za (by omega)])]
  rfl

@[simp] theorem Zl3 (b : GBlock) : ZdS b = some (ZaQ b) := by
 unfold ZdS ZaQ
 simp only [ZV, Option.bind_some]
 cases h : Ze b
 ·rfl
 ·obtain ⟨n, hn, h1, h2, hl, hc⟩ := Zu h
  simp only [Bool.not_true, cond_false, cond_true, hn, Int.toNat_natCast]
  rw [Zqf n _ (fun y x => ZP (gx b.Cells (y * n + (n - 1 - x)))) (by omega) (fun y x hy hx => by
   have e : wr (wr ((n : Int) - 1) - (x : Int)) = ((n - 1 - x : Nat) : Int) := by simp (disch := omega) only [Z6]; omega
   simp only [ZcE, hn, e, Zhi, Zl7, Option.bind_some]
   rw [ZiM h hn (by omega) hy])]
  rfl

def ZcF : Nat → GBlock → GBlock
 | 0, b => b
 | k + 1, b => Zbl (ZcF k b)
def Z1 (b : GBlock) (k : Int) : GBlock := bif Ze b && inR k 0 7 then ZcF (k.tmod 4).toNat (bif decide (k ≥ 4) then ZaQ b else b) else ⟨0, []⟩
theorem ZjN {b : GBlock} (h : Ze b = true) : ∀ k, Ze (ZcF k b) = true ∧ (ZcF k b).Size = b.Size
 | 0 => ⟨h, rfl⟩
 | k + 1 => by
  obtain ⟨h1, h2⟩ := ZjN h k
  exact ⟨ZrD h1, by rw [ZcF, ZpM _ h1, h2]⟩
theorem ZpX {b : GBlock} {k : Int} (h : Ze b = true) (hk : inR k 0 7 = true) : Ze (Z1 b k) = true ∧ (Z1 b k).Size = b.Size := by
 unfold Z1
 rw [h, hk]
 cases hd : decide (k ≥ 4)
 ·exact ZjN h _
 ·obtain ⟨h1, h2⟩ := ZjN (ZiD h) (k.tmod 4).toNat
  exact ⟨h1, by rw [← Zob b h]; exact h2⟩
theorem ZuS {k : Int} (hk : inR k 0 7 = true) : (k.tmod 4).toNat ≤ 3 := by
 rw [ZT] at hk
 have : k.tmod 4 = k % 4 := by rw [Int.tmod_eq_emod_of_nonneg hk.1]
 omega

@[simp] theorem ZjV (b : GBlock) (k : Int) : Zel b k = some (Z1 b k) := by
 unfold Zel Z1
 simp only [Z7, Zbv, Option.bind_some]
 cases h : Ze b
 ·rfl
 ·cases hk : inR k 0 7
  ·rfl
  ·have hs := (Zdr h).1
   have ht := ZuS hk
   have hc : Zba b = some b := by
    unfold Zba
    rw [Za (by simp; omega)]; simp
   simp only [hc, ZlZ, Option.bind_some, Bool.not_true, cond_false]
   have key : ∀ b0 : GBlock, lpO Zfo (k.tmod 4).toNat (b0.Size, b0.Cells) = some ((ZcF (k.tmod 4).toNat b0).Size, (ZcF (k.tmod 4).toNat b0).Cells) := fun b0 =>
    ZaG (fun j => ((ZcF j b0).Size, (ZcF j b0).Cells)) rfl fun j _ => by
     simp only [Zfo, Znm, Option.bind_some]; rfl
   cases decide (k ≥ 4) <;> simp only [cond_true, cond_false, Option.bind_some] <;> rw [Za (by omega), key] <;> rfl

@[simp] theorem Zn5 (b : GBlock) (k : Int) : ZfR b k = some (Z1 b k) := by
 unfold ZfR Z1
 simp only [ZV, ZaO, Option.bind_some]
 cases h : Ze b
 ·rfl
 ·cases hk : inR k 0 7
  ·rfl
  ·have hs := (Zdr h).1
   have ht := ZuS hk
   have hc : Zam b = some b := by
    unfold Zam
    rw [Za (by simp; omega)]; simp
   simp only [hc, Zl3, Option.bind_some, Bool.not_true, cond_false]
   have key : ∀ b0 : GBlock, lpO Zfv (k.tmod 4).toNat (b0.Size, b0.Cells) = some ((ZcF (k.tmod 4).toNat b0).Size, (ZcF (k.tmod 4).toNat b0).Cells) := fun b0 =>
    ZaG (fun j => ((ZcF j b0).Size, (ZcF j b0).Cells)) rfl fun j _ => by
     simp only [Zfv, Zne, Option.bind_some]; rfl
   cases decide (k ≥ 4) <;> simp only [cond_true, cond_false, Option.bind_some] <;> rw [Za (by omega), key] <;> rfl

theorem Zqb (n : Int) : ∃ w, ZdQ n = some w ∧ ZdO n = some w ∧ Sm.ok w := by
 unfold ZdQ ZdO
 by_cases h0 : n = 0
 ·exact ⟨ZsW, by simp [h0], by simp [h0], by decide, fun _ _ => trivial⟩
 ·have e0 : (n == 0) = false := by simp [h0]
  cases h1 : inR n 1 9
  ·exact ⟨⟨0, []⟩, by simp [e0, h1], by simp [e0, h1], by simp, fun _ h => by simp at h⟩
  ·rw [ZT] at h1
   have h2 : n = 1 ∨ n = 2 ∨ n = 3 ∨ n = 4 ∨ n = 5 ∨ n = 6 ∨ n = 7 ∨ n = 8 ∨ n = 9 := by omega
   rcases h2 with rfl | rfl | rfl | rfl | rfl | rfl | rfl | rfl | rfl <;> exact ⟨_, rfl, rfl, by decide, fun _ _ => trivial⟩

theorem ZrM {α β : Type} [Rep α] [Rep β] (F : α → β) {xs : List α} {k : Nat} (h : k < xs.length) : gx (xs.map F) k = F (gx xs k) := by
 rw [Zbq (by simpa using h), Zbq h]; simp

def isum : List Int → Int
 | [] => 0
 | x :: r => x + isum r
theorem Zkx : ∀ xs ys : List Int, isum (xs ++ ys) = isum xs + isum ys
 | [], ys => by simp [isum]
 | x :: r, ys => by simp [isum, Zkx r ys]; omega
theorem Zjj {B : Int} : ∀ {xs : List Int}, (∀ x ∈ xs, 0 ≤ x ∧ x ≤ B) → 0 ≤ isum xs ∧ isum xs ≤ B * xs.length
 | [], _ => by simp [isum]
 | x :: r, h => by
  obtain ⟨h1, h2⟩ := Zjj (xs := r) fun y hy => h y (by simp [hy])
  obtain ⟨h3, h4⟩ := h x (by simp)
  have e : B * ((x :: r).length : Int) = B * r.length + B := by
   rw [List.length_cons, Int.natCast_add, Int.mul_add]; simp
  rw [e]
  simp only [isum]; omega
theorem ZkL {f : Nat → Int → Option (Res Int Empty)} {N : Nat} (g : Nat → Int) {s0 B : Int} (h : ∀ k s, k < N → 0 ≤ s → s + B ≤ 4611686018427387904 → f k s = some (.next (s + g k))) (hg : ∀ k, k < N → 0 ≤ g k ∧ g k ≤ B) (hB : 0 ≤ B) (h0 : 0 ≤ s0) (hN : s0 + B * N ≤ 4611686018427387904) : lpO f N s0 = some (s0 + isum ((List.range N).map g)) :=
 ZaG (fun k => s0 + isum ((List.range k).map g)) (by simp [isum]) fun k hk => by
  have hb := Zjj (B := B) (xs := (List.range k).map g) fun x hx => by
   simp only [List.mem_map, List.mem_range] at hx
   obtain ⟨i, hi, rfl⟩ := hx
   exact hg i (by omega)
  have hmul : B * ((k + 1 : Nat) : Int) ≤ B * N := Int.mul_le_mul_of_nonneg_left (by omega) hB
  have hm1 : B * ((k + 1 : Nat) : Int) = B * k + B := by rw [Int.natCast_add, Int.mul_add]; simp
  simp only [List.length_map, List.length_range] at hb
  have e : isum ((List.range (k + 1)).map g) = isum ((List.range k).map g) + g k := by
   rw [List.range_succ, List.map_append, Zkx]; simp [isum]
  rw [h k _ hk (by omega) (by omega), e, Int.add_assoc]

def arM (a : Int) (c : GCell) : Int := (bif c.A == a then 2 else 0) + (bif c.B == a then 2 else 0)
theorem ZiC (a : Int) (c : GCell) : 0 ≤ arM a c ∧ arM a c ≤ 4 := by unfold arM; cases c.A == a <;> cases c.B == a <;> simp
def Zah (b : GBlock) (a : Int) : Int := bif Ze b then isum (b.Cells.map (arM a)) else 0

theorem ZnK {c : GCell} (h : Zo c = true) (a : Int) : ZfN c a = some (arM a c) := by
 unfold ZfN arM
 simp only [Zb0, Option.bind_some, h]
 cases c.A == a <;> cases c.B == a <;> rfl

theorem ZnI {c : GCell} (h : Zo c = true) (a : Int) : ZfZ c a = some (arM a c) := by
 unfold ZfZ arM
 simp only [ZbD, Option.bind_some, h]
 cases c.A == a <;> cases c.B == a <;> rfl

@[simp] theorem Zp1 (b : GBlock) (a : Int) : ZhC b a = some (Zah b a) := by
 unfold ZhC Zah
 simp only [Z7, Option.bind_some]
 cases h : Ze b
 ·rfl
 ·obtain ⟨n, hn, h1, h2, hl, hc⟩ := Zu h
  have hnn : n * n ≤ 4 * 4 := Nat.mul_le_mul h2 h2
  simp only [Bool.not_true, cond_false, cond_true]
  rw [Za (by omega), ZkL (f := Zg9 b a) (fun k => arM a (gx b.Cells k)) (B := 4) (fun k s hk g0 g1 => by
   have := ZiC a (gx b.Cells k)
   simp only [Zg9, ZnK (hc _ (Z3 hk)), Option.bind_some]
   rw [Z6 (by omega) (by omega)]) (fun k _ => ZiC _ _) (by omega) (by omega) (by omega), Zdj]
  simp

@[simp] theorem ZkZ (b : GBlock) (a : Int) : Zf6 b a = some (Zah b a) := by
 unfold Zf6 Zah
 simp only [ZV, Option.bind_some]
 cases h : Ze b
 ·rfl
 ·obtain ⟨n, hn, h1, h2, hl, hc⟩ := Zu h
  have hnn : n * n ≤ 4 * 4 := Nat.mul_le_mul h2 h2
  simp only [Bool.not_true, cond_false, cond_true]
  rw [Za (by omega), ZkL (f := Zhj b a) (fun k => arM a (gx b.Cells k)) (B := 4) (fun k s hk g0 g1 => by
   have := ZiC a (gx b.Cells k)
   simp only [Zhj, ZnI (hc _ (Z3 hk)), Option.bind_some]
   rw [Z6 (by omega) (by omega)]) (fun k _ => ZiC _ _) (by omega) (by omega) (by omega), Zdj]
  simp

theorem Zlc (b : GBlock) (a : Int) : 0 ≤ Zah b a ∧ Zah b a ≤ 64 := by
 unfold Zah
 cases h : Ze b
 ·simp
 ·obtain ⟨n, hn, h1, h2, hl, hc⟩ := Zu h
  have hnn : n * n ≤ 4 * 4 := Nat.mul_le_mul h2 h2
  have := Zjj (B := 4) (xs := b.Cells.map (arM a)) fun x hx => by
   simp only [List.mem_map] at hx
   obtain ⟨c, _, rfl⟩ := hx
   exact ZiC a c
  simp only [List.length_map] at this
  simp only [cond_true]
  omega
theorem Zua (f : GCell → Int) (hf : ∀ c, Zo c = true → f (Zac c) = f c) {b : GBlock} (h : Ze b = true) : isum ((Zbl b).Cells.map f) = isum (b.Cells.map f) := by
 obtain ⟨n, hn, h1, h2, hl, hc⟩ := Zu h
 unfold Zbl
 rw [h, hn]
 simp only [cond_true, Int.toNat_natCast]
 have e : ∀ m, b.Cells.length = m → isum (b.Cells.map f) = isum ((List.range m).map fun i => f (gx b.Cells i)) := by rintro m rfl; rw [Zdj]
 rw [e _ hl]
 have hfi : ∀ i, i < n * n → f (Zac (gx b.Cells i)) = f (gx b.Cells i) := fun i hi => hf _ (hc _ (Z3 (by omega)))
 have hn' : n = 1 ∨ n = 2 ∨ n = 3 ∨ n = 4 := by omega
 rcases hn' with rfl | rfl | rfl | rfl <;> simp (disch := omega) [ZbH, List.range, List.range.loop, isum, hfi] <;> omega
theorem ZsS (f : GCell → Int) (hf : ∀ c, Zo c = true → f (ZP c) = f c) {b : GBlock} (h : Ze b = true) : isum ((ZaQ b).Cells.map f) = isum (b.Cells.map f) := by
 obtain ⟨n, hn, h1, h2, hl, hc⟩ := Zu h
 unfold ZaQ
 rw [h, hn]
 simp only [cond_true, Int.toNat_natCast]
 have e : ∀ m, b.Cells.length = m → isum (b.Cells.map f) = isum ((List.range m).map fun i => f (gx b.Cells i)) := by rintro m rfl; rw [Zdj]
 rw [e _ hl]
 have hfi : ∀ i, i < n * n → f (ZP (gx b.Cells i)) = f (gx b.Cells i) := fun i hi => hf _ (hc _ (Z3 (by omega)))
 have hn' : n = 1 ∨ n = 2 ∨ n = 3 ∨ n = 4 := by omega
 rcases hn' with rfl | rfl | rfl | rfl <;> simp (disch := omega) [ZbH, List.range, List.range.loop, isum, hfi] <;> omega
theorem Zub (f : GCell → Int) (ht : ∀ c, Zo c = true → f (Zac c) = f c) (hm : ∀ c, Zo c = true → f (ZP c) = f c) {b : GBlock} {k : Int} (h : Ze b = true) (hk : inR k 0 7 = true) : isum ((Z1 b k).Cells.map f) = isum (b.Cells.map f) := by
 have turns : ∀ (b0 : GBlock), Ze b0 = true → ∀ j, isum ((ZcF j b0).Cells.map f) = isum (b0.Cells.map f) := fun b0 h0 j => by
  induction j with
  | zero => rfl
  | succ j ih => rw [ZcF, Zua f ht (ZjN h0 j).1, ih]
 unfold Z1
 rw [h, hk]
 cases decide (k ≥ 4)
 ·exact turns b h _
 ·exact (turns _ (ZiD h) _).trans (ZsS f hm h)

theorem Zvl (a : Int) {c : GCell} (h : Zo c = true) : arM a (Zac c) = arM a c := by
 unfold Zac arM
 rw [h]
 by_cases e1 : c.Split = 1
 ·simp only [e1, cond_true, beq_self_eq_true]; omega
 ·by_cases e2 : c.Split = 2
  ·simp [e2]
  ·rw [beq_eq_false_iff_ne.2 e1, beq_eq_false_iff_ne.2 e2]; rfl
theorem Ztc (a : Int) {c : GCell} (h : Zo c = true) : arM a (ZP c) = arM a c := by
 unfold ZP arM
 rw [h]
 by_cases e0 : c.Split = 0
 ·simp [e0]
 ·have : (c.Split == 0) = false := by simp [e0]
  simp only [this, cond_true, cond_false]; omega
theorem Zt3 {b : GBlock} {k : Int} (a : Int) (h : Ze b = true) (hk : inR k 0 7 = true) : Zah (Z1 b k) a = Zah b a := by
 unfold Zah
 rw [h, (ZpX h hk).1]
 exact Zub _ (fun c hc => Zvl a hc) (fun c hc => Ztc a hc) h hk
def sumN (m : Nat) (F : Nat → Int) : Int := isum ((List.range m).map F)
theorem Zt1 (F : Nat → Int) : sumN 0 F = 0 := rfl
theorem ZhW (m : Nat) (F : Nat → Int) : sumN (m + 1) F = sumN m F + F m := by
 unfold sumN
 rw [List.range_succ, List.map_append, Zkx]; simp [isum]
theorem Zuz (m : Nat) (F G : Nat → Int) : sumN m (fun i => F i + G i) = sumN m F + sumN m G := by
 induction m with
 | zero => rfl
 | succ m ih => rw [ZhW, ZhW, ZhW, ih]; omega
theorem Zji {m : Nat} {F G : Nat → Int} (h : ∀ i, i < m → F i = G i) : sumN m F = sumN m G := by
 unfold sumN
 congr 1
 exact List.map_congr_left fun i hi => h i (by simpa using hi)
theorem Zuw (m : Nat) : sumN m (fun _ => 0) = 0 := by
 induction m with
 | zero => rfl
 | succ m ih => rw [ZhW, ih]; rfl
theorem Zhf {m : Nat} {F : Nat → Int} {B : Int} (h : ∀ i, i < m → 0 ≤ F i ∧ F i ≤ B) : 0 ≤ sumN m F ∧ sumN m F ≤ B * m := by
 have := Zjj (B := B) (xs := (List.range m).map F) fun x hx => by
  simp only [List.mem_map, List.mem_range] at hx
  obtain ⟨i, hi, rfl⟩ := hx
  exact h i hi
 simpa [sumN] using this
theorem ZdX {α : Type} [Rep α] (F : Nat → α) {m i : Nat} (h : i < m) : gx ((List.range m).map F) i = F i := by
 rw [Zbq (by simpa using h)]; simp

theorem ZiH {k N : Nat} (hk : k < N) (hN : N ≤ 4611686018427387904) (h0 : decide ((k : Int) > 0) = true) : wr ((k : Int) - 1) = ((k - 1 : Nat) : Int) ∧ k - 1 < N := by
 have : (k : Int) > 0 := of_decide_eq_true h0
 exact ⟨by rw [Z6 (by omega) (by omega)]; omega, by omega⟩

def memP (xs : List GMember) (k : Nat) : Bool := inR (gx xs k).Number 1 999 && inR (gx xs k).Since 1900 2999 && inR (gx xs k).Paid (wr ((gx xs k).Since - 1)) 2999 && !(decide ((k : Int) > 0) && decide ((gx xs k).Number ≤ (gx xs (k - 1)).Number))
def ZK (xs : List GMember) : Bool := (List.range xs.length).all (memP xs) && decide (((xs.length : Nat) : Int) ≤ 40)
theorem Zi5 {xs : List GMember} (h : ZK xs = true) : xs.length ≤ 40 := by
 simp only [ZK, Bool.and_eq_true, decide_eq_true_eq] at h; omega

theorem ZbI (xs : List GMember) (hl : xs.length ≤ 4611686018427387904) : Zbe xs = some (ZK xs) := by
 unfold Zbe ZK
 rw [Za hl, Zbi (f := ZeG xs) (c := false) (memP xs) (fun k hk => by
  simp only [ZeG, Zbv, Option.bind_some, memP]
  cases hd : decide ((k : Int) > 0)
  ·cases inR (gx xs k).Number 1 999 <;> cases inR (gx xs k).Since 1900 2999 <;> cases inR (gx xs k).Paid (wr ((gx xs k).Since - 1)) 2999 <;> rfl
  ·obtain ⟨e1, e2⟩ := ZiH hk hl hd
   simp only [e1, Int.toNat_natCast, cond_true]
   rw [Za ⟨by omega, by omega⟩]
   cases inR (gx xs k).Number 1 999 <;> cases inR (gx xs k).Since 1900 2999 <;> cases inR (gx xs k).Paid (wr ((gx xs k).Since - 1)) 2999 <;> cases decide ((gx xs k).Number ≤ (gx xs (k - 1)).Number) <;> rfl)]
 cases (List.range xs.length).all (memP xs) <;> rfl

theorem Zcn (xs : List GMember) (hl : xs.length ≤ 4611686018427387904) : Zbd xs = some (ZK xs) := by
 unfold Zbd ZK
 rw [Za hl, Zbi (f := ZeB xs) (c := false) (memP xs) (fun k hk => by
  simp only [ZeB, ZaO, Option.bind_some, memP]
  cases hd : decide ((k : Int) > 0)
  ·cases inR (gx xs k).Number 1 999 <;> cases inR (gx xs k).Since 1900 2999 <;> cases inR (gx xs k).Paid (wr ((gx xs k).Since - 1)) 2999 <;> rfl
  ·obtain ⟨e1, e2⟩ := ZiH hk hl hd
   simp only [e1, Int.toNat_natCast, cond_true]
   rw [Za ⟨by omega, by omega⟩]
   cases inR (gx xs k).Number 1 999 <;> cases inR (gx xs k).Since 1900 2999 <;> cases inR (gx xs k).Paid (wr ((gx xs k).Since - 1)) 2999 <;> cases decide ((gx xs k).Number ≤ (gx xs (k - 1)).Number) <;> rfl)]
 cases (List.range xs.length).all (memP xs) <;> rfl

def Zao (xs : List Int) : Bool := xs.all (fun n => inR n 0 1000000) && (((xs.length : Nat) : Int) == 6)
theorem ZhB {xs : List Int} (h : Zao xs = true) : xs.length = 6 := by
 simp only [Zao, Bool.and_eq_true, beq_iff_eq] at h; omega

theorem Zeo (xs : List Int) (hl : xs.length ≤ 4611686018427387904) : Zck xs = some (Zao xs) := by
 unfold Zck Zao
 rw [Za hl, Zbi (f := Zgp xs) (c := false) (fun k => inR (gx xs k) 0 1000000) (fun k hk => by
  simp only [Zgp, Zbv, Option.bind_some]; cases inR (gx xs k) 0 1000000 <;> rfl), ZkY (fun n => inR n 0 1000000)]
 cases xs.all (fun n => inR n 0 1000000) <;> rfl

theorem Znk (xs : List Int) (a b : Int) (hl : xs.length ≤ 4611686018427387904) : ZbG xs a b = some (xs.all fun n => inR n a b) := by
 unfold ZbG
 rw [Za hl, Zbi (f := Zcu xs a b) (c := false) (fun k => inR (gx xs k) a b) (fun k hk => by
  simp only [Zcu, ZaO, Option.bind_some]; cases inR (gx xs k) a b <;> rfl), ZkY (fun n => inR n a b)]
 cases xs.all (fun n => inR n a b) <;> rfl

theorem Zgg (xs : List Int) (hl : xs.length ≤ 4611686018427387904) : Zc0 xs = some (Zao xs) := by
 unfold Zc0 Zao
 rw [Znk xs _ _ hl]
 cases (((xs.length : Nat) : Int) == 6) <;> cases xs.all (fun n => inR n 0 1000000) <;> rfl

def ledP (xs : List GBooking) (k : Nat) : Bool := inR (gx xs k).Day 0 9999 && inR (gx xs k).From 0 4 && inR (gx xs k).To 0 4 && !((gx xs k).From == (gx xs k).To) && inR (gx xs k).Sum 1 100000 && !(decide ((k : Int) > 0) && decide ((gx xs k).Day < (gx xs (k - 1)).Day))
def ZaW (xs : List GBooking) : Bool := (List.range xs.length).all (ledP xs) && decide (((xs.length : Nat) : Int) ≤ 60)
theorem ZtE {xs : List GBooking} (h : ZaW xs = true) : xs.length ≤ 60 := by
 simp only [ZaW, Bool.and_eq_true, decide_eq_true_eq] at h; omega

theorem ZhS (xs : List GBooking) (hl : xs.length ≤ 4611686018427387904) : Zda xs = some (ZaW xs) := by
 unfold Zda ZaW
 rw [Za hl, Zbi (f := Zfl xs) (c := false) (ledP xs) (fun k hk => by
  simp only [Zfl, Zbv, Option.bind_some, ledP]
  cases hd : decide ((k : Int) > 0)
  ·cases inR (gx xs k).Day 0 9999 <;> cases inR (gx xs k).From 0 4 <;> cases inR (gx xs k).To 0 4 <;> cases ((gx xs k).From == (gx xs k).To) <;> cases inR (gx xs k).Sum 1 100000 <;> rfl
  ·obtain ⟨e1, e2⟩ := ZiH hk hl hd
   simp only [e1, Int.toNat_natCast, cond_true]
   rw [Za ⟨by omega, by omega⟩]
   cases inR (gx xs k).Day 0 9999 <;> cases inR (gx xs k).From 0 4 <;> cases inR (gx xs k).To 0 4 <;> cases ((gx xs k).From == (gx xs k).To) <;> cases inR (gx xs k).Sum 1 100000 <;> cases decide ((gx xs k).Day < (gx xs (k - 1)).Day) <;> rfl)]
 cases (List.range xs.length).all (ledP xs) <;> rfl

theorem ZhL (xs : List GBooking) (hl : xs.length ≤ 4611686018427387904) : Zdd xs = some (ZaW xs) := by
 unfold Zdd ZaW
 rw [Za hl, Zbi (f := ZfF xs) (c := false) (ledP xs) (fun k hk => by
  simp only [ZfF, ZaO, Option.bind_some, ledP]
  cases hd : decide ((k : Int) > 0)
  ·cases inR (gx xs k).Day 0 9999 <;> cases inR (gx xs k).From 0 4 <;> cases inR (gx xs k).To 0 4 <;> cases ((gx xs k).From == (gx xs k).To) <;> cases inR (gx xs k).Sum 1 100000 <;> rfl
  ·obtain ⟨e1, e2⟩ := ZiH hk hl hd
   simp only [e1, Int.toNat_natCast, cond_true]
   rw [Za ⟨by omega, by omega⟩]
   cases inR (gx xs k).Day 0 9999 <;> cases inR (gx xs k).From 0 4 <;> cases inR (gx xs k).To 0 4 <;> cases ((gx xs k).From == (gx xs k).To) <;> cases inR (gx xs k).Sum 1 100000 <;> cases decide ((gx xs k).Day < (gx xs (k - 1)).Day) <;> rfl)]
 cases (List.range xs.length).all (ledP xs) <;> rfl

def Zdc (e : GEntry) : Bool := inR e.Owner 0 99 && inR e.Day 0 9999 && Ze e.Block

@[simp] theorem ZoD (e : GEntry) : Zcg e = some (Zdc e) := by
 unfold Zcg Zdc
 simp only [Zbv, Z7, Option.bind_some]
 cases inR e.Owner 0 99 <;> cases inR e.Day 0 9999 <;> rfl

@[simp] theorem ZoO (e : GEntry) : Zcl e = some (Zdc e) := by
 unfold Zcl Zdc
 simp only [ZaO, ZV, Option.bind_some]
 cases inR e.Owner 0 99 <;> cases inR e.Day 0 9999 <;> rfl

def Zhh (xs : List GMember) (n : Int) : Bool := !((List.range xs.length).all fun k => !((gx xs k).Number == n))

theorem Znc (xs : List GMember) (n : Int) (hl : xs.length ≤ 4611686018427387904) : Ze8 xs n = some (Zhh xs n) := by
 unfold Ze8 Zhh
 rw [Za hl, Zbi (f := ZeP xs n) (c := true) (fun k => !((gx xs k).Number == n)) (fun k hk => by
  simp only [ZeP]; cases ((gx xs k).Number == n) <;> rfl)]
 cases (List.range xs.length).all (fun k => !((gx xs k).Number == n)) <;> rfl

theorem Zor (xs : List GMember) (n : Int) (hl : xs.length ≤ 4611686018427387904) : ZfO xs n = some (Zhh xs n) := by
 unfold ZfO Zhh
 rw [Za hl, Zbi (f := Zfz xs n) (c := true) (fun k => !((gx xs k).Number == n)) (fun k hk => by
  simp only [Zfz]; cases ((gx xs k).Number == n) <;> rfl)]
 cases (List.range xs.length).all (fun k => !((gx xs k).Number == n)) <;> rfl

def ZgW (xs : List GMember) (y : Int) : List Int := bif ZK xs then ((List.range xs.length).filter fun k => decide ((gx xs k).Paid ≥ y)).map fun k => (gx xs k).Number else []
theorem Zra (xs : List GMember) (y : Int) : (ZgW xs y).length ≤ 40 := by
 unfold ZgW
 cases h : ZK xs
 ·simp
 ·have h1 := Zi5 h
  have h2 := List.length_filter_le (fun k => decide ((gx xs k).Paid ≥ y)) (List.range xs.length)
  simp at h2 ⊢; omega

theorem Zlf (xs : List GMember) (y : Int) (hl : xs.length ≤ 4611686018427387904) : Zdl xs y = some (ZgW xs y) := by
 unfold Zdl ZgW
 rw [Zcn xs hl]
 cases h : ZK xs
 ·rfl
 have h1 := Zi5 h
 simp only [Option.bind_some, Bool.not_true, cond_false, cond_true]
 rw [Za hl, Zjl (f := ZdC xs y) (xs := []) (fun k => decide ((gx xs k).Paid ≥ y)) (fun k => (gx xs k).Number) (fun k s hk hs => by
  simp only [ZdC]
  rw [Za (by simp at hs; omega)]
  cases decide ((gx xs k).Paid ≥ y) <;> rfl)]
 rfl

theorem Zll (xs : List GMember) (y : Int) (hl : xs.length ≤ 4611686018427387904) : Zde xs y = some (ZgW xs y) := by
 unfold Zde ZgW
 rw [Za hl]
 cases h : ZK xs
 ·rcases Nat.eq_zero_or_pos xs.length with e | e
  ·rw [e]; rfl
  ·unfold lpO
   rw [Zls (f := ZbC xs y) (fun _ => []) rfl 0 e (fun k hk => by omega) (s' := []) (by
    simp only [ZbC, ZbI xs hl, h, Option.bind_some, cond_false])]
   rfl
 have h1 := Zi5 h
 simp only [cond_true]
 rw [Zjl (f := ZbC xs y) (xs := []) (fun k => decide ((gx xs k).Paid ≥ y)) (fun k => (gx xs k).Number) (fun k s hk hs => by
  simp only [ZbC, ZbI xs hl, h, Option.bind_some, cond_true]
  rw [Za (by simp at hs; omega)]
  cases decide ((gx xs k).Paid ≥ y) <;> rfl)]
 rfl

def ZbP (g : GGuild) : Int := bif inR (ZgW g.Members g.Year).length 2 10 then (ZgW g.Members g.Year).length - 1 else 0

theorem ZgO (g : GGuild) (hl : g.Members.length ≤ 4611686018427387904) : Zcc g = some (ZbP g) := by
 unfold Zcc ZbP
 have := Zra g.Members g.Year
 rw [Zll _ _ hl]
 simp only [Option.bind_some, Zbv, Z6 (n := ((ZgW g.Members g.Year).length : Int) - 1) (by omega) (by omega)]
 cases inR (ZgW g.Members g.Year).length 2 10 <;> rfl

theorem ZgF (g : GGuild) (hl : g.Members.length ≤ 4611686018427387904) : Zcj g = some (ZbP g) := by
 unfold Zcj ZbP
 have := Zra g.Members g.Year
 rw [Zlf _ _ hl]
 simp only [Option.bind_some, ZaO, Z6 (n := ((ZgW g.Members g.Year).length : Int) - 1) (by omega) (by omega)]
 cases inR (ZgW g.Members g.Year).length 2 10 <;> rfl

def GL (g : GGuild) : Prop := g.Members.length ≤ 4611686018427387904 ∧ g.Stock.length ≤ 4611686018427387904 ∧ g.Entries.length ≤ 4611686018427387904 ∧ g.Books.length ≤ 4611686018427387904
theorem Zd9 {g : GGuild} (h : Sm.ok g) : GL g := by
 obtain ⟨h1, h2, h3, h4⟩ := h
 have := ZbR h1; have := ZbR h2; have := ZbR h3; have := ZbR h4
 exact ⟨by omega, by omega, by omega, by omega⟩
def entP (g : GGuild) (k : Nat) : Bool := Zdc (gx g.Entries k) && Zhh g.Members (gx g.Entries k).Owner && !(decide ((k : Int) > 0) && decide ((gx g.Entries k).Day < (gx g.Entries (k - 1)).Day))
def Zs (g : GGuild) : Bool := ZK g.Members && Zao g.Stock && ZaW g.Books && !decide (((g.Entries.length : Nat) : Int) > 10) && inR g.Year 1900 2999 && (List.range g.Entries.length).all (entP g) && inR g.Round 0 (ZbP g)

theorem Zav (g : GGuild) (h : GL g) : Zar g = some (Zs g) := by
 obtain ⟨h1, h2, h3, h4⟩ := h
 unfold Zar Zs
 simp only [ZbI _ h1, Zeo _ h2, ZhS _ h4, Zbv, Option.bind_some, ZgO _ h1]
 cases ZK g.Members
 ·rfl
 cases Zao g.Stock
 ·rfl
 cases ZaW g.Books
 ·rfl
 cases decide (((g.Entries.length : Nat) : Int) > 10)
 ·cases inR g.Year 1900 2999
  ·rfl
  simp only [Bool.not_true, Bool.not_false, cond_false, Option.bind_some]
  rw [Za h3, Zbi (f := Zgt g) (c := false) (entP g) (fun k hk => by
   simp only [Zgt, ZoD, Znc _ _ h1, Option.bind_some, entP]
   cases hd : decide ((k : Int) > 0)
   ·cases Zdc (gx g.Entries k) <;> cases Zhh g.Members (gx g.Entries k).Owner <;> rfl
   ·obtain ⟨e1, e2⟩ := ZiH hk h3 hd
    simp only [e1, Int.toNat_natCast, cond_true]
    rw [Za ⟨by omega, by omega⟩]
    cases Zdc (gx g.Entries k) <;> cases Zhh g.Members (gx g.Entries k).Owner <;> cases decide ((gx g.Entries k).Day < (gx g.Entries (k - 1)).Day) <;> rfl)]
  cases (List.range g.Entries.length).all (entP g) <;> rfl
 ·rfl

theorem ZbK (g : GGuild) (h : GL g) : Za8 g = some (Zs g) := by
 obtain ⟨h1, h2, h3, h4⟩ := h
 unfold Za8 Zs
 simp only [Zcn _ h1, Zgg _ h2, ZhL _ h4, ZaO, Option.bind_some, ZgF _ h1]
 cases ZK g.Members
 ·rfl
 cases Zao g.Stock
 ·rfl
 cases ZaW g.Books
 ·rfl
 cases decide (((g.Entries.length : Nat) : Int) > 10)
 ·simp only [Bool.not_true, Bool.not_false, cond_false, Option.bind_some]
  rw [Za h3, Zbi (f := Zgk g) (c := false) (entP g) (fun k hk => by
   simp only [Zgk, ZoO, Zor _ _ h1, Option.bind_some, entP]
   cases hd : decide ((k : Int) > 0)
   ·cases Zdc (gx g.Entries k) <;> cases Zhh g.Members (gx g.Entries k).Owner <;> rfl
   ·obtain ⟨e1, e2⟩ := ZiH hk h3 hd
    simp only [e1, Int.toNat_natCast, cond_true]
    rw [Za ⟨by omega, by omega⟩]
    cases Zdc (gx g.Entries k) <;> cases Zhh g.Members (gx g.Entries k).Owner <;> cases decide ((gx g.Entries k).Day < (gx g.Entries (k - 1)).Day) <;> rfl)]
  cases (List.range g.Entries.length).all (entP g) <;> cases inR g.Year 1900 2999 <;> rfl
 ·rfl

theorem Zie {g : GGuild} (h : Zs g = true) : Sm.ok g := by
 simp only [Zs, Bool.and_eq_true, Bool.not_eq_true', decide_eq_false_iff_not] at h
 obtain ⟨⟨⟨⟨⟨⟨h1, h2⟩, h3⟩, h4⟩, _⟩, h6⟩, _⟩ := h
 have := Zi5 h1; have := ZhB h2; have := ZtE h3
 refine ⟨⟨by omega, fun _ _ => trivial⟩, ⟨by omega, fun _ _ => trivial⟩, ⟨by omega, Ztp fun k hk => ?_⟩, ⟨by omega, fun _ _ => trivial⟩⟩
 rw [List.all_eq_true] at h6
 have := h6 k (by simpa using hk)
 simp only [entP, Zdc, Bool.and_eq_true] at this
 exact Zdr this.1.1.2

theorem Zkq {b : GBlock} (h : Sm.ok b) : Zba b = some b := by
 have := ZbR h
 unfold Zba
 rw [Za (by simp; omega)]; simp

theorem Zin {b : GBlock} (h : Sm.ok b) : Zam b = some b := by
 have := ZbR h
 unfold Zam
 rw [Za (by simp; omega)]; simp

theorem Zcd {g : GGuild} (h : Sm.ok g) : ZaF g = some g := by
 obtain ⟨h1, h2, h3, h4⟩ := h
 have l1 := ZbR h1; have l2 := ZbR h2; have l3 := ZbR h3; have l4 := ZbR h4
 unfold ZaF
 rw [Za (by simp; omega), Za (by simp; omega), Za (by simp; omega), Za (by omega), ZbN (f := Zgi g) (xs := []) (fun k => gx g.Entries k) (fun k s hk hs => by
  simp only [Zgi, Zkq (h3.2 _ (Z3 hk)), Option.bind_some]
  rw [Za (by simp at hs; omega)])]
 have := Zdj id g.Entries
 simp only [id] at this
 simp [this]

theorem Zge {xs : List GMember} (h : xs.length ≤ 1048600) : Zbu xs = some xs := by
 unfold Zbu
 rw [Za (by simp; omega)]; simp

theorem ZkR {xs : List Int} (h : xs.length ≤ 1048600) : Zf7 xs = some xs := by
 unfold Zf7
 rw [Za (by simp; omega)]; simp

theorem Zay {g : GGuild} (h : Sm.ok g) : Z8 g = some g := by
 obtain ⟨h1, h2, h3, h4⟩ := h
 have l1 := ZbR h1; have l2 := ZbR h2; have l3 := ZbR h3; have l4 := ZbR h4
 unfold Z8
 rw [Zge (by omega), ZkR (by omega)]
 simp only [Option.bind_some]
 rw [Za (by simp; omega), Za (by omega), ZbN (f := Zds g) (xs := []) (fun k => gx g.Entries k) (fun k s hk hs => by
  simp only [Zds, Zin (h3.2 _ (Z3 hk)), Option.bind_some]
  rw [Za (by simp at hs; omega)])]
 have := Zdj id g.Entries
 simp only [id] at this
 simp [this]

theorem Zgh {g next : GGuild} (h : Sm.ok g) (hn : GL next) (ok : Bool) : Zaq g next ok = some (bif Zs g && ok && Zs next then (next, true) else (g, false)) := by
 unfold Zaq
 rw [ZbK g (Zd9 h), ZbK next hn, Zay h]
 cases Zs g <;> cases ok <;> cases Zs next <;> rfl

theorem ZqI (y : Int) (_ : Fit.ok y) : ∃ w, ZfT y = some w ∧ ZfV y = some w ∧ Sm.ok w.1 := by
 have hg : GL (⟨[], [1000, 1000, 1000, 1000, 1000, 1000], [], [], 0, y⟩ : GGuild) := ⟨by simp, by simp, by simp, by simp⟩
 have hl : lpO ZhM 6 ([] : List Int) = some [1000, 1000, 1000, 1000, 1000, 1000] := rfl
 have hz : Sm.ok (⟨[], [], [], [], 0, 0⟩ : GGuild) := ⟨⟨by simp, fun _ h => by simp at h⟩, ⟨by simp, fun _ h => by simp at h⟩, ⟨by simp, fun _ h => by simp at h⟩, ⟨by simp, fun _ h => by simp at h⟩⟩
 unfold ZfT ZfV
 rw [hl]
 simp only [Option.bind_some, Zav _ hg, ZbK _ hg]
 cases h : Zs (⟨[], [1000, 1000, 1000, 1000, 1000, 1000], [], [], 0, y⟩ : GGuild)
 ·exact ⟨_, rfl, rfl, hz⟩
 ·exact ⟨_, rfl, rfl, Zie h⟩

theorem Zrj (g : GGuild) (h : Sm.ok g) : ∃ w, ZeV g = some w ∧ Ze6 g = some w ∧ Sm.ok w.1 ∧ (w = (g, false) ∨ w = ((⟨g.Members, g.Stock, g.Entries, g.Books, wr (g.Round + 1), g.Year⟩ : GGuild), true) ∧ Zs w.1 = true) := by
 have hn : GL (⟨g.Members, g.Stock, g.Entries, g.Books, wr (g.Round + 1), g.Year⟩ : GGuild) := Zd9 (g := g) h
 unfold ZeV Ze6
 simp only [Zcd h, Zay h, Option.bind_some, Zav _ (Zd9 h), Zav _ hn, Zgh h hn]
 cases Zs g
 ·exact ⟨(g, false), rfl, rfl, h, .inl rfl⟩
 cases hk : Zs (⟨g.Members, g.Stock, g.Entries, g.Books, wr (g.Round + 1), g.Year⟩ : GGuild)
 ·exact ⟨(g, false), rfl, rfl, h, .inl rfl⟩
 ·exact ⟨_, rfl, rfl, Zie hk, .inr ⟨rfl, hk⟩⟩

theorem ZsP (g : GGuild) (h : Sm.ok g) : ∃ w, ZgJ g = some w ∧ ZgB g = some w ∧ Sm.ok w.1 ∧ (w = (g, false) ∨ w = ((⟨g.Members, g.Stock, g.Entries, g.Books, 0, wr (g.Year + 1)⟩ : GGuild), true) ∧ Zs w.1 = true) := by
 have hn : GL (⟨g.Members, g.Stock, g.Entries, g.Books, 0, wr (g.Year + 1)⟩ : GGuild) := Zd9 (g := g) h
 unfold ZgJ ZgB
 simp only [Zcd h, Zay h, Option.bind_some, Zav _ (Zd9 h), Zav _ hn, Zgh h hn, ZgO g (Zd9 h).1, ZgF g (Zd9 h).1]
 have e : decide (g.Round ≥ ZbP g) = !decide (g.Round < ZbP g) := by
  by_cases hh : g.Round < ZbP g
  ·have : ¬ g.Round ≥ ZbP g := by omega
   simp [hh]
  ·have : g.Round ≥ ZbP g := by omega
   simp [hh, this]
 rw [e]
 cases Zs g
 ·exact ⟨(g, false), rfl, rfl, h, .inl rfl⟩
 cases decide (g.Round < ZbP g)
 ·cases hk : Zs (⟨g.Members, g.Stock, g.Entries, g.Books, 0, wr (g.Year + 1)⟩ : GGuild)
  ·exact ⟨(g, false), rfl, rfl, h, .inl rfl⟩
  ·exact ⟨_, rfl, rfl, Zie hk, .inr ⟨rfl, hk⟩⟩
 ·exact ⟨(g, false), rfl, rfl, h, .inl rfl⟩

def digM (a : Int) : UInt8 := UInt8.ofNat (48 + a.toNat)
def Zab (c : GCell) : List UInt8 := bif c.Split == 1 then [digM c.A, 47, digM c.B] else bif c.Split == 2 then [digM c.A, 92, digM c.B] else [digM c.A]
def Zeu (l : List GCell) : List UInt8 := l.flatMap fun c => Zab c ++ [59]
def Zd4 (b : GBlock) : Str := ⟨bif Ze b then Zeu b.Cells else []⟩
theorem ZjP (c : GCell) : (Zab c).length ≤ 3 := by
 unfold Zab
 cases c.Split == 1 <;> cases c.Split == 2 <;> simp
theorem ZlK (l : List GCell) : (Zeu l).length ≤ 4 * l.length := by
 induction l with
 | nil => simp [Zeu]
 | cons c l ih =>
  have := ZjP c
  simp only [Zeu, List.flatMap_cons, List.length_append, List.length_cons, List.length_nil] at ih ⊢
  omega
def ZgN (c d : GCell) : Bool := c.Split == d.Split && c.A == d.A && c.B == d.B
theorem ZuL (a b c d e f : Int) : beqs [a, b, c] [d, e, f] = (a == d && b == e && c == f) := by simp [beqs, Bool.and_assoc]
def Zh4 (b d : GBlock) : Bool := b.Size == d.Size && b.Cells.length == d.Cells.length && (List.range b.Cells.length).all fun k => ZgN (gx b.Cells k) (gx d.Cells k)
theorem Zkz (a b : Nat) : ((a : Int) == (b : Int)) = (a == b) := by
 rw [Bool.eq_iff_iff, beq_iff_eq, beq_iff_eq]; omega

theorem Zm5 {b d : GBlock} (hb : b.Cells.length ≤ 1048576) : ZeX b d = some (Zh4 b d) := by
 unfold ZeX Zh4
 simp only [bne, Zkz]
 cases h1 : b.Size == d.Size
 ·simp
 cases h2 : b.Cells.length == d.Cells.length
 ·simp
 have h2' : b.Cells.length = d.Cells.length := by simpa using h2
 simp only [Bool.not_true, Bool.or_self, cond_false, Bool.and_self, Bool.true_and]
 rw [Za (by omega), Zbi (f := ZeN b d) (c := false) (fun k => ZgN (gx b.Cells k) (gx d.Cells k)) (fun k hk => by
  simp only [ZeN, ZuL]
  rw [Za (by omega)]
  unfold ZgN
  cases ((gx b.Cells k).Split == (gx d.Cells k).Split && (gx b.Cells k).A == (gx d.Cells k).A && (gx b.Cells k).B == (gx d.Cells k).B) <;> rfl)]
 cases (List.range b.Cells.length).all fun k => ZgN (gx b.Cells k) (gx d.Cells k) <;> rfl

theorem Zm0 {b d : GBlock} (hb : b.Cells.length ≤ 1048576) : ZeW b d = some (Zh4 b d) := by
 unfold ZeW Zh4
 simp only [bne, Zkz]
 cases h1 : b.Size == d.Size
 ·simp
 cases h2 : b.Cells.length == d.Cells.length
 ·simp
 have h2' : b.Cells.length = d.Cells.length := by simpa using h2
 simp only [Bool.not_true, Bool.or_self, cond_false, Bool.and_self, Bool.true_and]
 rw [Za (by omega), Zbi (f := ZeC b d) (c := false) (fun k => ZgN (gx b.Cells k) (gx d.Cells k)) (fun k hk => by
  simp only [ZeC, ZuL]
  rw [Za (by omega)]
  unfold ZgN
  cases ((gx b.Cells k).Split == (gx d.Cells k).Split && (gx b.Cells k).A == (gx d.Cells k).A && (gx b.Cells k).B == (gx d.Cells k).B) <;> rfl)]
 cases (List.range b.Cells.length).all fun k => ZgN (gx b.Cells k) (gx d.Cells k) <;> rfl

theorem Zio {a : Int} (h0 : 0 ≤ a) (h1 : a ≤ 5) : ZB a = some ⟨[digM a]⟩ := by
 have ha : a = 0 ∨ a = 1 ∨ a = 2 ∨ a = 3 ∨ a = 4 ∨ a = 5 := by omega
 have key : ∀ (s s' s'' : Int × Str), Zal s = some (.next s') → Zal s' = some (.brk s'') → wlO Zal 18446744073709551616 s = some s'' := fun s s' s'' h1 h2 => by
  have : ∀ n, wlO Zal (n + 2) s = some s'' := fun n => by
   unfold wlO
   rw [whO, h1]
   simp only [Option.bind_some]
   rw [whO, h2]
   rfl
  exact this 18446744073709551614
 rcases ha with rfl | rfl | rfl | rfl | rfl | rfl
 ·rfl
 ·unfold ZB
  rw [key (1, ⟨[]⟩) (0, ⟨[49]⟩) (0, ⟨[49]⟩) rfl rfl]; rfl
 ·unfold ZB
  rw [key (2, ⟨[]⟩) (0, ⟨[50]⟩) (0, ⟨[50]⟩) rfl rfl]; rfl
 ·unfold ZB
  rw [key (3, ⟨[]⟩) (0, ⟨[51]⟩) (0, ⟨[51]⟩) rfl rfl]; rfl
 ·unfold ZB
  rw [key (4, ⟨[]⟩) (0, ⟨[52]⟩) (0, ⟨[52]⟩) rfl rfl]; rfl
 ·unfold ZB
  rw [key (5, ⟨[]⟩) (0, ⟨[53]⟩) (0, ⟨[53]⟩) rfl rfl]; rfl

theorem ZjL {c : GCell} (h : Zo c = true) : Zeh c = some ⟨Zab c⟩ := by
 obtain ⟨h1, h2, h3, h4, h5, h6, h7⟩ := ZaS h
 unfold Zeh Zab
 simp only [Zb0, h, Zio h3 h4, Zio h5 h6, Option.bind_some, Bool.not_true, cond_false]
 cases c.Split == 1
 ·cases c.Split == 2
  ·rfl
  ·simp only [cond_true, cond_false]
   rw [Za (by simp), Za (by simp [sadd])]; rfl
 ·simp only [cond_true]
  rw [Za (by simp), Za (by simp [sadd])]; rfl

theorem Zk1 {b : GBlock} (h : Ze b = true) : Zey b = some (Zd4 b) := by
 obtain ⟨n, hn, h1, h2, hl, hc⟩ := Zu h
 have hnn : n * n ≤ 4 * 4 := Nat.mul_le_mul h2 h2
 unfold Zey
 rw [Za (by omega), ZaG (f := ZgY b) (s0 := (⟨[]⟩ : Str)) (fun k => (⟨Zeu (b.Cells.take k)⟩ : Str)) rfl (fun k hk => by
  have hx := hc _ (Z3 hk)
  have hlen := ZlK (b.Cells.take k)
  have hlen2 : (b.Cells.take k).length ≤ 16 := by simp; omega
  have hlen3 := ZjP (gx b.Cells k)
  simp only [ZgY, Z7, h, cond_true, Option.bind_some, ZjL hx]
  rw [Za (by omega), Za (by simp only [sadd, List.length_append, List.length_cons, List.length_nil]; omega)]
  rw [List.take_succ_eq_append_getElem hk, ← Zbq hk]
  simp [sadd, Zeu])]
 simp [Zd4, h]

theorem Zuy (a b : Nat) : ((a : Int)).tdiv (b : Int) = ((a / b : Nat) : Int) := rfl
theorem Zq5 (a b : Nat) : ((a : Int)).tmod (b : Int) = ((a % b : Nat) : Int) := rfl
def addU (acc : List Int) (a : Int) : List Int := bif acc.contains a then acc else acc ++ [a]
theorem ZoM {acc : List Int} (h : acc.Nodup) (a : Int) : (addU acc a).Nodup := by
 unfold addU
 cases hc : acc.contains a
 ·have hn : ¬ a ∈ acc := by
   intro hm
   have := List.contains_iff_mem.2 hm
   rw [hc] at this; cases this
  simp only [cond_false]
  rw [List.nodup_append]
  refine ⟨h, by simp, ?_⟩
  intro x hx y hy e
  simp only [List.mem_singleton] at hy
  subst hy; subst e
  exact hn hx
 ·exact h
theorem ZuA {acc : List Int} {a x : Int} : x ∈ addU acc a ↔ x ∈ acc ∨ x = a := by
 unfold addU
 cases hc : acc.contains a
 ·simp
 ·have hm : a ∈ acc := List.contains_iff_mem.1 hc
  simp only [cond_true]
  constructor
  ·exact Or.inl
  ·rintro (h | rfl)
   ·exact h
   ·exact hm
theorem Zi9 : ∀ (l acc : List Int), acc.Nodup → (l.foldl addU acc).Nodup ∧ ∀ x, x ∈ l.foldl addU acc ↔ x ∈ acc ∨ x ∈ l
 | [], acc, h => ⟨h, fun x => by simp⟩
 | a :: l, acc, h => by
  obtain ⟨h1, h2⟩ := Zi9 l (addU acc a) (ZoM h a)
  refine ⟨h1, fun x => ?_⟩
  rw [List.foldl_cons, h2, ZuA]
  simp [or_assoc]
def Zmz (b : GBlock) : List Int := b.Cells.flatMap fun c => [c.A, c.B]
def six : List Int := [0, 1, 2, 3, 4, 5]
theorem Zsh {x : Int} : x ∈ six ↔ 0 ≤ x ∧ x ≤ 5 := by
 simp only [six, List.mem_cons, List.not_mem_nil, or_false]; omega
def ord6 (b : GBlock) : List Int := (Zmz b ++ six).foldl addU []
theorem ZpA {b : GBlock} {x : Int} : x ∈ Zmz b ↔ ∃ c ∈ b.Cells, x = c.A ∨ x = c.B := by simp [Zmz]
theorem Zvu {b : GBlock} (h : Ze b = true) : (ord6 b).Nodup ∧ (∀ x, x ∈ ord6 b ↔ 0 ≤ x ∧ x ≤ 5) ∧ (ord6 b).length = 6 := by
 obtain ⟨n, hn, h1, h2, hl, hc⟩ := Zu h
 obtain ⟨g1, g2⟩ := Zi9 (Zmz b ++ six) [] (by simp)
 have g3 : ∀ x, x ∈ ord6 b ↔ 0 ≤ x ∧ x ≤ 5 := fun x => by
  unfold ord6
  rw [g2]
  simp only [List.not_mem_nil, false_or, List.mem_append, Zsh]
  constructor
  ·rintro (h | h)
   ·obtain ⟨c, hm, h⟩ := ZpA.1 h
    obtain ⟨c1, c2, c3, c4, c5, c6, _⟩ := ZaS (hc c hm)
    rcases h with rfl | rfl <;> omega
   ·exact h
  ·exact Or.inr
 refine ⟨g1, g3, ?_⟩
 have p : (ord6 b).Perm six := (List.perm_ext_iff_of_nodup (show (ord6 b).Nodup from g1) (by decide)).2 fun x => by rw [g3, Zsh]
 exact p.length_eq

def idxM (l : List Int) (n : Int) : Int := match (List.range l.length).find? (fun k => gx l k == n) with | some k => (k : Int) | none => -1
theorem ZfH (l : List Int) (n : Int) : (¬ n ∈ l ∧ idxM l n = -1) ∨ ∃ k : Nat, k < l.length ∧ idxM l n = k ∧ gx l k = n := by
 unfold idxM
 cases h : (List.range l.length).find? (fun k => gx l k == n) with
 | none =>
  left
  refine ⟨fun hm => ?_, rfl⟩
  obtain ⟨i, hi, rfl⟩ := List.getElem_of_mem hm
  rw [List.find?_eq_none] at h
  exact h i (by simpa using hi) (by simp [Zbq hi])
 | some k =>
  right
  refine ⟨k, by simpa using List.mem_of_find?_eq_some h, rfl, by simpa using List.find?_some h⟩
theorem Zro {l : List Int} {n : Int} : idxM l n < 0 ↔ ¬ n ∈ l := by
 rcases ZfH l n with ⟨h1, h2⟩ | ⟨k, h1, h2, h3⟩
 ·simp [h1, h2]
 ·constructor
  ·intro h; omega
  ·intro h; exact absurd (h3 ▸ Z3 h1) h
theorem Zp4 {l : List Int} (hn : l.Nodup) {k : Nat} (hk : k < l.length) : idxM l (gx l k) = k := by
 rcases ZfH l (gx l k) with ⟨h1, h2⟩ | ⟨j, h1, h2, h3⟩
 ·exact absurd (Z3 hk) h1
 ·rw [h2]
  rw [Zbq h1, Zbq hk] at h3
  have := (List.getElem_inj hn).1 h3
  rw [this]
theorem ZlP (l : List Int) (n : Int) : decide (idxM l n < 0) = !(l.contains n) := by
 rw [Bool.eq_iff_iff]
 simp [Zro]
theorem Zfa {α : Type} [Rep α] {l m : List α} {k : Nat} (h : k < l.length) : gx (l ++ m) k = gx l k := by
 unfold gx List.getD
 rw [List.getElem?_append_left h]
theorem Zr0 {l : List Int} (m : List Int) {n : Int} (hn : (l ++ m).Nodup) (h : n ∈ l) : idxM (l ++ m) n = idxM l n := by
 rcases ZfH l n with ⟨h1, h2⟩ | ⟨k, h1, h2, h3⟩
 ·exact absurd h h1
 ·rw [h2, ← h3, ← Zfa (m := m) h1, Zp4 hn (by simp; omega)]
theorem ZtG {l : List Int} {n : Int} (hn : (l ++ [n]).Nodup) : idxM (l ++ [n]) n = l.length := by
 have := Zp4 hn (k := l.length) (by simp)
 have e : gx (l ++ [n]) l.length = n := by simp [gx, List.getD]
 rwa [e] at this
def Zer (b : GBlock) : List Int := bif Ze b then (List.range 6).map fun a : Nat => idxM (ord6 b) (a : Int) else []
theorem Zl4 {b : GBlock} (h : Ze b = true) : (Zer b).length = 6 := by simp [Zer, h]
def ZaL (l : List Int) : Bool := l.length == 6 && l.all fun a => inR a 0 5
theorem Zf0 {l : List Int} (h : ZaL l = true) : l.length = 6 ∧ ∀ a ∈ l, 0 ≤ a ∧ a ≤ 5 := by
 simp only [ZaL, Bool.and_eq_true, beq_iff_eq, List.all_eq_true, ZT] at h
 exact h
theorem Zt7 {l : List Int} (h : l.length = 6) (h2 : ∀ a ∈ l, 0 ≤ a ∧ a ≤ 5) : ZaL l = true := by
 simp only [ZaL, Bool.and_eq_true, beq_iff_eq, List.all_eq_true, ZT]
 exact ⟨h, h2⟩
theorem Zrt (s a b : Int) : Zo (Zbm s a b) = true := by
 unfold Zbm ZbF
 cases h : a == b
 ·cases h2 : Zo ⟨s, a, b⟩
  ·rfl
  ·exact h2
 ·cases h2 : inR a 0 5
  ·rfl
  ·have := ZT.1 h2
   exact ZaN (by simp) (by simp) this.1 this.2 this.1 this.2 (by simp)
def ZH (c : GCell) (l : List Int) : GCell := bif Zo c && ZaL l then Zbm c.Split (gx l c.A.toNat) (gx l c.B.toNat) else ⟨0, 0, 0⟩
theorem Zkj (c : GCell) (l : List Int) : Zo (ZH c l) = true := by
 unfold ZH
 cases Zo c && ZaL l
 ·rfl
 ·exact Zrt _ _ _
def ZdF (b : GBlock) (l : List Int) : GBlock × Bool := bif Ze b && ZaL l then (⟨b.Size, b.Cells.map fun c => ZH c l⟩, true) else (b, false)
theorem Zr8 {b : GBlock} (h : Ze b = true) (l : List Int) : Ze (ZdF b l).1 = true ∧ (ZdF b l).1.Size = b.Size := by
 unfold ZdF
 cases hc : Ze b && ZaL l
 ·exact ⟨h, rfl⟩
 ·obtain ⟨n, hn, h1, h2, hl, hcs⟩ := Zu h
  refine ⟨?_, rfl⟩
  rw [hn]
  exact Zjp h1 h2 (by simpa using hl) (fun c hm => by
   simp only [List.mem_map] at hm
   obtain ⟨d, _, rfl⟩ := hm
   exact Zkj d l)
def ZbS (b : GBlock) : GBlock := (ZdF b (Zer b)).1
theorem ZlD {b : GBlock} (h : Ze b = true) : Ze (ZbS b) = true ∧ (ZbS b).Size = b.Size := Zr8 h _
theorem ZsY {α β : Type} [Rep α] (F : α → β) {n : Nat} {l : List α} (hl : l.length = n * n) : (ZbH n n fun y x => F (gx l (y * n + x))) = l.map F := by
 apply List.ext_getElem
 ·rw [Zcv]; simp [hl]
 ·intro i h1 h2
  have hi : i < n * n := by rw [Zcv] at h1; exact h1
  have hn : 0 < n := by
   rcases Nat.eq_zero_or_pos n with h | h
   ·subst h; simp at hi
   ·exact h
  have hd : i / n * n + i % n = i := by rw [Nat.mul_comm]; exact Nat.div_add_mod i n
  have key : ∀ (h w : Nat) (G : Nat → Nat → β) (y x : Nat), y < h → x < w → (ZbH h w G)[y * w + x]? = some (G y x) := by
   intro h w G y x hy hx
   induction h with
   | zero => omega
   | succ h ih =>
    rw [Zky]
    rcases Nat.lt_or_ge y h with hlt | hge
    ·rw [List.getElem?_append_left (by rw [Zcv]; exact Zvy hlt hx)]
     exact ih hlt
    ·have e : y = h := by omega
     subst e
     rw [List.getElem?_append_right (by rw [Zcv]; omega), Zcv]
     simp [hx]
  have k1 := key n n (fun y x => F (gx l (y * n + x))) (i / n) (i % n) ((Nat.div_lt_iff_lt_mul hn).2 hi) (Nat.mod_lt _ hn)
  simp only [hd] at k1
  rw [List.getElem?_eq_getElem h1] at k1
  have := Option.some.inj k1
  rw [this, Zbq (by omega)]
  simp

theorem ZiX {l : List Int} (hl : l.length ≤ 1048576) (a b : Int) : ZbG l a b = some (l.all fun x => inR x a b) := by
 unfold ZbG
 rw [Za (by omega), Zbi (f := Zcu l a b) (fun k => inR (gx l k) a b) (fun k hk => by
  simp only [Zcu, ZaO, Option.bind_some]; cases inR (gx l k) a b <;> rfl), ZkY (fun x => inR x a b)]
 cases l.all fun x => inR x a b <;> rfl

theorem Zk3 {l : List Int} (hl : l.length ≤ 1048576) : Zf1 l = some (ZaL l) := by
 unfold Zf1 ZaL
 rw [ZiX hl]
 have : ((l.length : Int) == 6) = (l.length == 6) := by
  rw [Bool.eq_iff_iff]; simp; omega
 rw [this]
 cases l.length == 6 <;> rfl

theorem ZkO {l : List Int} (hl : l.length ≤ 1048576) : Zf5 l = some (ZaL l) := by
 unfold Zf5 ZaL
 have : ((l.length : Int) == 6) = (l.length == 6) := by
  rw [Bool.eq_iff_iff]; simp; omega
 rw [Za (by omega), Zbi (f := Zha l) (c := false) (fun k => inR (gx l k) 0 5) (fun k hk => by
  simp only [Zha, Zbv, Option.bind_some]; cases inR (gx l k) 0 5 <;> rfl), ZkY (fun x => inR x 0 5), this]
 cases l.all fun x => inR x 0 5 <;> cases l.length == 6 <;> rfl

theorem Zla (c : GCell) {l : List Int} (hl : l.length ≤ 1048576) : Zdk c l = some (ZH c l) := by
 unfold Zdk ZH
 simp only [ZbD, Zk3 hl, Zm6, Option.bind_some]
 cases h : Zo c
 ·rfl
 cases hL : ZaL l
 ·rfl
 obtain ⟨h1, h2, h3, h4, h5, h6, h7⟩ := ZaS h
 obtain ⟨g1, g2⟩ := Zf0 hL
 simp only [Bool.not_true, cond_false]
 rw [Za ⟨by omega, by omega⟩, Za ⟨by omega, by omega⟩]
 rfl

theorem Zk9 (c : GCell) {l : List Int} (hl : l.length ≤ 1048576) : Zdp c l = some (ZH c l) := by
 unfold Zdp ZH
 simp only [Zb0, ZkO hl, Znl, Option.bind_some]
 cases h : Zo c
 ·rfl
 cases hL : ZaL l
 ·rfl
 obtain ⟨h1, h2, h3, h4, h5, h6, h7⟩ := ZaS h
 obtain ⟨g1, g2⟩ := Zf0 hL
 simp only [Bool.not_true, cond_false]
 rw [Za ⟨by omega, by omega⟩, Za ⟨by omega, by omega⟩]
 rfl

theorem ZhV {b : GBlock} {l : List Int} (hb : b.Cells.length ≤ 1048576) (hl : l.length ≤ 1048576) : ZbZ b l = some (ZdF b l) := by
 unfold ZbZ ZdF
 simp only [ZV, Zk3 hl, Option.bind_some]
 have hc : Zam b = some b := by
  unfold Zam
  rw [Za (by simp; omega)]; simp
 cases h : Ze b
 ·simp [hc]
 cases h2 : ZaL l
 ·simp [hc]
 obtain ⟨n, hn, h1, h2, hl2, hcs⟩ := Zu h
 simp only [Bool.not_true, cond_false, cond_true, Bool.and_self, hn]
 rw [Zqf n _ (fun y x => ZH (gx b.Cells (y * n + x)) l) (by omega) (fun y x hy hx => by
  simp only [Zb2, Zhi, Zla _ hl, Option.bind_some]
  rw [ZiM h hn hx hy]), ZsY (fun c => ZH c l) hl2]
 rfl

theorem ZkN {b : GBlock} {l : List Int} (hb : b.Cells.length ≤ 1048576) (hl : l.length ≤ 1048576) : Zc1 b l = some (ZdF b l) := by
 unfold Zc1 ZdF
 simp only [Z7, ZkO hl, Option.bind_some]
 have hc : Zba b = some b := by
  unfold Zba
  rw [Za (by simp; omega)]; simp
 cases h : Ze b
 ·simp [hc]
 cases h2 : ZaL l
 ·simp [hc]
 simp only [Bool.not_true, cond_false, cond_true, Bool.and_self]
 rw [Za (by omega), ZbN (f := Zc7 b l) (xs := []) (fun k => ZH (gx b.Cells k) l) (fun k s hk hs => by
  simp only [Zc7, Zk9 _ hl, Option.bind_some]
  rw [Za (by simp at hs; omega)]), Zdj (fun c => ZH c l)]
 rfl

theorem Zps {l : List Int} (hl : l.length ≤ 1048576) (n : Int) : ZdY l n = some (idxM l n) := by
 unfold ZdY idxM
 rw [Za (by omega), Zqj (f := Zgw l n) (fun k => gx l k == n) (fun k => (k : Int)) (fun k hk => by
  unfold Zgw
  cases gx l k == n <;> rfl)]
 cases (List.range l.length).find? fun k => gx l k == n <;> rfl

def putM : List Int → Int → List Int
 | [], n => [n]
 | x :: r, n => bif decide (n ≤ x) then n :: x :: r else x :: putM r n
theorem Zkn : ∀ (l : List Int) (n : Int), (putM l n).Perm (n :: l)
 | [], n => .refl _
 | x :: r, n => by
  unfold putM
  cases decide (n ≤ x)
  ·exact ((Zkn r n).cons x).trans (.swap _ _ _)
  ·exact .refl _
theorem ZnC : ∀ {l : List Int}, l.Pairwise (· ≤ ·) → ∀ n, (putM l n).Pairwise (· ≤ ·)
 | [], _, n => by simp [putM]
 | x :: r, h, n => by
  unfold putM
  rw [List.pairwise_cons] at h
  cases hd : decide (n ≤ x)
  ·simp only [cond_false, List.pairwise_cons]
   refine ⟨fun y hy => ?_, ZnC h.2 n⟩
   have := (Zkn r n).mem_iff.1 hy
   simp only [List.mem_cons] at this
   have hd' : ¬ n ≤ x := by simpa using hd
   rcases this with rfl | hm
   ·omega
   ·exact h.1 _ hm
  ·have hd' : n ≤ x := by simpa using hd
   simp only [cond_true, List.pairwise_cons]
   refine ⟨fun y hy => ?_, h.1, h.2⟩
   simp only [List.mem_cons] at hy
   rcases hy with rfl | hm
   ·exact hd'
   ·have := h.1 _ hm; omega
theorem ZuF (l : List Int) (n : Int) : (putM l n).length = l.length + 1 := by
 have := (Zkn l n).length_eq
 simpa using this
theorem ZnA : ∀ (l : List Int) (x n : Int), putM (l ++ [x]) n = bif l.any (fun y => decide (n ≤ y)) then putM l n ++ [x] else (bif decide (n ≤ x) then l ++ [n, x] else l ++ [x, n])
 | [], x, n => by unfold putM; simp only [List.nil_append]; cases h : decide (n ≤ x) <;> simp [putM, h]
 | y :: l, x, n => by
  simp only [List.cons_append, putM, List.any_cons]
  cases h : decide (n ≤ y)
  ·simp only [cond_false, Bool.false_or, ZnA l x n]
   cases l.any fun y => decide (n ≤ y)
   ·cases decide (n ≤ x) <;> rfl
   ·rfl
  ·rfl
theorem Zqr : ∀ (l : List Int) (n : Int), l.any (fun y => decide (n ≤ y)) = false → putM l n = l ++ [n]
 | [], _, _ => rfl
 | x :: l, n, h => by
  simp only [List.any_cons, Bool.or_eq_false_iff] at h
  simp only [putM, h.1, cond_false, List.cons_append, Zqr l n h.2]

theorem Zr5 {l : List Int} (hl : l.length ≤ 1048576) (n : Int) : ZjS l n = some (putM l n) := by
 unfold ZjS
 rw [Za (by omega), ZaG (f := ZiQ l n) (s0 := (([] : List Int), false)) (fun k => bif (l.take k).any (fun y => decide (n ≤ y)) then (putM (l.take k) n, true) else (l.take k, false)) rfl (fun k hk => by
  have ht : l.take (k + 1) = l.take k ++ [gx l k] := by rw [List.take_succ_eq_append_getElem hk, ← Zbq hk]
  have hlen : (l.take k).length ≤ 1048576 := by simp; omega
  have hlen2 := ZuF (l.take k) n
  rw [ht, List.any_append, ZnA]
  simp only [ZiQ, List.any_cons, List.any_nil, Bool.or_false]
  cases h : (l.take k).any fun y => decide (n ≤ y)
  ·simp only [cond_false, Bool.not_false, Bool.true_and, Bool.false_or]
   cases decide (n ≤ gx l k)
   ·simp only [cond_false, Option.bind_some]
    rw [Za (by omega)]
   ·simp only [cond_true]
    rw [Za (by omega)]
    simp only [Option.bind_some]
    rw [Za (by simp; omega)]
    simp
  ·simp only [cond_true, Bool.not_true, Bool.false_and, cond_false, Bool.true_or, Option.bind_some]
   rw [Za (by omega)])]
 simp only [Option.bind_some, List.take_length]
 cases h : l.any fun y => decide (n ≤ y)
 ·simp only [cond_false, Bool.not_false, cond_true]
  rw [Za (by omega), Zqr l n h]
  rfl
 ·rfl

theorem ZpO {l : List Int} (hl : l.length ≤ 1000) : ∃ s, Zhz l = some s ∧ s.Perm l ∧ s.Pairwise (· ≤ ·) := by
 have key : ∀ k, k ≤ l.length → ((l.take k).foldl putM []).Perm (l.take k) ∧ ((l.take k).foldl putM []).Pairwise (· ≤ ·) := by
  intro k
  induction k with
  | zero => intro _; exact ⟨by simp, by simp⟩
  | succ k ih =>
   intro hk
   obtain ⟨i1, i2⟩ := ih (by omega)
   rw [List.take_succ_eq_append_getElem (by omega), List.foldl_append]
   simp only [List.foldl_cons, List.foldl_nil]
   refine ⟨(Zkn _ _).trans ?_, ZnC i2 _⟩
   exact (i1.cons _).trans (List.perm_append_singleton _ _).symm
 refine ⟨l.foldl putM [], ?_, by simpa using (key l.length (by omega)).1, by simpa using (key l.length (by omega)).2⟩
 unfold Zhz
 rw [Za (by omega), ZaG (f := Zg1 l) (s0 := []) (fun k => (l.take k).foldl putM []) rfl (fun k hk => by
  have hp := (key k (by omega)).1.length_eq
  have hle : ((l.take k).foldl putM []).length ≤ 1048576 := by rw [hp]; simp; omega
  simp only [Zg1, Zr5 hle, Option.bind_some]
  rw [List.take_succ_eq_append_getElem hk, List.foldl_append, ← Zbq hk]
  rfl)]
 simp

theorem ZmF {l : List Int} (hl : l.length ≤ 1000) {a b : Int} (h : l.Pairwise (· < ·)) (hr : ∀ x ∈ l, a ≤ x ∧ x ≤ b) : ZfX l a b = some true := by
 unfold ZfX
 rw [ZiX (by omega), Za (by omega), Zrv (f := ZfA l) (fun k hk => by
  unfold ZfA
  rcases Nat.eq_zero_or_pos k with h0 | h0
  ·subst h0; rfl
  ·have e : wr ((k : Int) - 1) = ((k - 1 : Nat) : Int) := by rw [Z6 (by omega) (by omega)]; omega
   have hd : decide ((k : Int) > 0) = true := by simp; omega
   rw [List.pairwise_iff_getElem] at h
   have hlt := h (k - 1) k (by omega) hk (by omega)
   rw [← Zbq, ← Zbq] at hlt
   simp only [hd, cond_true, e, Int.toNat_natCast]
   rw [Za ⟨by omega, by omega⟩]
   have : decide (gx l k ≤ gx l (k - 1)) = false := by simp; omega
   simp only [this, Option.bind_some, cond_false])]
 have : (l.all fun x => inR x a b) = true := by
  rw [List.all_eq_true]
  exact fun x hx => ZT.2 (hr x hx)
 simp only [Zdg, this, Option.bind_some]

theorem Zlj {l : List Int} (hl : l.length = 6) (hn : l.Nodup) (hr : ∀ x ∈ l, 0 ≤ x ∧ x ≤ 5) : Zew l = some true := by
 obtain ⟨s, h1, h2, h3⟩ := ZpO (l := l) (by omega)
 have hs : s.Pairwise (· < ·) := by
  have hnd : s.Nodup := (h2.nodup_iff).2 hn
  unfold List.Nodup at hnd
  exact (h3.and hnd).imp fun ⟨a, b⟩ => by omega
 unfold Zew
 rw [h1, show ((l.length : Int) == 6) = true by rw [hl]; rfl]
 simp only [cond_true, Option.bind_some, ZmF (l := s) (by rw [h2.length_eq]; omega) hs (fun x hx => hr x (h2.mem_iff.1 hx))]

theorem Zu7 {l : List Int} (hl : l.length = 6) (hn : l.Nodup) (hr : ∀ x, x ∈ l ↔ 0 ≤ x ∧ x ≤ 5) : ZfQ l = some ((List.range 6).map fun a : Nat => idxM l (a : Int)) := by
 unfold ZfQ
 rw [Zlj hl hn (fun x hx => (hr x).1 hx)]
 simp only [Option.bind_some, Bool.not_true, cond_false]
 have h0 : List.replicate 6 (0 : Int) = (List.range 6).map fun a : Nat => bif decide (idxM l (a : Int) < ((0 : Nat) : Int)) then idxM l (a : Int) else 0 := by
  have : ∀ a : Nat, a < 6 → (bif decide (idxM l (a : Int) < ((0 : Nat) : Int)) then idxM l (a : Int) else 0) = 0 := fun a ha => by
   have : ¬ idxM l (a : Int) < 0 := by rw [Zro]; exact fun h => h ((hr _).2 ⟨by omega, by omega⟩)
   simp [this]
  have e : ((List.range 6).map fun a : Nat => bif decide (idxM l (a : Int) < ((0 : Nat) : Int)) then idxM l (a : Int) else 0) = (List.range 6).map fun _ => (0 : Int) := List.map_congr_left fun a ha => this a (by simpa using ha)
  rw [e]; rfl
 rw [Za (by omega), ZaG (f := Zfu l) (fun k => (List.range 6).map fun a : Nat => bif decide (idxM l (a : Int) < (k : Int)) then idxM l (a : Int) else 0) h0 (fun k hk => by
  obtain ⟨b1, b2⟩ := (hr _).1 (Z3 hk)
  unfold Zfu
  rw [Za ⟨b1, by simp; omega⟩]
  congr 2
  apply ZjI
  ·simp
  ·intro j hj
   have hj' : j < 6 := by simpa using hj
   rw [ZdX _ hj']
   by_cases e : j = (gx l k).toNat
   ·have ej : (j : Int) = gx l k := by omega
    subst e
    rw [Zi3 (by simp; omega), ej, Zp4 hn hk]
    have : decide ((k : Int) < ((k + 1 : Nat) : Int)) = true := by simp; omega
    simp only [this, cond_true]
   ·rw [Zet e, ZdX _ hj']
    rcases ZfH l (j : Int) with ⟨g1, _⟩ | ⟨i, g1, g2, g3⟩
    ·exact absurd ((hr _).2 ⟨by omega, by omega⟩) g1
    ·have hne : i ≠ k := fun h => e (by rw [← h, g3]; simp)
     have : decide (idxM l (j : Int) < (k : Int)) = decide (idxM l (j : Int) < ((k + 1 : Nat) : Int)) := by
      rw [g2, Bool.eq_iff_iff]; simp; omega
     rw [this])]
 simp only [Option.bind_some, hl]
 congr 1
 apply List.map_congr_left
 intro a ha
 rcases ZfH l (a : Int) with ⟨g1, _⟩ | ⟨i, g1, g2, g3⟩
 ·exact absurd ((hr _).2 ⟨by omega, by simp at ha; omega⟩) g1
 ·have : decide (idxM l (a : Int) < ((6 : Nat) : Int)) = true := by rw [g2]; simp; omega
  rw [this, cond_true]

theorem Zux (acc : List Int) (a : Int) : (addU acc a).length ≤ acc.length + 1 := by
 unfold addU
 cases acc.contains a <;> simp
theorem Zcx : ∀ (l acc : List Int), (l.foldl addU acc).length ≤ acc.length + l.length
 | [], acc => by simp
 | a :: l, acc => by
  have := Zcx l (addU acc a)
  have := Zux acc a
  simp only [List.foldl_cons, List.length_cons]; omega
def useL (l : List GCell) : List Int := l.flatMap fun c => [c.A, c.B]
theorem Zlq : ∀ l : List GCell, (useL l).length = 2 * l.length
 | [] => rfl
 | c :: l => by
  have := Zlq l
  simp only [useL, List.flatMap_cons, List.length_append, List.length_cons, List.length_nil] at this ⊢; omega
theorem ZtM {l : List GCell} {k : Nat} (hk : k < l.length) : useL (l.take (k + 1)) = useL (l.take k) ++ [(gx l k).A, (gx l k).B] := by
 rw [List.take_succ_eq_append_getElem hk, ← Zbq hk]
 simp [useL]
theorem Zii {α : Type} [Rep α] (a : α) (l : List α) (k : Nat) : gx (a :: l) (k + 1) = gx l k := by simp [gx, List.getD]
theorem ZmI {α : Type} [Rep α] (a : α) (l : List α) : gx (a :: l) 0 = a := by simp [gx, List.getD]
theorem ZsF : ∀ (l : List GCell) (k : Nat), k < 2 * l.length → gx (useL l) k = bif k % 2 == 1 then (gx l (k / 2)).B else (gx l (k / 2)).A
 | [], k, h => by simp at h
 | c :: l, 0, h => by simp [useL, ZmI]
 | c :: l, 1, h => by simp [useL, ZmI, Zii]
 | c :: l, k + 2, h => by
  have := ZsF l k (by simp at h; omega)
  have e : useL (c :: l) = c.A :: c.B :: useL l := rfl
  rw [e, Zii, Zii, this, show (k + 2) / 2 = k / 2 + 1 by omega, show (k + 2) % 2 = k % 2 by omega, Zii]
theorem ZwY (k : Nat) : ((k : Int)).tdiv 2 = ((k / 2 : Nat) : Int) := rfl
theorem ZwK (k : Nat) : (((k : Int)).tmod 2 == 1) = (k % 2 == 1) := by
 have : ((k : Int)).tmod 2 = ((k % 2 : Nat) : Int) := rfl
 rw [this, Bool.eq_iff_iff]; simp; omega
theorem Zqv : (List.range 6).map (fun i : Nat => (i : Int)) = six := rfl

theorem ZnG (b : GBlock) : ZfS b = some (Zer b) := by
 unfold ZfS Zer
 simp only [ZV, Option.bind_some]
 cases h : Ze b
 ·rfl
 obtain ⟨n, hn, h1, h2, hl, hc⟩ := Zu h
 have hnn : n * n ≤ 4 * 4 := Nat.mul_le_mul h2 h2
 obtain ⟨g1, g2, g3⟩ := Zvu h
 have step : ∀ (s : List Int) (x : Int), s.length ≤ 1000 → ((ZdY s x).bind fun v => (bif decide (v < 0) then gd (s.length + 1 ≤ 1099511627776) (some (s ++ [x])) else some s).bind fun j => some (Res.next (R := Empty) j)) = some (Res.next (addU s x)) := fun s x hs => by
  rw [Zps (by omega)]
  simp only [Option.bind_some, ZlP, addU]
  cases s.contains x
  ·simp only [Bool.not_false, cond_true, cond_false]
   rw [Za (by omega)]; rfl
  ·rfl
 simp only [Bool.not_true, cond_false, cond_true]
 rw [Za (by omega), ZaG (f := ZfD b) (s0 := []) (fun k => (useL (b.Cells.take k)).foldl addU []) rfl (fun k hk => by
  have hlen := Zcx (useL (b.Cells.take k)) []
  have hul := Zlq (b.Cells.take k)
  have hle : ((useL (b.Cells.take k)).foldl addU []).length ≤ 32 := by simp at hlen hul; omega
  unfold ZfD
  rw [Za (by simp), ZaG (f := ZfB b k) (s0 := (useL (b.Cells.take k)).foldl addU []) (fun i => ([(gx b.Cells k).A, (gx b.Cells k).B].take i).foldl addU ((useL (b.Cells.take k)).foldl addU [])) rfl (fun i hi => by
   have hi2 : i < 2 := by simpa using hi
   have hlen2 := Zcx ([(gx b.Cells k).A, (gx b.Cells k).B].take i) ((useL (b.Cells.take k)).foldl addU [])
   unfold ZfB
   rw [step _ _ (by simp at hlen2; omega), List.take_succ_eq_append_getElem hi, List.foldl_append, ← Zbq hi]
   rfl)]
  rw [ZtM hk, List.foldl_append]
  rfl)]
 simp only [Option.bind_some, List.take_length]
 have hlen := Zcx (useL b.Cells) []
 have hul := Zlq b.Cells
 have hle : ((useL b.Cells).foldl addU []).length ≤ 32 := by simp at hlen; omega
 rw [ZaG (f := Zfx) (s0 := (useL b.Cells).foldl addU []) (fun k => ((List.range k).map fun i : Nat => (i : Int)).foldl addU ((useL b.Cells).foldl addU [])) rfl (fun k hk => by
  have hlen2 := Zcx ((List.range k).map fun i : Nat => (i : Int)) ((useL b.Cells).foldl addU [])
  unfold Zfx
  rw [step _ _ (by simp at hlen2; omega), List.range_succ, List.map_append, List.foldl_append]
  rfl)]
 have e : ((List.range 6).map fun i : Nat => (i : Int)).foldl addU ((useL b.Cells).foldl addU []) = ord6 b := by
  rw [Zqv, ← List.foldl_append]; rfl
 simp only [Option.bind_some, e, Zu7 g3 g1 g2]

def tabU (acc : List Int) : List Int := (List.range 6).map fun a : Nat => idxM acc (a : Int)
theorem Zrl {acc : List Int} (hn : acc.Nodup) {a : Int} (h0 : 0 ≤ a) (h1 : a ≤ 5) : (bif decide (gx (tabU acc) a.toNat < 0) then (tabU acc).set a.toNat (acc.length : Int) else tabU acc) = tabU (addU acc a) ∧ (bif decide (gx (tabU acc) a.toNat < 0) then ((acc.length : Int) + 1) else (acc.length : Int)) = ((addU acc a).length : Int) := by
 have ea : ((a.toNat : Nat) : Int) = a := by omega
 have hg : gx (tabU acc) a.toNat = idxM acc a := by
  unfold tabU
  rw [ZdX _ (by omega), ea]
 have hnd := ZoM hn a
 rw [hg, ZlP]
 unfold addU at hnd ⊢
 cases hc : acc.contains a
 ·rw [hc] at hnd
  simp only [cond_false] at hnd
  simp only [Bool.not_false, cond_true, cond_false]
  refine ⟨?_, by simp⟩
  apply ZjI
  ·simp [tabU]
  ·intro j hj
   have hj' : j < 6 := by simpa [tabU] using hj
   have e2 : gx (tabU (acc ++ [a])) j = idxM (acc ++ [a]) (j : Int) := ZdX _ hj'
   rw [e2]
   by_cases e : j = a.toNat
   ·subst e
    rw [Zi3 (by simp [tabU]; omega), ea, ZtG hnd]
   ·rw [Zet e]
    have e3 : gx (tabU acc) j = idxM acc (j : Int) := ZdX _ hj'
    rw [e3]
    by_cases hm : (j : Int) ∈ acc
    ·rw [Zr0 _ hnd hm]
    ·have hm2 : ¬ (j : Int) ∈ acc ++ [a] := by
      simp only [List.mem_append, List.mem_singleton, not_or]
      exact ⟨hm, by omega⟩
     rcases ZfH acc (j : Int) with ⟨_, q⟩ | ⟨k, q1, _, q3⟩
     ·rcases ZfH (acc ++ [a]) (j : Int) with ⟨_, q'⟩ | ⟨k, q1, _, q3⟩
      ·rw [q, q']
      ·exact absurd (q3 ▸ Z3 q1) hm2
     ·exact absurd (q3 ▸ Z3 q1) hm
 ·simp

theorem Zon (b : GBlock) : ZfK b = some (Zer b) := by
 unfold ZfK Zer
 simp only [Z7, Option.bind_some]
 cases h : Ze b
 ·rfl
 obtain ⟨n, hn, h1, h2, hl, hc⟩ := Zu h
 have hnn : n * n ≤ 4 * 4 := Nat.mul_le_mul h2 h2
 have hul := Zlq b.Cells
 have hN : (wr (2 * (b.Cells.length : Int))).toNat = (useL b.Cells).length := by
  rw [Z6 (by omega) (by omega)]; omega
 have h0 : lpO ZhJ 6 [] = some (tabU []) := by rfl
 have hin : ∀ x ∈ useL b.Cells, 0 ≤ x ∧ x ≤ 5 := fun x hx => by
  obtain ⟨c, hm, h⟩ := ZpA.1 (show x ∈ Zmz b from hx)
  obtain ⟨c1, c2, c3, c4, c5, c6, _⟩ := ZaS (hc c hm)
  rcases h with rfl | rfl <;> omega
 have hs : ((tabU [], 0) : List Int × Int) = (tabU ((useL b.Cells).take 0 |>.foldl addU []), ((((useL b.Cells).take 0).foldl addU []).length : Int)) := rfl
 simp only [Bool.not_true, cond_false, cond_true, h0, Option.bind_some, hN]
 rw [Za (by omega), ZaG (f := Zfw b) (fun k => (tabU (((useL b.Cells).take k).foldl addU []), ((((useL b.Cells).take k).foldl addU []).length : Int))) hs (fun k hk => by
  have hnd := (Zi9 ((useL b.Cells).take k) [] (by simp)).1
  have hlen := Zcx ((useL b.Cells).take k) []
  have hx := ZsF b.Cells k (by omega)
  obtain ⟨x0, x1⟩ := hin _ (Z3 hk)
  obtain ⟨t1, t2⟩ := Zrl hnd x0 x1
  have e2 : wr (((k / 2 : Nat) : Int)) = ((k / 2 : Nat) : Int) := Z6 (by omega) (by omega)
  have e3 : wr (((((useL b.Cells).take k).foldl addU []).length : Int) + 1) = ((((useL b.Cells).take k).foldl addU []).length : Int) + 1 := Z6 (by omega) (by simp at hlen; omega)
  simp only [Zfw, ZwY, ZwK, e2, e3, Int.toNat_natCast, ← hx]
  rw [Za ⟨by omega, by omega⟩, Za ⟨x0, by simp [tabU]; omega⟩, t1, t2, List.take_succ_eq_append_getElem hk, List.foldl_append, ← Zbq hk]
  rfl)]
 simp only [Option.bind_some, List.take_length]
 have hnd0 := (Zi9 (useL b.Cells) [] (by simp)).1
 have hlen0 := Zcx (useL b.Cells) []
 rw [ZaG (f := ZfE) (s0 := (tabU ((useL b.Cells).foldl addU []), ((((useL b.Cells).foldl addU []).length : Nat) : Int))) (fun k => (tabU (((List.range k).map fun i : Nat => (i : Int)).foldl addU ((useL b.Cells).foldl addU [])), ((((List.range k).map fun i : Nat => (i : Int)).foldl addU ((useL b.Cells).foldl addU [])).length : Int))) rfl (fun k hk => by
  have hnd := (Zi9 ((List.range k).map fun i : Nat => (i : Int)) _ hnd0).1
  have hlen := Zcx ((List.range k).map fun i : Nat => (i : Int)) ((useL b.Cells).foldl addU [])
  obtain ⟨t1, t2⟩ := Zrl hnd (a := (k : Int)) (by omega) (by omega)
  simp only [Int.toNat_natCast] at t1 t2
  have e3 : wr (((((List.range k).map fun i : Nat => (i : Int)).foldl addU ((useL b.Cells).foldl addU [])).length : Int) + 1) = ((((List.range k).map fun i : Nat => (i : Int)).foldl addU ((useL b.Cells).foldl addU [])).length : Int) + 1 := Z6 (by omega) (by simp at hlen hlen0; omega)
  simp only [ZfE, e3]
  rw [Za (by simp [tabU]; omega), t1, t2, List.range_succ, List.map_append, List.foldl_append]
  rfl)]
 have e : ((List.range 6).map fun i : Nat => (i : Int)).foldl addU ((useL b.Cells).foldl addU []) = ord6 b := by
  rw [Zqv, ← List.foldl_append]; rfl
 simp only [Option.bind_some, e]
 rfl

theorem ZqR {b : GBlock} (h : Ze b = true) : Zic b = some (ZbS b) := by
 unfold Zic ZbS
 have hs := (Zdr h).1
 have hf := Zl4 h
 simp only [ZnG, Option.bind_some, ZhV hs (l := Zer b) (by omega)]

theorem Zj1 {b : GBlock} (h : Ze b = true) : Zej b = some (ZbS b) := by
 unfold Zej ZbS
 have hs := (Zdr h).1
 have hf := Zl4 h
 simp only [Zon, Option.bind_some, ZkN hs (l := Zer b) (by omega)]

def ZkT (b : GBlock) : List GBlock := (List.range 8).map fun k : Nat => Z1 b (k : Int)
theorem Zqw (b : GBlock) : (ZkT b).length = 8 := by simp [ZkT]
theorem ZrT (b : GBlock) {k : Nat} (hk : k < 8) : gx (ZkT b) k = Z1 b (k : Int) := ZdX _ hk
theorem ZjB {b : GBlock} (h : Ze b = true) {k : Nat} (hk : k < 8) : Ze (Z1 b (k : Int)) = true ∧ (Z1 b (k : Int)).Size = b.Size := ZpX h (ZT.2 ⟨by omega, by omega⟩)

theorem ZlL (b : GBlock) : Zhm b = some (ZkT b) := by
 unfold Zhm
 rw [ZbN (f := ZhF b) (xs := []) (fun k : Nat => Z1 b (k : Int)) (fun k s hk hs => by
  simp only [ZhF, Zn5, Option.bind_some]
  rw [Za (by simp at hs; omega)])]
 rfl

def ZfM (e : GEntry) : Bool := inR e.Owner 0 99 && inR e.Day 0 9999 && Ze e.Block

theorem Zot (e : GEntry) : Zcg e = some (ZfM e) := by
 unfold Zcg ZfM
 simp only [Zbv, Z7, Option.bind_some]
 cases inR e.Owner 0 99 <;> cases inR e.Day 0 9999 <;> cases Ze e.Block <;> rfl

theorem Zn8 (e : GEntry) : Zcl e = some (ZfM e) := by
 unfold Zcl ZfM
 simp only [ZaO, ZV, Option.bind_some]
 cases inR e.Owner 0 99 <;> cases inR e.Day 0 9999 <;> cases Ze e.Block <;> rfl

def tab6 (f : Nat → Int) : List Int := (List.range 6).map f
theorem ZdR (f : Nat → Int) : (tab6 f).length = 6 := by simp [tab6]
theorem Zfc (f : Nat → Int) {a : Nat} (ha : a < 6) : gx (tab6 f) a = f a := ZdX f ha
theorem Zjn {f g : Nat → Int} (h : ∀ a, a < 6 → f a = g a) : tab6 f = tab6 g := List.map_congr_left fun a ha => h a (by simpa using ha)
theorem Zoz (f : Nat → Int) (a : Nat) (v : Int) : (tab6 f).set a v = tab6 fun i => bif i == a then v else f i := by
 apply ZjI
 ·simp [tab6]
 ·intro k hk
  have hk' : k < 6 := by simpa [tab6] using hk
  rw [Zfc _ hk']
  by_cases e : k = a
  ·subst e
   rw [Zi3 (by rw [ZdR]; exact hk')]; simp
  ·rw [Zet e, Zfc _ hk', beq_eq_false_iff_ne.2 e, cond_false]
theorem ZhH {x : Int} (h : 0 ≤ x) (a : Nat) : (a == x.toNat) = (x == (a : Int)) := by
 rw [Bool.eq_iff_iff]; simp; omega
theorem Zo0 {S C : Type} {f : Nat → S → Option (Res S C)} {N : Nat} (p : Nat → Bool) (st : Nat → S) {s0 : S} (h0 : s0 = st 0) {c : C} (h : ∀ k, k < N → (∀ j, j < k → p j = true) → f k (st k) = some (bif p k then .next (st (k + 1)) else .ret c)) : forO f N 0 s0 = some (bif (List.range N).all p then .inl (st N) else .inr c) := by
 have hmin : ∀ n, (∀ j, j < n → p j = true) ∨ ∃ k, k < n ∧ p k = false ∧ ∀ j, j < k → p j = true := by
  intro n
  induction n with
  | zero => left; intro j hj; omega
  | succ n ih =>
   rcases ih with ih | ⟨k, h1, h2, h3⟩
   ·cases hp : p n with
    | true =>
     left; intro j hj; rcases Nat.lt_or_ge j n with hlt | hge
     ·exact ih j hlt
     ·rw [show j = n by omega]; exact hp
    | false => right; exact ⟨n, by omega, hp, ih⟩
   ·right; exact ⟨k, by omega, h2, h3⟩
 rcases hmin N with hall | ⟨K, hK, hp, hlt⟩
 ·have : (List.range N).all p = true := by
   rw [List.all_eq_true]; intro k hk; exact hall k (by simpa using hk)
  rw [this]
  exact Zjv st h0 fun k hk => by rw [h k hk (fun j hj => hall j (by omega)), hall k hk]; rfl
 ·have : (List.range N).all p = false := by
   rw [List.all_eq_false]; exact ⟨K, by simpa using hK, by simp [hp]⟩
  rw [this]
  exact Zld st h0 K hK (fun k hk => by rw [h k (by omega) (fun j hj => hlt j (by omega)), hlt k hk]; rfl) (by rw [h K hK hlt, hp]; rfl)

def ZkF (b : GBlock) : List Int := bif Ze b then tab6 fun a => Zah b a else []

theorem Zjh (b : GBlock) : ZdG b = some (ZkF b) := by
 unfold ZdG ZkF
 simp only [ZV, Option.bind_some]
 cases Ze b
 ·rfl
 simp only [Bool.not_true, cond_false, cond_true]
 rw [ZbN (f := ZeI b) (xs := []) (fun a : Nat => Zah b a) (fun k s hk hs => by
  simp only [ZeI, ZkZ, Option.bind_some]
  rw [Za (by simp at hs; omega)])]
 rfl

theorem Zjg (b : GBlock) : ZcU b = some (ZkF b) := by
 unfold ZcU ZkF
 cases h : Ze b
 ·have : lpO (ZbJ b) 6 [] = some [] := by
   unfold lpO
   rw [Zls (f := ZbJ b) (fun _ => []) rfl 0 (by omega) (fun k hk => by omega) (s' := []) (by simp [ZbJ, h])]
   rfl
  rw [this]; rfl
 ·rw [ZbN (f := ZbJ b) (xs := []) (fun a : Nat => Zah b a) (fun k s hk hs => by
   simp only [ZbJ, Z7, h, cond_true, Zp1, Option.bind_some]
   rw [Za (by simp at hs; omega)])]
  rfl

def ZkG (st need : List Int) : Bool := (List.range 6).all fun a => !decide (gx need a > gx st a)
theorem Zke {f : Nat → Int} (h : ∀ a, a < 6 → 0 ≤ f a ∧ f a ≤ 1000000) : Zao (tab6 f) = true := by
 simp only [Zao, ZdR, Bool.and_eq_true, List.all_eq_true, beq_self_eq_true, and_true]
 constructor
 ·intro x hx
  simp only [tab6, List.mem_map, List.mem_range] at hx
  obtain ⟨a, ha, rfl⟩ := hx
  exact ZT.2 (h a ha)
 ·rfl
theorem ZfC {xs : List Int} (h : Zao xs = true) : xs.length = 6 ∧ ∀ a, a < 6 → 0 ≤ gx xs a ∧ gx xs a ≤ 1000000 := by
 have hl := ZhB h
 refine ⟨hl, fun a ha => ?_⟩
 simp only [Zao, Bool.and_eq_true, List.all_eq_true] at h
 exact ZT.1 (h.1 _ (Z3 (by omega)))

theorem Zm7 {st need : List Int} (h1 : Zao st = true) (h2 : Zao need = true) : ZeY st need = some (ZkG st need) := by
 have l1 := ZhB h1
 have l2 := ZhB h2
 unfold ZeY ZkG
 rw [Zeo st (by omega), Zeo need (by omega), h1, h2]
 simp only [Option.bind_some, Bool.not_true, cond_false]
 rw [Zbi (f := ZeO st need) (c := false) (fun a => !decide (gx need a > gx st a)) (fun k hk => by
  unfold ZeO
  rw [Za (by omega), Za (by omega)]
  cases decide (gx need k > gx st k) <;> rfl)]
 cases (List.range 6).all fun a => !decide (gx need a > gx st a) <;> rfl

theorem Znq {st : List Int} (h : Zao st = true) {a : Nat} (ha : a < 6) (n : Int) : Ze4 st (a : Int) n = some (bif inR n 0 (gx st a) then (st.set a (wr (gx st a - n)), true) else (st, false)) := by
 have l := ZhB h
 have ic : inR (a : Int) 0 5 = true := ZT.2 ⟨by omega, by omega⟩
 unfold Ze4
 rw [ZkR (by omega), Zgg st (by omega), h]
 simp only [Option.bind_some, Bool.not_true, cond_false, ZlC, ic, ZaO, Int.toNat_natCast]
 rw [Za ⟨by omega, by omega⟩]
 cases inR n 0 (gx st a)
 ·rfl
 ·simp only [Option.bind_some, Bool.not_true, cond_false]
  rw [Za ⟨by omega, by omega⟩]
  rfl

theorem Zf4 {g : GGuild} (h : Zs g = true) : ZK g.Members = true ∧ Zao g.Stock = true ∧ ZaW g.Books = true ∧ g.Entries.length ≤ 10 ∧ ∀ k, k < g.Entries.length → Ze (gx g.Entries k).Block = true := by
 simp only [Zs, Bool.and_eq_true, List.all_eq_true, List.mem_range] at h
 obtain ⟨⟨⟨⟨⟨⟨h1, h2⟩, h3⟩, h4⟩, h5⟩, h6⟩, h7⟩ := h
 refine ⟨h1, h2, h3, ?_, fun k hk => ?_⟩
 ·simp at h4; omega
 ·have := h6 k hk
  simp only [entP, Zdc, Bool.and_eq_true] at this
  exact this.1.1.2

def ZqZ (g : GGuild) (k : Int) (w : GGuild × Bool) : Prop := ∃ s : List Int, 0 ≤ k ∧ k < g.Entries.length ∧ Ze (gx g.Entries k.toNat).Block = true ∧ w = ((⟨g.Members, s, g.Entries, g.Books, g.Round, g.Year⟩ : GGuild), true) ∧ s = (tab6 fun a => gx g.Stock a - Zah (gx g.Entries k.toNat).Block a) ∧ Zao s = true
theorem Zr3 (g : GGuild) (k : Int) (h : Sm.ok g) : ∃ w, Zei g k = some w ∧ Zeg g k = some w ∧ Sm.ok w.1 ∧ (w = (g, false) ∨ ZqZ g k w) ∧ (Zs g = true → w.2 = false → 0 ≤ k → k < g.Entries.length → ZkG g.Stock (tab6 fun a => Zah (gx g.Entries k.toNat).Block a) = false) := by
 unfold Zei Zeg
 simp only [Zcd h, Zay h, Zav g (Zd9 h), ZbK g (Zd9 h), Zbv, ZaO, Option.bind_some]
 cases hg : Zs g
 ·exact ⟨(g, false), rfl, rfl, h, .inl rfl, fun hh => by cases hh⟩
 obtain ⟨_, hst, _, hel, hbo⟩ := Zf4 hg
 have ew : wr ((g.Entries.length : Int) - 1) = (g.Entries.length : Int) - 1 := Z6 (by omega) (by omega)
 simp only [ew, Bool.not_true, cond_false]
 cases hk : inR k 0 ((g.Entries.length : Int) - 1)
 ·exact ⟨(g, false), rfl, rfl, h, .inl rfl, fun _ _ h0 h1 => absurd (⟨h0, by omega⟩ : 0 ≤ k ∧ k ≤ (g.Entries.length : Int) - 1) (ZpK.1 hk)⟩
 rw [ZT] at hk
 have hkl : k.toNat < g.Entries.length := by omega
 have hb := hbo _ hkl
 simp only [Bool.not_true, cond_false, Zjg, Zjh, Option.bind_some, ZkF, hb, cond_true]
 generalize hF : (gx g.Entries k.toNat).Block = b at hb
 have hab : ∀ a : Nat, 0 ≤ Zah b a ∧ Zah b a ≤ 64 := fun a => Zlc b a
 have hts : Zao (tab6 fun a => Zah b a) = true := Zke fun a _ => by have := hab a; omega
 obtain ⟨sl, sb⟩ := ZfC hst
 rw [Za ⟨by omega, by omega⟩, Zm7 hst hts, Za ⟨by omega, by omega⟩, Za ⟨by omega, by omega⟩]
 simp only [ZdR, Option.bind_some]
 rw [Za (by omega)]
 have hst0 : g.Stock = tab6 fun a => gx g.Stock a - (bif decide (a < 0) then Zah b a else 0) := by
  apply ZjI
  ·rw [ZdR]; exact sl
  ·intro a ha
   rw [Zfc _ (by omega)]; simp
 have hp : ZkG g.Stock (tab6 fun a => Zah b a) = (List.range 6).all fun a => !decide (Zah b (a : Int) > gx g.Stock a) := by
  unfold ZkG
  rw [Bool.eq_iff_iff]
  simp only [List.all_eq_true, List.mem_range]
  constructor
  ·intro H a ha
   have := H a ha
   rwa [Zfc _ ha] at this
  ·intro H a ha
   rw [Zfc _ ha]
   exact H a ha
 rw [Zo0 (f := Zfj g (tab6 fun a => Zah b a)) (c := (g, false)) (fun a => !decide (Zah b (a : Int) > gx g.Stock a)) (fun k => tab6 fun a => gx g.Stock a - (bif decide (a < k) then Zah b a else 0)) hst0 (fun k hk hpr => by
  have hok : Zao (tab6 fun a => gx g.Stock a - (bif decide (a < k) then Zah b a else 0)) = true := Zke fun a ha => by
   have h1 := sb a ha
   have h2 := hab a
   cases hd : decide (a < k)
   ·simp only [cond_false]; omega
   ·have := hpr a (by simpa using hd)
    simp at this
    simp only [cond_true]; omega
  have h1 := sb k hk
  have h2 := hab k
  simp only [Zfj, Zfc _ hk, Znq hok hk, Option.bind_some, Nat.lt_irrefl, decide_false, cond_false, Int.sub_zero]
  cases hd : decide (Zah b (k : Int) > gx g.Stock k)
  ·have hin : inR (Zah b (k : Int)) 0 (gx g.Stock k) = true := ZT.2 ⟨h2.1, by simpa using hd⟩
   simp only [hin, cond_true, Bool.not_true, cond_false, Bool.not_false]
   congr 2
   rw [Zoz, Z6 (by omega) (by omega)]
   refine Zjn fun a ha => ?_
   cases he : a == k
   ·have hne : a ≠ k := by simpa using he
    have : decide (a < k) = decide (a < k + 1) := by simp; omega
    simp only [cond_false, this]
   ·have e : a = k := by simpa using he
    subst e
    simp
  ·have hin : inR (Zah b (k : Int)) 0 (gx g.Stock k) = false := ZpK.2 (by simp at hd; omega)
   simp only [hin, cond_false, Bool.not_false, cond_true, Bool.not_true, Zay h, Option.bind_some])]
 rw [hp]
 cases hall : (List.range 6).all fun a => !decide (Zah b (a : Int) > gx g.Stock a)
 ·exact ⟨(g, false), rfl, rfl, h, .inl rfl, fun _ _ _ _ => rfl⟩
 ·simp only [Bool.not_true, cond_false, cond_true, Zdg]
  have hl : lpO (Zfp g (tab6 fun a => Zah b a)) 6 g.Stock = some (tab6 fun a => gx g.Stock a - (bif decide (a < 6) then Zah b a else 0)) := ZaG (fun k => tab6 fun a => gx g.Stock a - (bif decide (a < k) then Zah b a else 0)) hst0 fun k hk => by
   have h1 := sb k hk
   have h2 := hab k
   unfold Zfp
   rw [Za (by omega), Za (by rw [ZdR]; exact hk), Za (by rw [ZdR]; exact hk), Zfc _ hk, Z6 (by omega) (by omega), Zoz]
   congr 2
   refine Zjn fun a ha => ?_
   cases he : a == k
   ·have hne : a ≠ k := by simpa using he
    have : decide (a < k) = decide (a < k + 1) := by simp; omega
    simp only [cond_false, this]
   ·have e : a = k := by simpa using he
    subst e
    simp
  rw [hl]
  obtain ⟨m1, m2, m3, m4⟩ := h
  have hall' : ∀ a : Nat, a < 6 → Zah b (a : Int) ≤ gx g.Stock a := fun a ha => by
   rw [List.all_eq_true] at hall
   have := hall a (by simpa using ha)
   simpa using this
  refine ⟨_, rfl, rfl, ⟨m1, ZpL (by rw [ZdR]; omega), m3, m4⟩, .inr ⟨_, by omega, by omega, by rw [hF]; exact hb, rfl, ?_, Zke fun a ha => ?_⟩, fun _ hh => by cases hh⟩
  ·rw [hF]
   refine Zjn fun a ha => ?_
   rw [show decide (a < 6) = true by simpa using ha, cond_true]
  ·have h1 := sb a ha
   have h2 := hab a
   have h3 := hall' a ha
   rw [show decide (a < 6) = true by simpa using ha, cond_true]
   omega
theorem Zsa (g : GGuild) (k : Int) (h : Sm.ok g) : ∃ w, Zei g k = some w ∧ Zeg g k = some w ∧ Sm.ok w.1 ∧ (w = (g, false) ∨ ZqZ g k w) :=
 have ⟨w, a, b, c, d, _⟩ := Zr3 g k h
 ⟨w, a, b, c, d⟩

theorem ZtT (xs : List GMember) (n : Int) (hl : xs.length ≤ 1048600) : ∃ j : Nat, j ≤ xs.length ∧ wlO (ZaY xs n) 18446744073709551616 0 = some (j : Int) := by
 have key : ∀ m k fuel, k + m = xs.length → m < fuel → ∃ j : Nat, j ≤ xs.length ∧ whO (ZaY xs n) fuel (k : Int) = some (.inl (j : Int)) := by
  intro m
  induction m with
  | zero =>
   intro k fuel hk hf
   obtain ⟨fuel, rfl⟩ : ∃ q, fuel = q + 1 := ⟨fuel - 1, by omega⟩
   refine ⟨k, by omega, ?_⟩
   have hd : decide ((k : Int) < (xs.length : Int)) = false := by simp; omega
   have hg : ZaY xs n (k : Int) = some (.brk (k : Int)) := by
    unfold ZaY
    rw [hd]; rfl
   rw [whO, hg]; rfl
  | succ m ih =>
   intro k fuel hk hf
   obtain ⟨fuel, rfl⟩ : ∃ q, fuel = q + 1 := ⟨fuel - 1, by omega⟩
   have hd : decide ((k : Int) < (xs.length : Int)) = true := by simp; omega
   have e : wr ((k : Int) + 1) = ((k + 1 : Nat) : Int) := by rw [Z6 (by omega) (by omega)]; simp
   have hg : ZaY xs n (k : Int) = some (bif decide ((gx xs k).Number < n) then .next ((k + 1 : Nat) : Int) else .brk (k : Int)) := by
    unfold ZaY
    rw [hd, e]
    simp only [cond_true, Int.toNat_natCast]
    rw [Za ⟨by omega, by omega⟩]
    simp only [Option.bind_some]
    cases decide ((gx xs k).Number < n) <;> rfl
   rw [whO, hg]
   cases decide ((gx xs k).Number < n)
   ·exact ⟨k, by omega, rfl⟩
   ·exact ih (k + 1) fuel (by omega) (by omega)
 obtain ⟨j, h1, h2⟩ := key xs.length 0 18446744073709551616 (by omega) (by omega)
 refine ⟨j, h1, ?_⟩
 unfold wlO
 rw [show (0 : Int) = ((0 : Nat) : Int) from rfl, h2]; rfl
theorem Zv4 {α : Type} [Rep α] (A B : List α) (x : α) {j : Nat} (hj : A.length = j) : gx ((A ++ [x]) ++ B) j = x := by
 subst hj
 simp [gx, List.getD]

theorem Zvw (xs : List GMember) (n y : Int) (hl : xs.length ≤ 1048576) : ∃ (r : List GMember × Bool) (j : Nat), wlO (ZaY xs n) 18446744073709551616 0 = some (j : Int) ∧ r.1.length ≤ xs.length + 1 ∧ ZbA xs n y = some r ∧ ZcX xs n y = some r ∧ (∀ m ∈ r.1, m ∈ xs ∨ m.Number = n) ∧ (ZK xs = true → inR y 1900 2999 = true → ZK (((([] : List GMember) ++ ((xs.drop 0).take (j - 0))) ++ [(GMember.mk n y (wr (y - 1)))]) ++ ((xs.drop j).take (xs.length - j))) = true → r = (((([] : List GMember) ++ ((xs.drop 0).take (j - 0))) ++ [(GMember.mk n y (wr (y - 1)))]) ++ ((xs.drop j).take (xs.length - j)), true)) := by
 obtain ⟨j, hj, hloop⟩ := ZtT xs n (by omega)
 have hloop' : wlO (Zhq xs n) 18446744073709551616 0 = some (j : Int) := hloop
 have hA : (([] : List GMember) ++ ((xs.drop 0).take (j - 0))).length = j := by simp; omega
 have hB : ((xs.drop j).take (xs.length - j)).length = xs.length - j := by simp
 generalize hout : ((([] : List GMember) ++ ((xs.drop 0).take (j - 0))) ++ [(GMember.mk n y (wr (y - 1)))]) ++ ((xs.drop j).take (xs.length - j)) = out
 have hol : out.length = xs.length + 1 := by
  rw [← hout, List.length_append, List.length_append, hA, hB]; simp; omega
 have hmid : gx out j = GMember.mk n y (wr (y - 1)) := by rw [← hout]; exact Zv4 _ _ _ hA
 have g1 : gd (0 ≤ (j : Int) ∧ 0 ≤ (j : Int).toNat ∧ (j : Int).toNat ≤ xs.length) = fun (t : Option (List GMember × Bool)) => t := by
  funext t; exact Za ⟨by omega, by omega, by omega⟩ t
 have hd0 : ((xs.drop 0).take (j - 0)).length = j := by simp; omega
 have fI : ZcX xs n y = ((bif !ZK xs then some true else some (!ZK out)).bind fun j2 => bif j2 then some (xs, false) else some (out, true)) := by
  unfold ZcX
  rw [hloop']
  simp only [Option.bind_some, Int.toNat_natCast]
  rw [Za ⟨by omega, by omega, by omega⟩, Za (by rw [hd0]; simp; omega), Za (by rw [hA]; omega), Za ⟨by omega, by omega, by omega⟩, Za (by rw [List.length_append, hA, hB]; simp; omega)]
  rw [hout, Zcn xs (by omega), Zcn out (by omega), Zge (by omega)]
  simp only [Option.bind_some]
 have fS : ZbA xs n y = ((bif !ZK xs then some true else some (!inR y 1900 2999)).bind fun j1 => bif j1 then some (xs, false) else (bif !ZK out then some (xs, false) else some (out, true))) := by
  unfold ZbA
  rw [hloop]
  simp only [Option.bind_some, Int.toNat_natCast]
  rw [Za (by simp; omega), ZbI xs (by omega)]
  simp only [Zbv, Option.bind_some, List.nil_append]
  have e : ∀ t : Option (List GMember × Bool), (gd (0 ≤ (j : Int) ∧ 0 ≤ j ∧ j ≤ xs.length) <| gd (([] : List GMember).length + ((xs.drop 0).take (j - 0)).length ≤ 1099511627776) <| gd ((((xs.drop 0).take (j - 0))).length + 1 ≤ 1099511627776) <| gd (0 ≤ (j : Int) ∧ j ≤ xs.length ∧ xs.length ≤ xs.length) <| gd (((((xs.drop 0).take (j - 0))) ++ [(GMember.mk n y (wr (y - 1)))]).length + ((xs.drop j).take (xs.length - j)).length ≤ 1099511627776) t) = t := fun t => by
   rw [Za ⟨by omega, by omega, by omega⟩, Za (by rw [hd0]; simp; omega), Za (by rw [hd0]; omega), Za ⟨by omega, by omega, by omega⟩, Za (by rw [List.length_append, hd0, hB]; simp; omega)]
  rw [e]
  have ho : (((xs.drop 0).take (j - 0)) ++ [(GMember.mk n y (wr (y - 1)))]) ++ ((xs.drop j).take (xs.length - j)) = out := by rw [← hout]; simp
  rw [ho, ZbI out (by omega)]
  simp only [Option.bind_some]
 have hmem : ∀ m ∈ out, m ∈ xs ∨ m.Number = n := fun m h => by
  rw [← hout] at h
  simp only [List.nil_append, List.mem_append, List.mem_singleton] at h
  rcases h with (h | rfl) | h
  ·exact .inl (List.mem_of_mem_drop (List.mem_of_mem_take h))
  ·exact .inr rfl
  ·exact .inl (List.mem_of_mem_drop (List.mem_of_mem_take h))
 rw [fI, fS]
 cases hm : ZK xs
 ·exact ⟨(xs, false), j, hloop, by simp, rfl, rfl, fun m h => .inl h, fun h => by cases h⟩
 cases ho : ZK out
 ·exact ⟨(xs, false), j, hloop, by simp, by cases inR y 1900 2999 <;> rfl, rfl, fun m h => .inl h, fun _ _ h => by rw [hout, ho] at h; cases h⟩
 ·have hy : inR y 1900 2999 = true := by
   simp only [ZK, Bool.and_eq_true, List.all_eq_true, List.mem_range] at ho
   have := ho.1 j (by omega)
   simp only [memP, hmid, Bool.and_eq_true] at this
   exact this.1.1.2
  rw [hy]
  exact ⟨(out, true), j, hloop, by simp only; omega, rfl, rfl, hmem, fun _ _ _ => by rw [hout]⟩
theorem ZtP (xs : List GMember) (n y : Int) (hl : xs.length ≤ 1048576) : ∃ r : List GMember × Bool, r.1.length ≤ xs.length + 1 ∧ ZbA xs n y = some r ∧ ZcX xs n y = some r :=
 have ⟨r, _, _, a, b, c, _⟩ := Zvw xs n y hl
 ⟨r, a, b, c⟩

theorem ZrF {α : Type} [Rep α] {s : List α} {k : Nat} {x : α} (hk : k < s.length) (h : gx s k = x) : s.set k x = s := by
 apply ZjI
 ·simp
 ·intro i hi
  by_cases e : i = k
  ·subst e; rw [Zi3 hk, h]
  ·rw [Zet e]
theorem ZrO {α : Type} [Rep α] {f : Nat → List α × Bool → Option (Res (List α × Bool) Empty)} (xs : List α) (F : α → α) (p : α → Bool) (h : ∀ k s b, k < xs.length → s.length = xs.length → gx s k = gx xs k → f k (s, b) = some (.next (s.set k (F (gx xs k)), p (gx xs k) || b))) : lpO f xs.length (xs, false) = some (xs.map F, xs.any p) := by
 have hend : (xs.map F, xs.any p) = ((xs.take xs.length).map F ++ xs.drop xs.length, (xs.take xs.length).any p) := by simp
 rw [hend]
 refine ZaG (fun k => ((xs.take k).map F ++ xs.drop k, (xs.take k).any p)) (by simp) fun k hk => ?_
 have hg : gx ((xs.take k).map F ++ xs.drop k) k = gx xs k := by
  unfold gx List.getD
  rw [List.getElem?_append_right (by simp; omega)]
  simp [Nat.min_eq_left (Nat.le_of_lt hk)]
 rw [h k _ _ hk (by simp; omega) hg]
 congr 3
 ·apply ZjI
  ·simp; omega
  ·intro i hi
   have hi' : i < xs.length := by simp at hi; omega
   by_cases e : i = k
   ·subst e
    rw [Zi3 (by simp; omega), List.take_succ_eq_append_getElem hk, ← Zbq hk, List.map_append]
    rw [Zfa (by simp; omega)]
    unfold gx List.getD
    rw [List.getElem?_append_right (by simp; omega)]
    simp [Nat.min_eq_left (Nat.le_of_lt hk)]
   ·rw [Zet e]
    rcases Nat.lt_or_ge i k with hlt | hge
    ·rw [Zfa (by simp; omega), Zfa (by simp; omega), List.take_succ_eq_append_getElem hk, List.map_append, Zfa (by simp; omega)]
    ·unfold gx List.getD
     rw [List.getElem?_append_right (by simp; omega), List.getElem?_append_right (by simp; omega)]
     simp only [List.length_map, List.length_take, List.getElem?_drop]
     rw [Nat.min_eq_left (by omega), Nat.min_eq_left (by omega), show k + (i - k) = k + 1 + (i - (k + 1)) by omega]
 ·rw [List.take_succ_eq_append_getElem hk, List.any_append, ← Zbq hk, Bool.or_comm]
  simp
def dueM (n : Int) (m : GMember) : GMember := bif m.Number == n then ⟨m.Number, m.Since, wr (m.Paid + 1)⟩ else m
def PayM (xs : List GMember) (n : Int) : List GMember × Bool := bif ZK xs && xs.any (fun m => m.Number == n) && ZK (xs.map (dueM n)) then (xs.map (dueM n), true) else (xs, false)
theorem Zvh (xs : List GMember) (n : Int) : (PayM xs n).1.length = xs.length := by
 unfold PayM
 cases ZK xs && xs.any (fun m => m.Number == n) && ZK (xs.map (dueM n)) <;> simp

theorem ZoZ {xs : List GMember} (hl : xs.length ≤ 1048577) (n : Int) : ZgD xs n 1 = some (PayM xs n) := by
 unfold ZgD PayM
 simp only [List.nil_append]
 rw [Za (by simp; omega), Za (by omega), ZrO (f := Zgy xs n 1) xs (dueM n) (fun m => m.Number == n) (fun k s b hk hs hg => by
  have i1 : inR 1 1 10 = true := rfl
  simp only [Zgy, Zbv, i1, Option.bind_some, cond_true, dueM, hg]
  cases hq : (gx xs k).Number == n
  ·simp only [cond_false, Option.bind_some, Bool.false_or]
   rw [ZrF (by omega) hg]
  ·simp only [cond_true]
   rw [Za (by omega)]
   rfl)]
 simp only [Option.bind_some, ZbI xs (show xs.length ≤ 4611686018427387904 by omega), ZbI (xs.map (dueM n)) (show (xs.map (dueM n)).length ≤ 4611686018427387904 by simp; omega)]
 cases ZK xs <;> cases xs.any (fun m => m.Number == n) <;> cases ZK (xs.map (dueM n)) <;> rfl

theorem Zpd {xs : List GMember} (hl : xs.length ≤ 1048577) (n : Int) : ZgK xs n 1 = some (PayM xs n) := by
 have i1 : inR 1 1 10 = true := rfl
 unfold ZgK PayM
 simp only [Zge (show xs.length ≤ 1048600 by omega), ZaO, i1, Option.bind_some, Zcn xs (show xs.length ≤ 4611686018427387904 by omega)]
 cases ZK xs
 ·rfl
 simp only [Bool.not_true, cond_false, Option.bind_some]
 rw [Za (by omega), ZrO (f := Zgu n 1) xs (dueM n) (fun m => m.Number == n) (fun k s b hk hs hg => by
  unfold Zgu
  rw [Za (by simp only; omega)]
  simp only [hg, dueM]
  cases hq : (gx xs k).Number == n
  ·simp only [cond_false]
   rw [ZrF (by omega) hg]
  ·rfl)]
 simp only [Option.bind_some, Zcn (xs.map (dueM n)) (show (xs.map (dueM n)).length ≤ 4611686018427387904 by simp; omega)]
 cases xs.any (fun m => m.Number == n) <;> cases ZK (xs.map (dueM n)) <;> rfl

def Zfm (xs : List GBooking) (b : GBooking) : List GBooking × Bool := bif ZaW xs && ZaW (xs ++ [b]) then (xs ++ [b], true) else (xs, false)
theorem Zuj (xs : List GBooking) (b : GBooking) : (Zfm xs b).1.length ≤ xs.length + 1 := by
 unfold Zfm
 cases ZaW xs && ZaW (xs ++ [b]) <;> simp

theorem ZoG {xs : List GBooking} (hl : xs.length ≤ 1048576) (b : GBooking) : ZgI xs b = some (Zfm xs b) := by
 unfold ZgI Zfm
 simp only [List.nil_append]
 rw [Za (by simp; omega), Za (by omega), ZhS xs (by omega), ZhS (xs ++ [b]) (by simp; omega)]
 cases ZaW xs <;> cases ZaW (xs ++ [b]) <;> rfl

theorem Zpj {xs : List GBooking} (hl : xs.length ≤ 1048576) (b : GBooking) : ZgH xs b = some (Zfm xs b) := by
 unfold ZgH Zfm
 simp only [List.nil_append]
 rw [Za (by simp; omega), Za (by omega), ZhL xs (by omega), ZhL (xs ++ [b]) (by simp; omega)]
 cases ZaW xs <;> cases ZaW (xs ++ [b]) <;> rfl

def ZpG (g : GGuild) (n : Int) (w : GGuild × Bool) : Prop := ∃ (r : List GMember × Bool) (d : Int), ZbA g.Members n g.Year = some r ∧ r.2 = true ∧ (PayM r.1 n).2 = true ∧ (Zfm g.Books ⟨d, 0, 1, 20⟩).2 = true ∧ w = ((⟨(PayM r.1 n).1, g.Stock, g.Entries, (Zfm g.Books ⟨d, 0, 1, 20⟩).1, g.Round, g.Year⟩ : GGuild), true) ∧ Zs w.1 = true
def ZhX (xs : List GBooking) : Int := bif decide ((xs.length : Int) > 0) then (gx xs (xs.length - 1)).Day else 0
theorem Zuu (g : GGuild) (n : Int) (h : Sm.ok g) : ∃ r : List GMember × Bool, ZbA g.Members n g.Year = some r ∧ r.1.length ≤ g.Members.length + 1 ∧ (∀ x : GGuild, x = ⟨(PayM r.1 n).1, g.Stock, g.Entries, (Zfm g.Books ⟨ZhX g.Books, 0, 1, 20⟩).1, g.Round, g.Year⟩ → Zdx g n = some (bif Zs g && (g.Round == 0) && r.2 && (PayM r.1 n).2 && (Zfm g.Books ⟨ZhX g.Books, 0, 1, 20⟩).2 && Zs x then (x, true) else (g, false)) ∧ Zdt g n = some (bif Zs g && (g.Round == 0) && r.2 && (PayM r.1 n).2 && (Zfm g.Books ⟨ZhX g.Books, 0, 1, 20⟩).2 && Zs x then (x, true) else (g, false))) := by
 have hm := h.1.1
 have hbk : g.Books.length ≤ 1048576 := h.2.2.2.1
 obtain ⟨r, rl, rs, ri⟩ := ZtP g.Members n g.Year hm
 have hd : (bif decide ((g.Books.length : Int) > 0) then gd (0 ≤ wr ((g.Books.length : Int) - 1) ∧ wr ((g.Books.length : Int) - 1) < (g.Books.length : Int)) (some (gx g.Books (wr ((g.Books.length : Int) - 1)).toNat).Day) else some 0) = some (ZhX g.Books) := by
  unfold ZhX
  cases hd : decide ((g.Books.length : Int) > 0)
  ·rfl
  ·have hd' : (g.Books.length : Int) > 0 := by simpa using hd
   have e : wr ((g.Books.length : Int) - 1) = ((g.Books.length - 1 : Nat) : Int) := by rw [Z6 (by omega) (by omega)]; omega
   rw [e, cond_true, cond_true, Za ⟨by omega, by omega⟩, Int.toNat_natCast]
 generalize ZhX g.Books = d at hd ⊢
 have pl := Zvh r.1 n
 have bl := Zuj g.Books ⟨d, 0, 1, 20⟩
 have hgl := Zd9 h
 have hn : GL (⟨(PayM r.1 n).1, g.Stock, g.Entries, (Zfm g.Books ⟨d, 0, 1, 20⟩).1, g.Round, g.Year⟩ : GGuild) := ⟨by simp only; omega, hgl.2.1, hgl.2.2.1, by simp only; omega⟩
 refine ⟨r, rs, rl, fun x hxe => ?_⟩
 unfold Zdx Zdt
 simp only [Zcd h, Zay h, Zav g hgl, Option.bind_some, hd, rs, ri, ZoZ (show r.1.length ≤ 1048577 by omega), Zpd (show r.1.length ≤ 1048577 by omega), ZoG hbk, Zpj hbk, Zav _ hn, Zgh h hn]
 simp only [← hxe]
 have hr' : (g.Round != 0) = !(g.Round == 0) := rfl
 rw [hr']
 cases Zs g <;> cases (g.Round == 0) <;> cases r.2 <;> cases (PayM r.1 n).2 <;> cases (Zfm g.Books ⟨d, 0, 1, 20⟩).2 <;> cases Zs x <;> exact ⟨rfl, rfl⟩
theorem Zrw (g : GGuild) (n : Int) (h : Sm.ok g) : ∃ w, Zdx g n = some w ∧ Zdt g n = some w ∧ Sm.ok w.1 ∧ (w = (g, false) ∨ ZpG g n w) := by
 obtain ⟨r, r1, _, hx⟩ := Zuu g n h
 obtain ⟨e1, e2⟩ := hx _ rfl
 cases hc : Zs g && (g.Round == 0) && r.2 && (PayM r.1 n).2 && (Zfm g.Books ⟨ZhX g.Books, 0, 1, 20⟩).2 && Zs (⟨(PayM r.1 n).1, g.Stock, g.Entries, (Zfm g.Books ⟨ZhX g.Books, 0, 1, 20⟩).1, g.Round, g.Year⟩ : GGuild)
 ·rw [hc] at e1 e2
  exact ⟨_, e1, e2, h, .inl rfl⟩
 ·rw [hc] at e1 e2
  simp only [Bool.and_eq_true] at hc
  obtain ⟨⟨⟨⟨⟨_, _⟩, c3⟩, c4⟩, c5⟩, c6⟩ := hc
  exact ⟨_, e1, e2, Zie c6, .inr ⟨r, _, r1, c3, c4, c5, rfl, c6⟩⟩

theorem Zur (g : GGuild) (n : Int) (h : Sm.ok g) : ∃ w, Zdx g n = some w ∧ Zdt g n = some w ∧ Sm.ok w.1 :=
 have ⟨w, a, b, c, _⟩ := Zrw g n h
 ⟨w, a, b, c⟩

theorem Zlm (g : GGuild) (n : Int) (h : Sm.ok g) (_ : Fit.ok n) : ∃ w, Zdx g n = some w ∧ Zdt g n = some w ∧ Sm.ok w.1 := Zur g n h

theorem ZnL : ∃ w, ZcN = some w ∧ ZcT = some w ∧ Sm.ok w := by
 obtain ⟨w0, s0, i0, m0⟩ := ZqI 2020 ⟨by decide, by decide⟩
 obtain ⟨w1, s1, i1, m1⟩ := Zlm w0.1 1 m0 ⟨by decide, by decide⟩
 obtain ⟨w2, s2, i2, m2⟩ := Zlm w1.1 2 m1 ⟨by decide, by decide⟩
 obtain ⟨w3, s3, i3, m3⟩ := Zlm w2.1 3 m2 ⟨by decide, by decide⟩
 refine ⟨w3.1, ?_, ?_, m3⟩
 ·unfold ZcN
  rw [s0]
  simp only [Option.bind_some]
  rw [ZaG (f := Zgf) (s0 := (w0.1.Members, w0.1.Stock, w0.1.Entries, w0.1.Books, w0.1.Round, w0.1.Year)) (fun k => (fun g : GGuild => (g.Members, g.Stock, g.Entries, g.Books, g.Round, g.Year)) (if k = 0 then w0.1 else if k = 1 then w1.1 else if k = 2 then w2.1 else w3.1)) rfl (fun k hk => by
   have hk3 : k = 0 ∨ k = 1 ∨ k = 2 := by omega
   rcases hk3 with rfl | rfl | rfl
   ·exact (congrArg (fun o : Option (GGuild × Bool) => o.bind fun v2 => some (Res.next (v2.1.Members, v2.1.Stock, v2.1.Entries, v2.1.Books, v2.1.Round, v2.1.Year))) s1)
   ·exact (congrArg (fun o : Option (GGuild × Bool) => o.bind fun v2 => some (Res.next (v2.1.Members, v2.1.Stock, v2.1.Entries, v2.1.Books, v2.1.Round, v2.1.Year))) s2)
   ·exact (congrArg (fun o : Option (GGuild × Bool) => o.bind fun v2 => some (Res.next (v2.1.Members, v2.1.Stock, v2.1.Entries, v2.1.Books, v2.1.Round, v2.1.Year))) s3))]
  rfl
 ·unfold ZcT
  rw [i0]
  simp only [Option.bind_some]
  rw [ZaG (f := Zgd) (s0 := (w0.1.Members, w0.1.Stock, w0.1.Entries, w0.1.Books, w0.1.Round, w0.1.Year)) (fun k => (fun g : GGuild => (g.Members, g.Stock, g.Entries, g.Books, g.Round, g.Year)) (if k = 0 then w0.1 else if k = 1 then w1.1 else if k = 2 then w2.1 else w3.1)) rfl (fun k hk => by
   have hk3 : k = 0 ∨ k = 1 ∨ k = 2 := by omega
   rcases hk3 with rfl | rfl | rfl
   ·exact (congrArg (fun o : Option (GGuild × Bool) => o.bind fun v2 => some (Res.next (v2.1.Members, v2.1.Stock, v2.1.Entries, v2.1.Books, v2.1.Round, v2.1.Year))) i1)
   ·exact (congrArg (fun o : Option (GGuild × Bool) => o.bind fun v2 => some (Res.next (v2.1.Members, v2.1.Stock, v2.1.Entries, v2.1.Books, v2.1.Round, v2.1.Year))) i2)
   ·exact (congrArg (fun o : Option (GGuild × Bool) => o.bind fun v2 => some (Res.next (v2.1.Members, v2.1.Stock, v2.1.Entries, v2.1.Books, v2.1.Round, v2.1.Year))) i3))]
  rfl

def Zid (b : GBlock) (a : Int) : Bool := b.Cells.any fun c => c.A == a || c.B == a
theorem ZkD {α : Type} {f : α → Int} : ∀ {xs : List α}, (∀ x ∈ xs, 0 ≤ f x) → 0 ≤ isum (xs.map f)
 | [], _ => by simp [isum]
 | x :: r, h => by
  have := ZkD (xs := r) fun y hy => h y (by simp [hy])
  have := h x (by simp)
  simp only [List.map_cons, isum]; omega
theorem Zmm {α : Type} {f : α → Int} : ∀ {xs : List α}, (∀ x ∈ xs, 0 ≤ f x) → (0 < isum (xs.map f) ↔ ∃ x, x ∈ xs ∧ 0 < f x)
 | [], _ => by simp [isum]
 | x :: r, h => by
  have ih := Zmm (xs := r) fun y hy => h y (by simp [hy])
  have h0 := h x (by simp)
  have hr := ZkD (xs := r) (f := f) fun y hy => h y (by simp [hy])
  simp only [List.map_cons, isum]
  constructor
  ·intro hp
   by_cases hx : 0 < f x
   ·exact ⟨x, by simp, hx⟩
   ·obtain ⟨y, hy, hp⟩ := ih.1 (by omega)
    exact ⟨y, by simp [hy], hp⟩
  ·rintro ⟨y, hy, hp⟩
   simp only [List.mem_cons] at hy
   rcases hy with rfl | hy
   ·omega
   ·have := ih.2 ⟨y, hy, hp⟩; omega
theorem ZnX {b : GBlock} (h : Ze b = true) (a : Int) : decide (Zah b a > 0) = Zid b a := by
 rw [Bool.eq_iff_iff, decide_eq_true_iff]
 unfold Zah Zid
 rw [h, cond_true, List.any_eq_true]
 refine (Zmm fun c _ => (ZiC a c).1).trans ?_
 constructor
 ·rintro ⟨c, hc, hp⟩
  refine ⟨c, hc, ?_⟩
  unfold arM at hp
  cases h1 : c.A == a
  ·cases h2 : c.B == a
   ·rw [h1, h2] at hp; simp at hp
   ·rfl
  ·rfl
 ·rintro ⟨c, hc, hp⟩
  refine ⟨c, hc, ?_⟩
  unfold arM
  cases h1 : c.A == a
  ·cases h2 : c.B == a
   ·rw [h1, h2] at hp; simp at hp
   ·simp
  ·cases h2 : c.B == a <;> simp
def ZA (b : GBlock) : List Int := ((List.range 6).filter fun a : Nat => Zid b (a : Int)).map fun a : Nat => (a : Int)
def Zf9 (b : GBlock) : List Int := bif Ze b then ZA b else []
theorem ZjY {b : GBlock} {x : Int} : x ∈ ZA b ↔ (0 ≤ x ∧ x ≤ 5) ∧ Zid b x = true := by
 simp only [ZA, List.mem_map, List.mem_filter, List.mem_range]
 constructor
 ·rintro ⟨a, ⟨h1, h2⟩, rfl⟩
  exact ⟨⟨by omega, by omega⟩, h2⟩
 ·rintro ⟨⟨h1, h2⟩, h3⟩
  obtain ⟨a, rfl⟩ := Int.eq_ofNat_of_zero_le h1
  exact ⟨a, ⟨by omega, h3⟩, rfl⟩
theorem Zpp (b : GBlock) : (ZA b).Nodup := by
 have h : ((List.range 6).filter fun a : Nat => Zid b (a : Int)).Nodup := List.Pairwise.filter _ List.nodup_range
 exact List.Pairwise.map _ (fun a b hab e => hab (by omega)) h
theorem Zrd {b : GBlock} (h : Ze b = true) : 0 < (ZA b).length := by
 obtain ⟨n, hn, h1, h2, hl, hc⟩ := Zu h
 have hnn : 1 * 1 ≤ n * n := Nat.mul_le_mul h1 h1
 have hm : gx b.Cells 0 ∈ b.Cells := Z3 (by omega)
 obtain ⟨_, _, a1, a2, _⟩ := ZaS (hc _ hm)
 apply List.length_pos_of_mem (a := (gx b.Cells 0).A)
 refine ZjY.2 ⟨⟨a1, a2⟩, ?_⟩
 unfold Zid
 rw [List.any_eq_true]
 exact ⟨_, hm, by simp⟩

theorem Zfr (b : GBlock) : Zc9 b = some (Zf9 b) := by
 unfold Zc9 Zf9
 simp only [ZV, Option.bind_some]
 cases h : Ze b
 ·rfl
 simp only [Bool.not_true, cond_false, cond_true]
 rw [Zjl (f := Zft b) (xs := []) (fun a : Nat => Zid b (a : Int)) (fun a : Nat => (a : Int)) (fun k s hk hs => by
  simp only [Zft, ZkZ, Option.bind_some, ZnX h]
  rw [Za (by simp at hs; omega)]
  cases Zid b (k : Int) <;> rfl)]
 rfl

theorem Zof (b : GBlock) : ZfY b = some (Zf9 b) := by
 unfold ZfY Zf9
 simp only [Z7, Option.bind_some]
 cases h : Ze b
 ·rfl
 obtain ⟨n, hn, h1, h2, hl, hc⟩ := Zu h
 have hnn : n * n ≤ 4 * 4 := Nat.mul_le_mul h2 h2
 simp only [Bool.not_true, cond_false, cond_true]
 rw [Zjl (f := Zfk b) (xs := []) (fun a : Nat => Zid b (a : Int)) (fun a : Nat => (a : Int)) (fun k s hk hs => by
  unfold Zfk
  rw [Za (by omega), ZaG (f := Zfy b k) (s0 := false) (fun j => (b.Cells.take j).any fun c => c.A == (k : Int) || c.B == (k : Int)) rfl (fun j hj => by
   unfold Zfy
   rw [List.take_succ_eq_append_getElem hj, List.any_append, ← Zbq hj]
   simp)]
  simp only [Option.bind_some, List.take_length]
  rw [Za (by simp at hs; omega)]
  unfold Zid
  cases b.Cells.any fun c => c.A == (k : Int) || c.B == (k : Int) <;> rfl)]
 rfl

def Zr (c : GCell) (s : Nat) : Int := bif s == 0 || (c.Split == 1 && s == 1) || (c.Split == 2 && s == 3) then c.A else c.B
theorem Zhs (c : GCell) (s : Nat) : Zr c s = c.A ∨ Zr c s = c.B := by
 unfold Zr
 cases (s == 0 || (c.Split == 1 && s == 1) || (c.Split == 2 && s == 3)) <;> simp
theorem Zln {c : GCell} (h : Zo c = true) (s : Nat) : 0 ≤ Zr c s ∧ Zr c s ≤ 5 := by
 obtain ⟨_, _, h1, h2, h3, h4, _⟩ := ZaS h
 rcases Zhs c s with e | e <;> rw [e] <;> omega

theorem Zka {c : GCell} (h : Zo c = true) {s : Nat} (hs : s < 4) : Zfb c (s : Int) = some (Zr c s) := by
 have i : inR (s : Int) 0 3 = true := ZT.2 ⟨by omega, by omega⟩
 unfold Zfb Zr
 simp only [Zb0, Zbv, h, i, Option.bind_some, Bool.not_true, cond_false]
 have h4 : s = 0 ∨ s = 1 ∨ s = 2 ∨ s = 3 := by omega
 rcases h4 with rfl | rfl | rfl | rfl <;> cases c.Split == 1 <;> cases c.Split == 2 <;> rfl

theorem Zkc {c : GCell} (h : Zo c = true) {s : Nat} (hs : s < 4) : Zfd c (s : Int) = some (Zr c s) := by
 have i : inR (s : Int) 0 3 = true := ZT.2 ⟨by omega, by omega⟩
 unfold Zfd Zr
 simp only [ZbD, ZaO, h, i, Option.bind_some, Bool.not_true, cond_false]
 have h4 : s = 0 ∨ s = 1 ∨ s = 2 ∨ s = 3 := by omega
 rcases h4 with rfl | rfl | rfl | rfl <;> cases c.Split == 1 <;> cases c.Split == 2 <;> rfl

def Zfe (c d : GCell) : Int := sumN 4 fun s => bif Zr c s == Zr d s then 1 else 0
theorem ZkS (c d : GCell) : 0 ≤ Zfe c d ∧ Zfe c d ≤ 4 := by
 have := Zhf (m := 4) (F := fun s => bif Zr c s == Zr d s then 1 else 0) (B := 1) fun s _ => by cases Zr c s == Zr d s <;> simp
 unfold Zfe; omega
def ZiK (b d : GBlock) : Int := sumN b.Cells.length fun i => Zfe (gx b.Cells i) (gx d.Cells i)
def Zdv (b d : GBlock) : Bool := Ze b && Ze d && (b.Size == d.Size)
theorem ZiF {b d : GBlock} (h : Zdv b d = true) : Ze b = true ∧ Ze d = true ∧ b.Cells.length = d.Cells.length ∧ b.Cells.length ≤ 16 := by
 simp only [Zdv, Bool.and_eq_true, beq_iff_eq] at h
 obtain ⟨⟨h1, h2⟩, h3⟩ := h
 obtain ⟨n, hn, n1, n2, nl, _⟩ := Zu h1
 obtain ⟨m, hm, m1, m2, ml, _⟩ := Zu h2
 have e : n = m := by omega
 have hnn : n * n ≤ 4 * 4 := Nat.mul_le_mul n2 n2
 exact ⟨h1, h2, by rw [nl, ml, e], by omega⟩

theorem Zhp (b d : GBlock) : ZcO b d = some (Zdv b d) := by
 unfold ZcO Zdv
 simp only [ZV, Option.bind_some]
 cases Ze b <;> cases Ze d <;> rfl

theorem ZqL (b d : GBlock) : Zh2 b d = some (Zdv b d) := by
 unfold Zh2 Zdv
 simp only [Z7, Option.bind_some]
 cases Ze b <;> cases Ze d <;> rfl

theorem Zlh {c d : GCell} (hc : Zo c = true) (hd : Zo d = true) : Zdq c d = some (Zfe c d) := by
 unfold Zdq
 simp only [ZbD, hc, hd, Option.bind_some, Bool.not_true, cond_false]
 rw [ZkL (f := Zdz c d) (fun s => bif Zr c s == Zr d s then 1 else 0) (s0 := 0) (B := 1) (fun k s hk h0 h1 => by
  simp only [Zdz, Zkc hc hk, Zkc hd hk, Option.bind_some]
  cases Zr c k == Zr d k
  ·simp
  ·simp only [cond_true]; rw [Z6 (by omega) (by omega)]) (fun k _ => by cases Zr c k == Zr d k <;> simp) (by omega) (by omega) (by omega)]
 simp [Zfe, sumN]

theorem ZoC {b d : GBlock} (h : Zdv b d = true) : ZfP b d = some (ZiK b d) := by
 obtain ⟨h1, h2, h3, h4⟩ := ZiF h
 obtain ⟨_, _, _, _, _, c1⟩ := Zu h1
 obtain ⟨_, _, _, _, _, c2⟩ := Zu h2
 unfold ZfP
 simp only [Zhp, h, Option.bind_some, Bool.not_true, cond_false]
 rw [Za (by omega), ZkL (f := Zfn b d) (fun i => Zfe (gx b.Cells i) (gx d.Cells i)) (s0 := 0) (B := 4) (fun k s hk g0 g1 => by
  have := ZkS (gx b.Cells k) (gx d.Cells k)
  unfold Zfn
  rw [Za (by omega), Zlh (c1 _ (Z3 hk)) (c2 _ (Z3 (by omega)))]
  simp only [Option.bind_some]
  rw [Z6 (by omega) (by omega)]) (fun k _ => ZkS _ _) (by omega) (by omega) (by omega)]
 simp [ZiK, sumN]

def mx : Nat → (Nat → Int) → Int
 | 0, _ => 0
 | n + 1, g => if g n > mx n g then g n else mx n g
theorem Zj8 : ∀ n g, 0 ≤ mx n g
 | 0, _ => Int.le_refl _
 | n + 1, g => by
  have := Zj8 n g
  unfold mx
  split <;> omega
theorem ZqV {g : Nat → Int} : ∀ {n k : Nat}, k < n → g k ≤ mx n g
 | n + 1, k, h => by
  unfold mx
  rcases Nat.lt_or_ge k n with hlt | hge
  ·have := ZqV (g := g) hlt
   split <;> omega
  ·have e : k = n := by omega
   subst e
   split <;> omega
theorem ZlA {g : Nat → Int} {v : Int} (h0 : 0 ≤ v) : ∀ {n : Nat}, (∀ k, k < n → g k ≤ v) → mx n g ≤ v
 | 0, _ => h0
 | n + 1, h => by
  have := ZlA h0 (n := n) fun k hk => h k (by omega)
  have := h n (by omega)
  unfold mx
  split <;> omega
theorem ZrQ {f : Nat → Int → Option (Res Int Empty)} {N : Nat} (g : Nat → Int) (h : ∀ k s, k < N → f k s = some (.next (if g k > s then g k else s))) : lpO f N 0 = some (mx N g) :=
 ZaG (fun k => mx k g) rfl fun k hk => by rw [h k _ hk]; rfl
def ZtS (b d : GBlock) : Int := mx 8 fun k => ZiK b (Z1 d (k : Int))
theorem ZmG {b d : GBlock} (h : Zdv b d = true) {k : Nat} (hk : k < 8) : Zdv b (Z1 d (k : Int)) = true := by
 simp only [Zdv, Bool.and_eq_true, beq_iff_eq] at h ⊢
 obtain ⟨⟨h1, h2⟩, h3⟩ := h
 obtain ⟨v1, v2⟩ := ZjB h2 hk
 exact ⟨⟨h1, v1⟩, by rw [v2, h3]⟩

theorem Zly {b d : GBlock} (h : Zdv b d = true) : Zdo b d = some (ZtS b d) := by
 unfold Zdo
 simp only [Zhp, h, Option.bind_some, Bool.not_true, cond_false, ZlL, Zqw]
 rw [Za (by omega), ZrQ (f := Zdy b (ZkT d)) (fun k => ZiK b (Z1 d (k : Int))) (fun k s hk => by
  unfold Zdy
  rw [ZrT _ hk, ZoC (ZmG h hk)]
  rfl)]
 rfl

theorem ZnQ {c : GCell} {l : List Int} (hc : Zo c = true) (hl : ZaL l = true) (s : Nat) : Zr (ZH c l) s = gx l (Zr c s).toNat := by
 obtain ⟨h1, h2, h3, h4, h5, h6, h7⟩ := ZaS hc
 obtain ⟨g1, g2⟩ := Zf0 hl
 obtain ⟨a0, a1⟩ := g2 _ (Z3 (show c.A.toNat < l.length by omega))
 obtain ⟨b0, b1⟩ := g2 _ (Z3 (show c.B.toNat < l.length by omega))
 unfold ZH Zbm
 rw [hc, hl]
 simp only [Bool.and_self, cond_true]
 cases he : gx l c.A.toNat == gx l c.B.toNat
 ·have hne : gx l c.A.toNat ≠ gx l c.B.toNat := by simpa using he
  have hab : c.A ≠ c.B := fun e => hne (by rw [e])
  have hok : Zo ⟨c.Split, gx l c.A.toNat, gx l c.B.toNat⟩ = true := ZaN h1 h2 a0 a1 b0 b1 ⟨fun e => absurd (h7.1 e) hab, fun e => absurd e hne⟩
  rw [hok]
  simp only [cond_false, cond_true]
  unfold Zr
  simp only
  cases (s == 0 || (c.Split == 1 && s == 1) || (c.Split == 2 && s == 3)) <;> rfl
 ·have e : gx l c.A.toNat = gx l c.B.toNat := by simpa using he
  have hi : inR (gx l c.A.toNat) 0 5 = true := ZT.2 ⟨a0, a1⟩
  unfold ZbF
  rw [hi]
  simp only [cond_true]
  rcases Zhs c s with q | q <;> rw [q]
  ·rcases Zhs ⟨0, gx l c.A.toNat, gx l c.A.toNat⟩ s with r | r <;> exact r
  ·rw [← e]
   rcases Zhs ⟨0, gx l c.A.toNat, gx l c.A.toNat⟩ s with r | r <;> exact r
theorem ZqK {c : GCell} {l : List Int} (hc : Zo c = true) (hl : ZaL l = true) : Zac (ZH c l) = ZH (Zac c) l := by
 obtain ⟨h1, h2, h3, h4, h5, h6, h7⟩ := ZaS hc
 obtain ⟨g1, g2⟩ := Zf0 hl
 obtain ⟨a0, a1⟩ := g2 _ (Z3 (show c.A.toNat < l.length by omega))
 obtain ⟨b0, b1⟩ := g2 _ (Z3 (show c.B.toNat < l.length by omega))
 have ht := ZnB hc
 have hs : c.Split = 0 ∨ c.Split = 1 ∨ c.Split = 2 := by omega
 have hia : inR (gx l c.A.toNat) 0 5 = true := ZT.2 ⟨a0, a1⟩
 have hib : inR (gx l c.B.toNat) 0 5 = true := ZT.2 ⟨b0, b1⟩
 obtain ⟨cs, ca, cb⟩ := c
 simp only at h1 h2 h3 h4 h5 h6 h7 hs hia hib a0 a1 b0 b1
 rcases hs with rfl | rfl | rfl
 ·have e := h7.1 rfl
  subst e
  have ew : Zo ⟨0, gx l ca.toNat, gx l ca.toNat⟩ = true := ZaN (by simp) (by simp) a0 a1 a0 a1 (by simp)
  have e1 : ZH ⟨0, ca, ca⟩ l = ⟨0, gx l ca.toNat, gx l ca.toNat⟩ := by simp [ZH, hc, hl, Zbm, ZbF, hia]
  have e2 : Zac ⟨0, ca, ca⟩ = ⟨0, ca, ca⟩ := by simp [Zac, hc]
  rw [e1, e2, e1]
  simp [Zac, ew]
 ·have e2 : Zac ⟨1, ca, cb⟩ = ⟨2, cb, ca⟩ := by simp [Zac, hc]
  rw [e2] at ht ⊢
  unfold ZH Zbm
  rw [hc, ht, hl]
  simp only [Bool.and_self, cond_true]
  cases he : gx l ca.toNat == gx l cb.toNat
  ·have hne : gx l ca.toNat ≠ gx l cb.toNat := by simpa using he
   have he' : (gx l cb.toNat == gx l ca.toNat) = false := by simpa using fun e => hne e.symm
   have o1 : Zo ⟨1, gx l ca.toNat, gx l cb.toNat⟩ = true := ZaN (by simp) (by simp) a0 a1 b0 b1 ⟨fun e => by simp at e, fun e => absurd e hne⟩
   have o2 : Zo ⟨2, gx l cb.toNat, gx l ca.toNat⟩ = true := ZaN (by simp) (by simp) b0 b1 a0 a1 ⟨fun e => by simp at e, fun e => absurd e.symm hne⟩
   rw [he', o1, o2]
   simp [Zac, o1]
  ·have e : gx l ca.toNat = gx l cb.toNat := by simpa using he
   have he' : (gx l cb.toNat == gx l ca.toNat) = true := by simp [e]
   rw [he']
   have ew : Zo ⟨0, gx l cb.toNat, gx l cb.toNat⟩ = true := ZaN (by simp) (by simp) b0 b1 b0 b1 (by simp)
   simp [ZbF, e, hib, Zac, ew]
 ·have e2 : Zac ⟨2, ca, cb⟩ = ⟨1, ca, cb⟩ := by simp [Zac, hc]
  rw [e2] at ht ⊢
  unfold ZH Zbm
  rw [hc, ht, hl]
  simp only [Bool.and_self, cond_true]
  cases he : gx l ca.toNat == gx l cb.toNat
  ·have hne : gx l ca.toNat ≠ gx l cb.toNat := by simpa using he
   have o1 : Zo ⟨2, gx l ca.toNat, gx l cb.toNat⟩ = true := ZaN (by simp) (by simp) a0 a1 b0 b1 ⟨fun e => by simp at e, fun e => absurd e hne⟩
   have o2 : Zo ⟨1, gx l ca.toNat, gx l cb.toNat⟩ = true := ZaN (by simp) (by simp) a0 a1 b0 b1 ⟨fun e => by simp at e, fun e => absurd e hne⟩
   rw [o1, o2]
   simp [Zac, o1]
  ·have e : gx l ca.toNat = gx l cb.toNat := by simpa using he
   have ew : Zo ⟨0, gx l cb.toNat, gx l cb.toNat⟩ = true := ZaN (by simp) (by simp) b0 b1 b0 b1 (by simp)
   simp [ZbF, e, hib, Zac, ew]
theorem Zpl {c : GCell} {l : List Int} (hc : Zo c = true) (hl : ZaL l = true) : ZP (ZH c l) = ZH (ZP c) l := by
 obtain ⟨h1, h2, h3, h4, h5, h6, h7⟩ := ZaS hc
 obtain ⟨g1, g2⟩ := Zf0 hl
 obtain ⟨a0, a1⟩ := g2 _ (Z3 (show c.A.toNat < l.length by omega))
 obtain ⟨b0, b1⟩ := g2 _ (Z3 (show c.B.toNat < l.length by omega))
 have ht := ZlH hc
 have hs : c.Split = 0 ∨ c.Split = 1 ∨ c.Split = 2 := by omega
 have hia : inR (gx l c.A.toNat) 0 5 = true := ZT.2 ⟨a0, a1⟩
 have hib : inR (gx l c.B.toNat) 0 5 = true := ZT.2 ⟨b0, b1⟩
 obtain ⟨cs, ca, cb⟩ := c
 simp only at h1 h2 h3 h4 h5 h6 h7 hs hia hib a0 a1 b0 b1
 rcases hs with rfl | rfl | rfl
 ·have e := h7.1 rfl
  subst e
  have ew : Zo ⟨0, gx l ca.toNat, gx l ca.toNat⟩ = true := ZaN (by simp) (by simp) a0 a1 a0 a1 (by simp)
  have e1 : ZH ⟨0, ca, ca⟩ l = ⟨0, gx l ca.toNat, gx l ca.toNat⟩ := by simp [ZH, hc, hl, Zbm, ZbF, hia]
  have e2 : ZP ⟨0, ca, ca⟩ = ⟨0, ca, ca⟩ := by simp [ZP, hc]
  rw [e1, e2, e1]
  simp [ZP, ew]
 ·have e2 : ZP ⟨1, ca, cb⟩ = ⟨2, cb, ca⟩ := by simp [ZP, hc]
  rw [e2] at ht ⊢
  unfold ZH Zbm
  rw [hc, ht, hl]
  simp only [Bool.and_self, cond_true]
  cases he : gx l ca.toNat == gx l cb.toNat
  ·have hne : gx l ca.toNat ≠ gx l cb.toNat := by simpa using he
   have he' : (gx l cb.toNat == gx l ca.toNat) = false := by simpa using fun e => hne e.symm
   have o1 : Zo ⟨1, gx l ca.toNat, gx l cb.toNat⟩ = true := ZaN (by simp) (by simp) a0 a1 b0 b1 ⟨fun e => by simp at e, fun e => absurd e hne⟩
   have o2 : Zo ⟨2, gx l cb.toNat, gx l ca.toNat⟩ = true := ZaN (by simp) (by simp) b0 b1 a0 a1 ⟨fun e => by simp at e, fun e => absurd e.symm hne⟩
   rw [he', o1, o2]
   simp [ZP, o1]
  ·have e : gx l ca.toNat = gx l cb.toNat := by simpa using he
   have he' : (gx l cb.toNat == gx l ca.toNat) = true := by simp [e]
   rw [he']
   have ew : Zo ⟨0, gx l cb.toNat, gx l cb.toNat⟩ = true := ZaN (by simp) (by simp) b0 b1 b0 b1 (by simp)
   simp [ZbF, e, hib, ZP, ew]
 ·have e2 : ZP ⟨2, ca, cb⟩ = ⟨1, cb, ca⟩ := by simp [ZP, hc]
  rw [e2] at ht ⊢
  unfold ZH Zbm
  rw [hc, ht, hl]
  simp only [Bool.and_self, cond_true]
  cases he : gx l ca.toNat == gx l cb.toNat
  ·have hne : gx l ca.toNat ≠ gx l cb.toNat := by simpa using he
   have he' : (gx l cb.toNat == gx l ca.toNat) = false := by simpa using fun e => hne e.symm
   have o1 : Zo ⟨2, gx l ca.toNat, gx l cb.toNat⟩ = true := ZaN (by simp) (by simp) a0 a1 b0 b1 ⟨fun e => by simp at e, fun e => absurd e hne⟩
   have o2 : Zo ⟨1, gx l cb.toNat, gx l ca.toNat⟩ = true := ZaN (by simp) (by simp) b0 b1 a0 a1 ⟨fun e => by simp at e, fun e => absurd e.symm hne⟩
   rw [he', o1, o2]
   simp [ZP, o1]
  ·have e : gx l ca.toNat = gx l cb.toNat := by simpa using he
   have he' : (gx l cb.toNat == gx l ca.toNat) = true := by simp [e]
   rw [he']
   have ew : Zo ⟨0, gx l cb.toNat, gx l cb.toNat⟩ = true := ZaN (by simp) (by simp) b0 b1 b0 b1 (by simp)
   simp [ZbF, e, hib, ZP, ew]
theorem ZoR {α β : Type} (g : α → β) (h w : Nat) (F : Nat → Nat → α) : (ZbH h w F).map g = ZbH h w fun y x => g (F y x) := by
 simp [ZbH, List.map_flatMap]
 rfl
theorem Zmh {α : Type} {h w : Nat} {F G : Nat → Nat → α} (H : ∀ y x, y < h → x < w → F y x = G y x) : ZbH h w F = ZbH h w G := by
 induction h with
 | zero => rfl
 | succ h ih =>
  rw [Zky, Zky, ih fun y x hy hx => H y x (by omega) hx]
  congr 1
  exact List.map_congr_left fun x hx => H h x (by omega) (by simpa using hx)
def exB (l : List Int) (b : GBlock) : GBlock := ⟨b.Size, b.Cells.map fun c => ZH c l⟩
theorem ZoQ {b : GBlock} (h : Ze b = true) (l : List Int) : Ze (exB l b) = true := by
 obtain ⟨n, hn, h1, h2, hl, hcs⟩ := Zu h
 unfold exB
 rw [hn]
 exact Zjp h1 h2 (by simpa using hl) (fun c hm => by
  simp only [List.mem_map] at hm
  obtain ⟨d, _, rfl⟩ := hm
  exact Zkj d l)
theorem Zwr {b : GBlock} (h : Ze b = true) {l : List Int} (hl : ZaL l = true) : ZdF b l = (exB l b, true) := by simp [ZdF, h, hl, exB]
theorem ZpY {b : GBlock} (h : Ze b = true) {l : List Int} (hl : ZaL l = true) : Zbl (exB l b) = exB l (Zbl b) := by
 obtain ⟨n, hn, h1, h2, hlen, hcs⟩ := Zu h
 have ho := ZoQ h l
 unfold Zbl
 rw [ho, h]
 unfold exB
 simp only [cond_true, hn, Int.toNat_natCast]
 rw [ZoR]
 congr 1
 refine Zmh fun y x hy hx => ?_
 have hi : (n - 1 - x) * n + y < b.Cells.length := by rw [hlen]; exact ZiZ (by omega) hy
 rw [ZrM _ hi, ZqK (hcs _ (Z3 hi)) hl]
theorem Zod {b : GBlock} (h : Ze b = true) {l : List Int} (hl : ZaL l = true) : ZaQ (exB l b) = exB l (ZaQ b) := by
 obtain ⟨n, hn, h1, h2, hlen, hcs⟩ := Zu h
 have ho := ZoQ h l
 unfold ZaQ
 rw [ho, h]
 unfold exB
 simp only [cond_true, hn, Int.toNat_natCast]
 rw [ZoR]
 congr 1
 refine Zmh fun y x hy hx => ?_
 have hi : y * n + (n - 1 - x) < b.Cells.length := by rw [hlen]; exact ZiZ hy (by omega)
 rw [ZrM _ hi, Zpl (hcs _ (Z3 hi)) hl]
theorem ZqA {b : GBlock} (h : Ze b = true) {l : List Int} (hl : ZaL l = true) {k : Nat} (hk : k < 8) : Z1 (exB l b) (k : Int) = exB l (Z1 b (k : Int)) := by
 have turns : ∀ (b0 : GBlock), Ze b0 = true → ∀ j, ZcF j (exB l b0) = exB l (ZcF j b0) := fun b0 h0 j => by
  induction j with
  | zero => rfl
  | succ j ih => rw [ZcF, ih, ZpY (ZjN h0 j).1 hl]; rfl
 have hi : inR (k : Int) 0 7 = true := ZT.2 ⟨by omega, by omega⟩
 unfold Z1
 rw [h, ZoQ h l, hi]
 cases decide ((k : Int) ≥ 4)
 ·exact turns b h _
 ·simp only [Bool.and_self, cond_true]
  rw [Zod h hl, turns _ (ZiD h)]
theorem Zsd {b : GBlock} (h : Ze b = true) {k : Nat} (hk : k < 8) {i : Nat} (hi : i < (Z1 b (k : Int)).Cells.length) (s : Nat) : Zr (gx (Z1 b (k : Int)).Cells i) s ∈ ZA b := by
 have hi7 : inR (k : Int) 0 7 = true := ZT.2 ⟨by omega, by omega⟩
 have hv := (ZpX h hi7).1
 obtain ⟨_, _, _, _, _, hcs⟩ := Zu hv
 have hm := Z3 hi
 refine ZjY.2 ⟨Zln (hcs _ hm) s, ?_⟩
 rw [← ZnX h, ← Zt3 _ h hi7, ZnX hv]
 unfold Zid
 rw [List.any_eq_true]
 refine ⟨_, hm, ?_⟩
 rcases Zhs (gx (Z1 b (k : Int)).Cells i) s with e | e <;> rw [e] <;> simp

def cnt1 (u v c d : Int) : Int := bif c == u && d == v then 1 else 0
def sumP (ps : List (Int × Int)) (f : Int → Int → Int) : Int := isum (ps.map fun p => f p.1 p.2)
theorem Zi0 (p : Int × Int) (ps : List (Int × Int)) (f : Int → Int → Int) : sumP (p :: ps) f = f p.1 p.2 + sumP ps f := rfl
theorem Zqs (c d : Int) : ∀ {ps : List (Int × Int)}, (∀ p ∈ ps, p.1 ≠ c) → sumP ps (fun u v => cnt1 u v c d) = 0
 | [], _ => rfl
 | p :: ps, h => by
  have hp := h p (by simp)
  have hb : (c == p.1) = false := by simpa using fun e : c = p.1 => hp e.symm
  rw [Zi0, Zqs c d fun q hq => h q (by simp [hq])]
  simp [cnt1, hb]
theorem ZrK {g : Int → Int} {c d : Int} : ∀ {ps : List (Int × Int)}, (ps.map Prod.fst).Nodup → c ∈ ps.map Prod.fst → (∀ p ∈ ps, g p.1 = p.2) → sumP ps (fun u v => cnt1 u v c d) = bif d == g c then 1 else 0
 | [], _, hm, _ => by simp at hm
 | p :: ps, hn, hm, hg => by
  rw [List.map_cons, List.nodup_cons] at hn
  rw [Zi0]
  have hgp := hg p (by simp)
  by_cases e : c = p.1
  ·have hz : ∀ q ∈ ps, q.1 ≠ c := fun q hq h => hn.1 (by rw [← e, ← h]; exact List.mem_map_of_mem hq)
   rw [Zqs c d hz, e, hgp]
   simp [cnt1]
  ·have hm' : c ∈ ps.map Prod.fst := by
    rw [List.map_cons, List.mem_cons] at hm
    rcases hm with h | h
    ·exact absurd h e
    ·exact h
   have hb : (c == p.1) = false := by simpa using e
   rw [ZrK hn.2 hm' fun q hq => hg q (by simp [hq])]
   simp [cnt1, hb]
theorem ZmD (m : Nat) (f : Nat → Int → Int → Int) : ∀ ps : List (Int × Int), sumP ps (fun u v => sumN m fun i => f i u v) = sumN m fun i => sumP ps (f i)
 | [] => by
  have : sumN m (fun i => sumP [] (f i)) = sumN m fun _ => 0 := Zji fun _ _ => rfl
  rw [this, Zuw]; rfl
 | p :: ps => by
  rw [Zi0, ZmD m f ps, ← Zuz]
  rfl
def TM (b d : GBlock) (u v : Int) : Int := sumN b.Cells.length fun i => sumN 4 fun s => cnt1 u v (Zr (gx d.Cells i) s) (Zr (gx b.Cells i) s)
theorem ZqM {b d : GBlock} (h : Zdv b d = true) {l : List Int} (hl : ZaL l = true) {ps : List (Int × Int)} (hn : (ps.map Prod.fst).Nodup) (hc : ∀ i, i < d.Cells.length → ∀ s, Zr (gx d.Cells i) s ∈ ps.map Prod.fst) (hg : ∀ p ∈ ps, gx l p.1.toNat = p.2) : ZiK b (exB l d) = sumP ps (TM b d) := by
 obtain ⟨h1, h2, h3, h4⟩ := ZiF h
 obtain ⟨_, _, _, _, _, c2⟩ := Zu h2
 have e : sumP ps (TM b d) = sumN b.Cells.length fun i => sumN 4 fun s => sumP ps fun u v => cnt1 u v (Zr (gx d.Cells i) s) (Zr (gx b.Cells i) s) := by
  unfold TM
  rw [ZmD]
  refine Zji fun i _ => ?_
  rw [ZmD]
 rw [e]
 unfold ZiK
 refine Zji fun i hi => ?_
 unfold Zfe
 refine Zji fun s hs => ?_
 have hx : gx (exB l d).Cells i = ZH (gx d.Cells i) l := ZrM _ (by omega)
 rw [hx, ZnQ (c2 _ (Z3 (by omega))) hl, ZrK (g := fun x => gx l x.toNat) hn (hc i (by omega) s) hg]

def Zj7 : List Nat → Int
 | [] => 0
 | a :: r => orI (Zj7 r) (shlI 1 (a : Int))
theorem Zw1 : ∀ k : Nat, k < 6 → (andI (shrI 0 (k : Int)) 1 == 0) = true := by decide +kernel
theorem Zxw : ∀ a : Nat, a < 6 → ∀ k : Nat, k < 6 → (andI (shrI (orI 0 (shlI 1 (a : Int))) (k : Int)) 1 == 0) = !(k == a) := by decide +kernel
theorem ZwU : ∀ a : Nat, a < 6 → ∀ b : Nat, b < 6 → ∀ k : Nat, k < 6 → (andI (shrI (orI (orI 0 (shlI 1 (b : Int))) (shlI 1 (a : Int))) (k : Int)) 1 == 0) = !(k == a || k == b) := by decide +kernel
theorem ZtV {used : List Nat} (hl : used.length ≤ 2) (hu : ∀ a ∈ used, a < 6) {k : Nat} (hk : k < 6) : (andI (shrI (Zj7 used) (k : Int)) 1 == 0) = !(used.contains k) := by
 match used, hl, hu with
 | [], _, _ => exact Zw1 k hk
 | [a], _, hu => rw [show Zj7 [a] = orI 0 (shlI 1 (a : Int)) from rfl, Zxw a (hu a (by simp)) k hk, Bool.eq_iff_iff]; simp
 | [a, b], _, hu => rw [show Zj7 [a, b] = orI (orI 0 (shlI 1 (b : Int))) (shlI 1 (a : Int)) from rfl, ZwU a (hu a (by simp)) b (hu b (by simp)) k hk, Bool.eq_iff_iff]; simp
 | a :: b :: c :: r, hl, _ => simp at hl
def mxc : Nat → (Nat → Bool) → (Nat → Int) → Int
 | 0, _, _ => 0
 | n + 1, p, g => bif p n then (if g n > mxc n p g then g n else mxc n p g) else mxc n p g
theorem Zpt : ∀ n p g, 0 ≤ mxc n p g
 | 0, _, _ => Int.le_refl _
 | n + 1, p, g => by
  have := Zpt n p g
  unfold mxc
  cases p n
  ·exact this
  ·simp only [cond_true]; split <;> omega
theorem Zt2 {p : Nat → Bool} {g : Nat → Int} : ∀ {n k : Nat}, k < n → p k = true → g k ≤ mxc n p g
 | n + 1, k, h, hp => by
  unfold mxc
  rcases Nat.lt_or_ge k n with hlt | hge
  ·have := Zt2 (g := g) hlt hp
   cases p n
   ·exact this
   ·simp only [cond_true]; split <;> omega
  ·have e : k = n := by omega
   subst e
   rw [hp]
   simp only [cond_true]; split <;> omega
theorem Zqe {p : Nat → Bool} {g : Nat → Int} : ∀ n, mxc n p g = 0 ∨ ∃ k, k < n ∧ p k = true ∧ mxc n p g = g k
 | 0 => .inl rfl
 | n + 1 => by
  have ih := Zqe (p := p) (g := g) n
  unfold mxc
  cases hp : p n
  ·simp only [cond_false]
   rcases ih with h | ⟨k, h1, h2, h3⟩
   ·exact .inl h
   ·exact .inr ⟨k, by omega, h2, h3⟩
  ·simp only [cond_true]
   split
   ·exact .inr ⟨n, by omega, hp, rfl⟩
   ·rcases ih with h | ⟨k, h1, h2, h3⟩
    ·exact .inl h
    ·exact .inr ⟨k, by omega, h2, h3⟩
def Zc8 (T : Int → Int → Int) : List Int → List Nat → Int
 | [], _ => 0
 | u :: r, used => mxc 6 (fun a => !used.contains a) fun a => T u (a : Int) + Zc8 T r (a :: used)
theorem Zo5 {T : Int → Int → Int} (hT : ∀ u v, 0 ≤ T u v ∧ T u v ≤ 64) : ∀ (L : List Int) (used : List Nat), 0 ≤ Zc8 T L used ∧ Zc8 T L used ≤ 64 * L.length
 | [], _ => by simp [Zc8]
 | u :: r, used => by
  unfold Zc8
  refine ⟨Zpt _ _ _, ?_⟩
  rcases Zqe (p := fun a => !used.contains a) (g := fun a => T u (a : Int) + Zc8 T r (a :: used)) 6 with h | ⟨k, h1, h2, h3⟩
  ·rw [h]; omega
  ·rw [h3]
   have := Zo5 hT r (k :: used)
   have := hT u (k : Int)
   simp only [List.length_cons]; omega
theorem Zst {T : Int → Int → Int} : ∀ (L : List Int) (used : List Nat) (p : List Int), p.length = L.length → (∀ x ∈ p, 0 ≤ x ∧ x ≤ 5) → p.Nodup → (∀ x ∈ p, ¬ x.toNat ∈ used) → sumP (L.zip p) T ≤ Zc8 T L used
 | [], used, p, _, _, _, _ => by simp [sumP, isum, Zc8]
 | u :: r, used, [], hl, _, _, _ => by simp at hl
 | u :: r, used, v :: p, hl, hr, hn, hu => by
  rw [List.nodup_cons] at hn
  obtain ⟨v0, v1⟩ := hr v (by simp)
  have ih := Zst (T := T) r (v.toNat :: used) p (by simpa using hl) (fun x hx => hr x (by simp [hx])) hn.2 (fun x hx => by
   have := hr x (by simp [hx])
   simp only [List.mem_cons, not_or]
   refine ⟨fun e => hn.1 ?_, hu x (by simp [hx])⟩
   have : x = v := by omega
   rw [← this]; exact hx)
  have hm := Zt2 (p := fun a => !used.contains a) (g := fun a => T u (a : Int) + Zc8 T r (a :: used)) (n := 6) (k := v.toNat) (by omega) (by
   have := hu v (by simp)
   simpa using this)
  have ev : ((v.toNat : Nat) : Int) = v := by omega
  simp only [ev] at hm
  rw [List.zip_cons_cons, Zi0]
  unfold Zc8
  simp only
  omega
theorem ZsO {used : List Nat} (hl : used.length ≤ 2) : ∃ a, a < 6 ∧ ¬ a ∈ used := by
 match used, hl with
 | [], _ => exact ⟨0, by omega, by simp⟩
 | [x], _ =>
  by_cases h : x = 0
  ·exact ⟨1, by omega, by simp; omega⟩
  ·exact ⟨0, by omega, by simp; omega⟩
 | [x, y], _ =>
  by_cases h0 : x = 0 ∨ y = 0
  ·by_cases h1 : x = 1 ∨ y = 1
   ·exact ⟨2, by omega, by simp; omega⟩
   ·exact ⟨1, by omega, by simp; omega⟩
  ·exact ⟨0, by omega, by simp; omega⟩
 | a :: b :: c :: r, hl => simp at hl
theorem ZrL {T : Int → Int → Int} (hT : ∀ u v, 0 ≤ T u v) : ∀ (L : List Int) (used : List Nat), used.length + L.length ≤ 3 → ∃ p : List Int, p.length = L.length ∧ (∀ x ∈ p, 0 ≤ x ∧ x ≤ 5) ∧ p.Nodup ∧ (∀ x ∈ p, ¬ x.toNat ∈ used) ∧ Zc8 T L used ≤ sumP (L.zip p) T
 | [], used, _ => ⟨[], rfl, by simp, by simp, by simp, by simp [sumP, isum, Zc8]⟩
 | u :: r, used, hl => by
  have step : ∀ a, a < 6 → ¬ a ∈ used → ∃ p : List Int, p.length = (u :: r).length ∧ (∀ x ∈ p, 0 ≤ x ∧ x ≤ 5) ∧ p.Nodup ∧ (∀ x ∈ p, ¬ x.toNat ∈ used) ∧ T u (a : Int) + Zc8 T r (a :: used) ≤ sumP ((u :: r).zip p) T := fun a ha hna => by
   obtain ⟨p, p1, p2, p3, p4, p5⟩ := ZrL hT r (a :: used) (by simp at hl ⊢; omega)
   refine ⟨(a : Int) :: p, by simp [p1], ?_, ?_, ?_, ?_⟩
   ·intro x hx
    simp only [List.mem_cons] at hx
    rcases hx with rfl | hx
    ·omega
    ·exact p2 x hx
   ·rw [List.nodup_cons]
    exact ⟨fun hm => p4 _ hm (by simp), p3⟩
   ·intro x hx
    simp only [List.mem_cons] at hx
    rcases hx with rfl | hx
    ·simpa using hna
    ·exact fun h => p4 x hx (by simp [h])
   ·rw [List.zip_cons_cons, Zi0]
    simp only; omega
  unfold Zc8
  rcases Zqe (p := fun a => !used.contains a) (g := fun a => T u (a : Int) + Zc8 T r (a :: used)) 6 with h | ⟨k, h1, h2, h3⟩
  ·obtain ⟨a, ha, hna⟩ := ZsO (used := used) (by simp at hl; omega)
   obtain ⟨p, p1, p2, p3, p4, p5⟩ := step a ha hna
   refine ⟨p, p1, p2, p3, p4, ?_⟩
   rw [h]
   have hs : 0 ≤ sumP ((u :: r).zip p) T := ZkD fun q _ => hT q.1 q.2
   exact hs
  ·obtain ⟨p, p1, p2, p3, p4, p5⟩ := step k h1 (by simpa using h2)
   exact ⟨p, p1, p2, p3, p4, by rw [h3]; exact p5⟩

theorem Zvm {α : Type} [Rep α] {m : Nat} (G : Nat → α) (u : Nat) (y : α) : ((List.range m).map G).set u y = (List.range m).map fun i => bif i == u then y else G i := by
 apply ZjI
 ·simp
 ·intro k hk
  have hk' : k < m := by simpa using hk
  rw [ZdX _ hk']
  by_cases e : k = u
  ·subst e
   rw [Zi3 (by simpa using hk')]; simp
  ·rw [Zet e, ZdX _ hk', beq_eq_false_iff_ne.2 e, cond_false]
def Zec (f : Nat → Nat → Int) : List (List Int) := (List.range 6).map fun u => tab6 (f u)
theorem Zqt (f : Nat → Nat → Int) : (Zec f).length = 6 := by simp [Zec]
theorem ZjD (f : Nat → Nat → Int) {u : Nat} (hu : u < 6) : gx (Zec f) u = tab6 (f u) := ZdX _ hu
theorem Zr7 {f g : Nat → Nat → Int} (h : ∀ u v, u < 6 → v < 6 → f u v = g u v) : Zec f = Zec g := List.map_congr_left fun u hu => Zjn fun v hv => h u v (by simpa using hu) hv
theorem ZtK (f : Nat → Nat → Int) {u : Nat} (hu : u < 6) (v : Nat) (x : Int) : (Zec f).set u ((gx (Zec f) u).set v x) = Zec fun i j => bif i == u && j == v then x else f i j := by
 rw [ZjD _ hu, Zoz]
 unfold Zec
 rw [Zvm]
 refine List.map_congr_left fun i _ => ?_
 cases h : i == u
 ·simp only [cond_false, h, Bool.false_and]
 ·have e : i = u := by simpa using h
  subst e
  simp
theorem Zlk (u v c d : Int) : 0 ≤ cnt1 u v c d ∧ cnt1 u v c d ≤ 1 := by unfold cnt1; cases c == u && d == v <;> simp
theorem ZrH {b d : GBlock} (hl : b.Cells.length ≤ 16) (u v : Int) : 0 ≤ TM b d u v ∧ TM b d u v ≤ 64 := by
 have := Zhf (m := b.Cells.length) (F := fun i => sumN 4 fun s => cnt1 u v (Zr (gx d.Cells i) s) (Zr (gx b.Cells i) s)) (B := 4) fun i _ => by
  have := Zhf (m := 4) (F := fun s => cnt1 u v (Zr (gx d.Cells i) s) (Zr (gx b.Cells i) s)) (B := 1) fun s _ => Zlk _ _ _ _
  omega
 unfold TM; omega

theorem Zn4 {b d : GBlock} (h : Zdv b d = true) : ZfU b d = some (Zec fun u v => TM b d (u : Int) (v : Int)) := by
 obtain ⟨h1, h2, h3, h4⟩ := ZiF h
 obtain ⟨_, _, _, _, _, c1⟩ := Zu h1
 obtain ⟨_, _, _, _, _, c2⟩ := Zu h2
 have h0 : lpO ZhK 6 [] = some (Zec fun _ _ => 0) := by rfl
 unfold ZfU
 rw [h0]
 simp only [Option.bind_some]
 rw [Za (by omega), ZaG (f := Zfs b d) (s0 := Zec fun _ _ => 0) (fun k => Zec fun u v => sumN k fun i => sumN 4 fun s => cnt1 u v (Zr (gx d.Cells i) s) (Zr (gx b.Cells i) s)) rfl (fun k hk => by
  have hb : ∀ u v : Int, 0 ≤ sumN k (fun i => sumN 4 fun s => cnt1 u v (Zr (gx d.Cells i) s) (Zr (gx b.Cells i) s)) ∧ sumN k (fun i => sumN 4 fun s => cnt1 u v (Zr (gx d.Cells i) s) (Zr (gx b.Cells i) s)) ≤ 64 := fun u v => by
   have := Zhf (m := k) (F := fun i => sumN 4 fun s => cnt1 u v (Zr (gx d.Cells i) s) (Zr (gx b.Cells i) s)) (B := 4) fun i _ => by
    have := Zhf (m := 4) (F := fun s => cnt1 u v (Zr (gx d.Cells i) s) (Zr (gx b.Cells i) s)) (B := 1) fun s _ => Zlk _ _ _ _
    omega
   omega
  have ok1 := c1 _ (Z3 hk)
  have ok2 := c2 _ (Z3 (show k < d.Cells.length by omega))
  unfold Zfs
  rw [ZaG (f := Zfg b d k) (s0 := Zec fun u v => sumN k fun i => sumN 4 fun s => cnt1 u v (Zr (gx d.Cells i) s) (Zr (gx b.Cells i) s)) (fun j => Zec fun u v => sumN k (fun i => sumN 4 fun s => cnt1 u v (Zr (gx d.Cells i) s) (Zr (gx b.Cells i) s)) + sumN j fun s => cnt1 u v (Zr (gx d.Cells k) s) (Zr (gx b.Cells k) s)) (by simp [Zt1]) (fun j hj => by
   obtain ⟨x0, x1⟩ := Zln ok2 j
   obtain ⟨y0, y1⟩ := Zln ok1 j
   have hx6 : (Zr (gx d.Cells k) j).toNat < 6 := by omega
   have hy6 : (Zr (gx b.Cells k) j).toNat < 6 := by omega
   unfold Zfg
   rw [Za (by omega), Zka ok2 hj, Zka ok1 hj]
   simp only [Option.bind_some]
   rw [Za ⟨x0, by rw [Zqt]; omega⟩, Za ⟨y0, by rw [ZjD _ hx6, ZdR]; omega⟩]
   congr 2
   rw [ZtK _ hx6, ZjD _ hx6, Zfc _ hy6]
   refine Zr7 fun u v hu hv => ?_
   rw [ZhW]
   have hb2 := hb (u : Int) (v : Int)
   have hb3 := Zhf (m := j) (F := fun s => cnt1 u v (Zr (gx d.Cells k) s) (Zr (gx b.Cells k) s)) (B := 1) fun s _ => Zlk _ _ _ _
   unfold cnt1 at hb2 hb3 ⊢
   cases hq : (u == (Zr (gx d.Cells k) j).toNat && v == (Zr (gx b.Cells k) j).toNat)
   ·have : (Zr (gx d.Cells k) j == (u : Int) && Zr (gx b.Cells k) j == (v : Int)) = false := by
     rw [← ZhH x0 u, ← ZhH y0 v]; exact hq
    rw [this]
    simp only [cond_false]; omega
   ·have : (Zr (gx d.Cells k) j == (u : Int) && Zr (gx b.Cells k) j == (v : Int)) = true := by
     rw [← ZhH x0 u, ← ZhH y0 v]; exact hq
    simp only [Bool.and_eq_true, beq_iff_eq] at hq
    obtain ⟨q1, q2⟩ := hq
    rw [this, ← q1, ← q2]
    simp only [cond_true]
    rw [Z6 (by omega) (by omega)]; omega)]
  simp only [Option.bind_some, ZhW])]
 rfl

theorem Zvt {f : Nat → Int → Option (Res Int Empty)} {N : Nat} (p : Nat → Bool) (g : Nat → Int) (h : ∀ k s, k < N → f k s = some (.next (bif p k then (if g k > s then g k else s) else s))) : lpO f N 0 = some (mxc N p g) :=
 ZaG (fun k => mxc k p g) rfl fun k hk => by rw [h k _ hk]; rfl
end Go.Proofs.YtjfjbgihojiijacGreatDoor
