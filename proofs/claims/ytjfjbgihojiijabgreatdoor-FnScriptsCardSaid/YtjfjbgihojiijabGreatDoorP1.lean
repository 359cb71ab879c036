/-
 The plain laws: what the functions compute, in Lean alone.
-/
import Derived.Test.YtjfjbgihojiijabGreatDoorPure
namespace Go.Proofs.YtjfjbgihojiijabGreatDoor
open Go

theorem Za {α : Type} {p : Prop} [Decidable p] (h : p) (t : Option α) : gd p t = t := by simp [gd, h]
@[simp] theorem ZdR {J C : Type} (j : J) (k : J → Option C) : sq (some (.inl j)) k = k j := rfl
@[simp] theorem sq_inr {J C : Type} (c : C) (k : J → Option C) : sq (some (.inr c)) k = some c := rfl

section
variable {S C : Type} {f : Nat → S → Option (Res S C)} {N : Nat}
theorem ZsX (st : Nat → S) (h : ∀ k, k < N → f k (st k) = some (.next (st (k + 1)))) : ∀ m k, k + m = N → forO f m k (st k) = some (.inl (st N))
 | 0, k, e => by simp at e; subst e; rfl
 | m + 1, k, e => by
  rw [forO, h k (by omega)]
  exact ZsX st h m (k + 1) (by omega)
theorem ZjC (st : Nat → S) {s0 : S} (h0 : s0 = st 0) (h : ∀ k, k < N → f k (st k) = some (.next (st (k + 1)))) : forO f N 0 s0 = some (.inl (st N)) := by
 rw [h0]; exact ZsX st h N 0 (by omega)
theorem ZmJ (st : Nat → S) (K : Nat) (hK : K < N) (h : ∀ k, k < K → f k (st k) = some (.next (st (k + 1)))) : ∀ m k, k + m = N → k ≤ K → forO f m k (st k) = forO f (N - K) K (st K)
 | 0, k, e, hk => by omega
 | m + 1, k, e, hk => by
  rcases Nat.lt_or_ge k K with hlt | hge
  ·rw [forO, h k hlt]
   exact ZmJ st K hK h m (k + 1) (by omega) (by omega)
  ·have : k = K := by omega
   subst this
   rw [show N - k = m + 1 by omega]
theorem Zlf (st : Nat → S) {s0 : S} (h0 : s0 = st 0) (K : Nat) (hK : K < N) (h : ∀ k, k < K → f k (st k) = some (.next (st (k + 1)))) {c : C} (hr : f K (st K) = some (.ret c)) : forO f N 0 s0 = some (.inr c) := by
 rw [h0, ZmJ st K hK h N 0 (by omega) (by omega), show N - K = (N - K - 1) + 1 by omega, forO, hr]; rfl
theorem ZlE (st : Nat → S) {s0 : S} (h0 : s0 = st 0) (K : Nat) (hK : K < N) (h : ∀ k, k < K → f k (st k) = some (.next (st (k + 1)))) {s' : S} (hr : f K (st K) = some (.brk s')) : forO f N 0 s0 = some (.inl s') := by
 rw [h0, ZmJ st K hK h N 0 (by omega) (by omega), show N - K = (N - K - 1) + 1 by omega, forO, hr]; rfl
theorem Zbg (p : Nat → Bool) {s : S} {c : C} (h : ∀ k, k < N → f k s = some (bif p k then .next s else .ret c)) : forO f N 0 s = some (bif (List.range N).all p then .inl s else .inr c) := by
 cases ha : (List.range N).all p with
 | true =>
  rw [List.all_eq_true] at ha
  exact ZjC (fun _ => s) rfl fun k hk => by rw [h k hk, ha k (by simpa using hk)]; rfl
 | false =>
  have : ∃ k, k < N ∧ p k = false := by
   rw [List.all_eq_false] at ha
   obtain ⟨k, hk, hp⟩ := ha
   exact ⟨k, by simpa using hk, by simpa using hp⟩
  have hmin : ∃ k, k < N ∧ p k = false ∧ ∀ j, j < k → p j = true := by
   obtain ⟨k, hk, hp⟩ := this
   induction k using Nat.strongRecOn with
   | _ k ih =>
    by_cases hx : ∃ j, j < k ∧ p j = false
    ·obtain ⟨j, hj, hpj⟩ := hx
     exact ih j hj (by omega) hpj
    ·refine ⟨k, hk, hp, fun j hj => ?_⟩
     cases hpj : p j with
     | true => rfl
     | false => exact absurd ⟨j, hj, hpj⟩ hx
  obtain ⟨k, hk, hp, hall⟩ := hmin
  exact Zlf (fun _ => s) rfl k hk (fun j hj => by rw [h j (by omega), hall j hj]; rfl) (by rw [h k hk, hp]; rfl)
theorem Zqy (p : Nat → Bool) {s : S} (c : Nat → C) (h : ∀ k, k < N → f k s = some (bif p k then .ret (c k) else .next s)) : forO f N 0 s = some (match (List.range N).find? p with | some k => .inr (c k) | none => .inl s) := by
 cases ha : (List.range N).find? p with
 | none =>
  rw [List.find?_eq_none] at ha
  exact ZjC (fun _ => s) rfl fun k hk => by
   rw [h k hk]
   have := ha k (by simpa using hk)
   simp at this
   rw [this]; rfl
 | some K =>
  have hp := List.find?_some ha
  have hK : K < N := by simpa using List.mem_of_find?_eq_some ha
  refine Zlf (fun _ => s) rfl K hK (fun j hj => ?_) (by rw [h K hK, hp]; rfl)
  rw [h j (by omega)]
  have : p j = false := by
   rw [List.find?_range_eq_some] at ha
   simpa using ha.2.2 j hj
  rw [this]; rfl
end
section
variable {S : Type} {f : Nat → S → Option (Res S Empty)} {N : Nat}
theorem ZaL (st : Nat → S) {s0 : S} (h0 : s0 = st 0) (h : ∀ k, k < N → f k (st k) = some (.next (st (k + 1)))) : lpO f N s0 = some (st N) := by
 unfold lpO; rw [ZjC st h0 h]; rfl
end
section
variable {α : Type} {f : Nat → List α → Option (Res (List α) Empty)} {N : Nat}
theorem ZbH (F : Nat → α) {xs : List α} (h : ∀ k s, k < N → s.length = xs.length + k → f k s = some (.next (s ++ [F k]))) : lpO f N xs = some (xs ++ (List.range N).map F) :=
 ZaL (fun k => xs ++ (List.range k).map F) (by simp) fun k hk => by
  rw [h k _ hk (by simp)]
  simp [List.range_succ]
theorem Zjr (p : Nat → Bool) (F : Nat → α) {xs : List α} (h : ∀ k s, k < N → s.length ≤ xs.length + k → f k s = some (.next (bif p k then s ++ [F k] else s))) : lpO f N xs = some (xs ++ ((List.range N).filter p).map F) :=
 ZaL (fun k => xs ++ ((List.range k).filter p).map F) (by simp) fun k hk => by
  rw [h k _ hk (by
   have := List.length_filter_le p (List.range k)
   simp at this ⊢; omega)]
  cases hp : p k <;> simp [List.range_succ, List.filter_append, hp]
theorem ZvN (F : Nat → List α) {xs : List α} (h : ∀ k s, k < N → s = xs ++ (List.range k).flatMap F → f k s = some (.next (s ++ F k))) : lpO f N xs = some (xs ++ (List.range N).flatMap F) :=
 ZaL (fun k => xs ++ (List.range k).flatMap F) (by simp) fun k hk => by
  rw [h k _ hk rfl]
  simp [List.range_succ]
end
theorem ZcR {α β : Type} [Rep α] (F : α → β) (xs : List α) : (List.range xs.length).map (fun k => F (gx xs k)) = xs.map F := by
 apply List.ext_getElem
 ·simp
 ·intro i h1 h2
  simp at h1
  simp [gx, List.getD, h1]
theorem ZkL {α : Type} [Rep α] (F : α → Bool) (xs : List α) : (List.range xs.length).all (fun k => F (gx xs k)) = xs.all F := by
 have := ZcR F xs
 calc (List.range xs.length).all (fun k => F (gx xs k)) = ((List.range xs.length).map (fun k => F (gx xs k))).all id := by simp [List.all_map]
  _ = xs.all F := by rw [this]; simp [List.all_map]
theorem Zbm {α : Type} [Rep α] {xs : List α} {k : Nat} (h : k < xs.length) : gx xs k = xs[k] := by simp [gx, List.getD, h]
theorem ZX {α : Type} [Rep α] {xs : List α} {k : Nat} (h : k < xs.length) : gx xs k ∈ xs := by rw [Zbm h]; exact List.getElem_mem h
theorem ZO {n : Int} (h1 : -4611686018427387904 ≤ n) (h2 : n ≤ 4611686018427387904) : wr n = n := Ztp (by omega) (by omega)

class Sm (α : Type) where
 ok : α → Prop
instance : Sm Int := ⟨fun _ => True⟩
instance : Sm Bool := ⟨fun _ => True⟩
instance : Sm Str := ⟨fun s => s.b.length ≤ 1048576⟩
instance (α : Type) [Sm α] : Sm (List α) := ⟨fun xs => xs.length ≤ 1048576 ∧ ∀ x ∈ xs, Sm.ok x⟩
theorem Zb7 {α : Type} [Sm α] {xs : List α} (h : Sm.ok xs) : xs.length ≤ 1048576 := h.1
theorem ZpV {xs : List Int} (h : xs.length ≤ 1048576) : Sm.ok xs := ⟨h, fun _ _ => trivial⟩

theorem ZgA {α : Type} [Rep α] {xs : List α} {k j : Nat} {e : α} (h : j ≠ k) : gx (xs.set k e) j = gx xs j := by
 simp [gx, List.getD, List.getElem?_set_ne (Ne.symm h)]
theorem ZjM {α : Type} [Rep α] {xs ys : List α} (hl : xs.length = ys.length) (h : ∀ k, k < xs.length → gx xs k = gx ys k) : xs = ys := by
 apply List.ext_getElem hl
 intro i h1 h2
 have := h i h1
 rwa [Zbm h1, Zbm h2] at this

theorem ZuJ {C : Type} {f : Nat → Unit → Option (Res Unit C)} {N : Nat} (h : ∀ k, k < N → f k () = some (.next ())) : forO f N 0 () = some (.inl ()) := ZjC (fun _ => ()) rfl h

theorem ZtN {α : Type} [Rep α] {xs : List α} {P : α → Prop} (h : ∀ k, k < xs.length → P (gx xs k)) : ∀ x ∈ xs, P x := fun x hx => by
 obtain ⟨i, hi, rfl⟩ := List.getElem_of_mem hx
 have := h i hi
 rwa [Zbm hi] at this

instance : Sm GAct := ⟨fun _ => True⟩

instance : Sm GCell := ⟨fun _ => True⟩

instance : Sm GBlock := ⟨fun x => Sm.ok x.Cells⟩

instance : Sm GMember := ⟨fun _ => True⟩

instance : Sm GEntry := ⟨fun x => Sm.ok x.Block⟩

instance : Sm GBooking := ⟨fun _ => True⟩

instance : Sm GGuild := ⟨fun x => Sm.ok x.Members ∧ Sm.ok x.Stock ∧ Sm.ok x.Entries ∧ Sm.ok x.Books⟩

def inR (x a b : Int) : Bool := decide (x ≥ a) && decide (x ≤ b)
theorem ZS {x a b : Int} : inR x a b = true ↔ a ≤ x ∧ x ≤ b := by simp [inR]
theorem Zp7 {x a b : Int} : inR x a b = false ↔ ¬(a ≤ x ∧ x ≤ b) := by rw [← ZS]; simp

@[simp] theorem Zbn (x a b : Int) : ZI x a b = some (inR x a b) := rfl

@[simp] theorem ZaT (x a b : Int) : Zq x a b = some (inR x a b) := rfl

@[simp] theorem Zlp (a : Int) : ZdN a = some (inR a 0 5) := rfl

def Zm (c : GCell) : Bool := inR c.Split 0 2 && inR c.A 0 5 && inR c.B 0 5 && ((c.Split == 0) == (c.A == c.B))

@[simp] theorem ZbU (c : GCell) : Zbr c = some (Zm c) := by
 unfold Zbr Zm
 simp only [Zbn, Option.bind_some]
 cases inR c.Split 0 2 <;> cases inR c.A 0 5 <;> cases inR c.B 0 5 <;> simp

@[simp] theorem ZbC (c : GCell) : ZaV c = some (Zm c) := by
 unfold ZaV Zm
 simp only [ZaT, Zlp, Option.bind_some]
 cases inR c.Split 0 2 <;> cases inR c.A 0 5 <;> cases inR c.B 0 5 <;> simp

theorem ZaW {c : GCell} (h : Zm c = true) : 0 ≤ c.Split ∧ c.Split ≤ 2 ∧ 0 ≤ c.A ∧ c.A ≤ 5 ∧ 0 ≤ c.B ∧ c.B ≤ 5 ∧ (c.Split = 0 ↔ c.A = c.B) := by
 simp only [Zm, Bool.and_eq_true, ZS, beq_iff_eq] at h
 obtain ⟨⟨⟨⟨h1, h2⟩, h3, h4⟩, h5, h6⟩, h7⟩ := h
 refine ⟨h1, h2, h3, h4, h5, h6, ?_⟩
 have e1 : (c.Split == 0) = decide (c.Split = 0) := by cases h : c.Split == 0 <;> simp_all
 have e2 : (c.A == c.B) = decide (c.A = c.B) := by cases h : c.A == c.B <;> simp_all
 rw [e1, e2] at h7
 constructor
 ·intro h; simp [h] at h7; exact h7
 ·intro h; simp [h] at h7; exact h7
theorem ZaO {c : GCell} (h1 : 0 ≤ c.Split) (h2 : c.Split ≤ 2) (h3 : 0 ≤ c.A) (h4 : c.A ≤ 5) (h5 : 0 ≤ c.B) (h6 : c.B ≤ 5) (h7 : c.Split = 0 ↔ c.A = c.B) : Zm c = true := by
 have e1 : inR c.Split 0 2 = true := ZS.2 ⟨h1, h2⟩
 have e2 : inR c.A 0 5 = true := ZS.2 ⟨h3, h4⟩
 have e3 : inR c.B 0 5 = true := ZS.2 ⟨h5, h6⟩
 unfold Zm
 rw [e1, e2, e3]
 by_cases h : c.Split = 0
 ·have := h7.1 h; simp [h, this]
 ·have : ¬ c.A = c.B := fun e => h (h7.2 e)
  have q1 : (c.Split == 0) = false := beq_eq_false_iff_ne.2 h
  have q2 : (c.A == c.B) = false := beq_eq_false_iff_ne.2 this
  rw [q1, q2]; rfl

def Zbx (a : Int) : GCell := bif inR a 0 5 then ⟨0, a, a⟩ else ⟨0, 0, 0⟩

@[simp] theorem Znr (a : Int) : ZcM a = some (Zbx a) := by
 unfold ZcM Zbx
 simp only [Zbn, Option.bind_some]
 cases inR a 0 5 <;> rfl

@[simp] theorem ZnD (a : Int) : ZcJ a = some (Zbx a) := by
 unfold ZcJ Zbx
 simp only [Zlp, Option.bind_some]
 cases inR a 0 5 <;> rfl

def Zbk (s a b : Int) : GCell := bif a == b then Zbx a else bif Zm ⟨s, a, b⟩ then ⟨s, a, b⟩ else ⟨0, 0, 0⟩

@[simp] theorem Zjb (s a b : Int) : ZcG s a b = some (Zbk s a b) := by
 unfold ZcG Zbk
 simp only [Znr, ZbU, Option.bind_some]
 cases a == b <;> cases Zm ⟨s, a, b⟩ <;> rfl

@[simp] theorem Znk (s a b : Int) : Zbc s a b = some (Zbk s a b) := by
 unfold Zbc Zbk
 simp only [ZnD, ZbC, Option.bind_some]
 cases a == b <;> cases Zm ⟨s, a, b⟩ <;> rfl

def Zts : GBlock := ⟨3, [⟨1, 0, 1⟩, ⟨0, 1, 1⟩, ⟨2, 1, 0⟩, ⟨0, 1, 1⟩, ⟨0, 1, 1⟩, ⟨0, 1, 1⟩, ⟨2, 0, 1⟩, ⟨0, 1, 1⟩, ⟨1, 1, 0⟩]⟩

@[simp] theorem spec_StarBlock_eq : Zld = some Zts := rfl

@[simp] theorem impl_StarBlock_eq : ZgO = some Zts := rfl

def ZbD {α : Type} (h w : Nat) (F : Nat → Nat → α) : List α := (List.range h).flatMap fun y => (List.range w).map fun x => F y x
theorem Zcq {α : Type} (h w : Nat) (F : Nat → Nat → α) : (ZbD h w F).length = h * w := by
 induction h with
 | zero => simp [ZbD]
 | succ h ih =>
  unfold ZbD at ih ⊢
  rw [List.range_succ, List.flatMap_append, List.length_append, ih]
  simp [Nat.add_mul]
theorem ZkF {α : Type} (h w : Nat) (F : Nat → Nat → α) : ZbD (h + 1) w F = ZbD h w F ++ (List.range w).map fun x => F h x := by
 simp [ZbD, List.range_succ]
theorem Zo6 {α : Type} {h w : Nat} {F : Nat → Nat → α} {P : α → Prop} (hF : ∀ y x, y < h → x < w → P (F y x)) : ∀ c ∈ ZbD h w F, P c := by
 intro c hc
 simp only [ZbD, List.mem_flatMap, List.mem_map, List.mem_range] at hc
 obtain ⟨y, hy, x, hx, rfl⟩ := hc
 exact hF y x hy hx
theorem Ztj {α : Type} {f1 : Nat → List α → Option (Res (List α) Empty)} {f2 : Nat → Nat → List α → Option (Res (List α) Empty)} {h w : Nat} (F : Nat → Nat → α) (h1 : ∀ k s, f1 k s = (lpO (f2 k) w s).bind fun e => some (.next e))
  (h2 : ∀ k1 k2 s, k1 < h → k2 < w → s.length < h * w → f2 k1 k2 s = some (.next (s ++ [F k1 k2]))) : lpO f1 h [] = some (ZbD h w F) := by
 refine (ZvN (xs := []) (fun y => (List.range w).map fun x => F y x) fun k s hk hs => ?_).trans (by simp [ZbD])
 have hl : s.length = k * w := by
  rw [hs, List.nil_append]; exact Zcq k w F
 rw [h1, ZbH (xs := s) (fun x => F k x) fun k2 s2 hk2 hs2 => h2 k k2 s2 hk hk2 (by
  have := Nat.mul_le_mul_right w (show k + 1 ≤ h from hk)
  rw [Nat.add_mul] at this; omega)]
 rfl

theorem ZpM (n : Nat) (one : Int → Int → Option GCell) (F : Nat → Nat → GCell) (hn : n ≤ 1000) (h : ∀ y x : Nat, y < n → x < n → one (x : Int) (y : Int) = some (F y x)) : Ze5 (n : Int) one = some ⟨n, ZbD n n F⟩ := by
 unfold Ze5
 have hN : ((n : Int)).toNat = n := by simp
 rw [hN, Za (by omega), Ztj (f1 := Zik n one) (f2 := Zig one) (h := n) (w := n) F (fun k s => by simp only [Zik, hN]) (fun k1 k2 s h1 h2 h3 => by
  have : n * n ≤ 1000 * 1000 := Nat.mul_le_mul hn hn
  simp only [Zig, h k1 k2 h1 h2, Option.bind_some]
  rw [Za (by omega)])]
 rfl

def Ze (b : GBlock) : Bool := inR b.Size 1 4 && ((b.Cells.length : Int) == b.Size * b.Size) && b.Cells.all Zm
theorem Zif {n : Int} (h : inR n 1 4 = true) : n = 1 ∨ n = 2 ∨ n = 3 ∨ n = 4 := by
 rw [ZS] at h; omega

@[simp] theorem Z5 (b : GBlock) : Zab b = some (Ze b) := by
 unfold Zab Ze
 simp only [Zbn, Option.bind_some]
 cases h : inR b.Size 1 4
 ·rfl
 ·have hw : wr (b.Size * b.Size) = b.Size * b.Size := by rcases Zif h with e | e | e | e <;> rw [e] <;> decide
  rw [hw]
  cases hl : ((b.Cells.length : Int) == b.Size * b.Size)
  ·have : (((b.Cells.length : Nat) : Int) != b.Size * b.Size) = true := by simp [bne, hl]
   simp [this]
  ·have hl' : (b.Cells.length : Int) = b.Size * b.Size := by simpa using hl
   have : (((b.Cells.length : Nat) : Int) != b.Size * b.Size) = false := by simp [bne, hl]
   simp only [this, Bool.not_true, cond_false, Option.bind_some]
   rw [Za (by rcases Zif h with e | e | e | e <;> rw [e] at hl' <;> omega), Zbg (f := Zgk b) (fun k => Zm (gx b.Cells k)) (fun k hk => by
    simp only [Zgk, ZbU, Option.bind_some]; cases Zm (gx b.Cells k) <;> rfl), ZkL]
   cases b.Cells.all Zm <;> rfl

@[simp] theorem ZV (b : GBlock) : ZY b = some (Ze b) := by
 unfold ZY Ze
 simp only [ZaT, Option.bind_some]
 cases h : inR b.Size 1 4
 ·rfl
 ·have hw : wr (b.Size * b.Size) = b.Size * b.Size := by rcases Zif h with e | e | e | e <;> rw [e] <;> decide
  rw [hw]
  cases hl : ((b.Cells.length : Int) == b.Size * b.Size)
  ·have : (((b.Cells.length : Nat) : Int) != b.Size * b.Size) = true := by simp [bne, hl]
   simp [this]
  ·have hl' : (b.Cells.length : Int) = b.Size * b.Size := by simpa using hl
   have : (((b.Cells.length : Nat) : Int) != b.Size * b.Size) = false := by simp [bne, hl]
   simp only [this, Bool.not_true, cond_false, Option.bind_some]
   rw [Za (by rcases Zif h with e | e | e | e <;> rw [e] at hl' <;> omega), Zbg (f := Zgm b) (fun k => Zm (gx b.Cells k)) (fun k hk => by
    simp only [Zgm, ZbC, Option.bind_some]; cases Zm (gx b.Cells k) <;> rfl), ZkL]
   cases b.Cells.all Zm <;> rfl

theorem Zs {b : GBlock} (h : Ze b = true) : ∃ n : Nat, b.Size = n ∧ 1 ≤ n ∧ n ≤ 4 ∧ b.Cells.length = n * n ∧ ∀ c ∈ b.Cells, Zm c = true := by
 simp only [Ze, Bool.and_eq_true, beq_iff_eq, List.all_eq_true] at h
 obtain ⟨⟨h1, h2⟩, h3⟩ := h
 rcases Zif h1 with e | e | e | e <;> rw [e] at h2
 ·exact ⟨1, e, by omega, by omega, by omega, h3⟩
 ·exact ⟨2, e, by omega, by omega, by omega, h3⟩
 ·exact ⟨3, e, by omega, by omega, by omega, h3⟩
 ·exact ⟨4, e, by omega, by omega, by omega, h3⟩
theorem Zjn {n : Nat} {cs : List GCell} (h1 : 1 ≤ n) (h2 : n ≤ 4) (hl : cs.length = n * n) (hc : ∀ c ∈ cs, Zm c = true) : Ze ⟨n, cs⟩ = true := by
 simp only [Ze, Bool.and_eq_true, beq_iff_eq, List.all_eq_true]
 exact ⟨⟨ZS.2 ⟨by omega, by omega⟩, by rw [hl]; simp⟩, hc⟩
theorem Zdq {b : GBlock} (h : Ze b = true) : Sm.ok b := by
 obtain ⟨n, _, h1, h2, hl, _⟩ := Zs h
 have : n * n ≤ 4 * 4 := Nat.mul_le_mul h2 h2
 exact ⟨by omega, fun _ _ => trivial⟩
def Zaa (c : GCell) : GCell := bif Zm c then (bif c.Split == 1 then ⟨2, c.B, c.A⟩ else bif c.Split == 2 then ⟨1, c.A, c.B⟩ else c) else ⟨0, 0, 0⟩
theorem ZnQ {c : GCell} (h : Zm c = true) : Zm (Zaa c) = true := by
 obtain ⟨h1, h2, h3, h4, h5, h6, h7⟩ := ZaW h
 unfold Zaa
 rw [h]
 by_cases e1 : c.Split = 1
 ·simp only [e1, beq_self_eq_true, cond_true]
  exact ZaO (show (0 : Int) ≤ 2 by decide) (show (2 : Int) ≤ 2 by decide) h5 h6 h3 h4 ⟨fun h => by simp at h, fun h => by have := h7.2 h.symm; omega⟩
 ·by_cases e2 : c.Split = 2
  ·have : (c.Split == 1) = false := by simp [e1]
   simp only [e2, cond_true, cond_false, beq_self_eq_true, show ((2 : Int) == 1) = false from rfl]
   exact ZaO (show (0 : Int) ≤ 1 by decide) (show (1 : Int) ≤ 2 by decide) h3 h4 h5 h6 ⟨fun h => by simp at h, fun h => by have := h7.2 h; omega⟩
  ·rw [beq_eq_false_iff_ne.2 e1, beq_eq_false_iff_ne.2 e2]; exact h

@[simp] theorem Zoe (c : GCell) : ZfN c = some (Zaa c) := by
 unfold ZfN Zaa
 simp only [ZbU, Option.bind_some]
 cases Zm c <;> cases c.Split == 1 <;> cases c.Split == 2 <;> rfl

@[simp] theorem ZoJ (c : GCell) : ZfR c = some (Zaa c) := by
 unfold ZfR Zaa
 simp only [ZbC, Option.bind_some]
 cases Zm c <;> cases c.Split == 1 <;> cases c.Split == 2 <;> rfl

def ZP (c : GCell) : GCell := bif Zm c then (bif c.Split == 0 then c else ⟨3 - c.Split, c.B, c.A⟩) else ⟨0, 0, 0⟩
theorem Zl4 {c : GCell} (h : Zm c = true) : Zm (ZP c) = true := by
 obtain ⟨h1, h2, h3, h4, h5, h6, h7⟩ := ZaW h
 unfold ZP
 rw [h]
 by_cases e0 : c.Split = 0
 ·simp [e0, h]
 ·have : (c.Split == 0) = false := by simp [e0]
  simp only [this, cond_true, cond_false]
  exact ZaO (by simp only; omega) (by simp only; omega) h5 h6 h3 h4 ⟨fun h => by simp only at h; omega, fun h => absurd (h7.2 h.symm) e0⟩

@[simp] theorem Zmx (c : GCell) : Zef c = some (ZP c) := by
 unfold Zef ZP
 simp only [ZbU, Option.bind_some]
 cases h : Zm c
 ·rfl
 ·obtain ⟨h1, h2, _⟩ := ZaW h
  rw [ZO (by omega) (by omega)]
  cases c.Split == 0 <;> rfl

@[simp] theorem Zmq (c : GCell) : Zen c = some (ZP c) := by
 unfold Zen ZP
 simp only [ZbC, Option.bind_some]
 cases h : Zm c
 ·rfl
 ·obtain ⟨h1, h2, _⟩ := ZaW h
  rw [ZO (by omega) (by omega)]
  cases c.Split == 0 <;> rfl

def Zm2 (b : GBlock) (x y : Int) : GCell := bif Ze b && inR x 0 (b.Size - 1) && inR y 0 (b.Size - 1) then gx b.Cells (y * b.Size + x).toNat else ⟨0, 0, 0⟩
theorem ZiR {n y x : Nat} (hy : y < n) (hx : x < n) : y * n + x < n * n := by
 have := Nat.mul_le_mul_right n (show y + 1 ≤ n from hy)
 rw [Nat.add_mul] at this; omega
theorem ZvQ {h w y x : Nat} (hy : y < h) (hx : x < w) : y * w + x < h * w := by
 have := Nat.mul_le_mul_right w (show y + 1 ≤ h from hy)
 rw [Nat.add_mul] at this; omega
theorem ZiE {b : GBlock} {n x y : Nat} (h : Ze b = true) (hn : b.Size = n) (hx : x < n) (hy : y < n) : Zm2 b x y = gx b.Cells (y * n + x) := by
 have e1 : inR (x : Int) 0 (b.Size - 1) = true := ZS.2 ⟨by omega, by omega⟩
 have e2 : inR (y : Int) 0 (b.Size - 1) = true := ZS.2 ⟨by omega, by omega⟩
 have e3 : ((y : Int) * b.Size + x).toNat = y * n + x := by
  rw [hn]
  have : ((y : Int) * (n : Int) + (x : Int)) = ((y * n + x : Nat) : Int) := by simp
  rw [this, Int.toNat_natCast]
 simp [Zm2, h, e1, e2, e3]

theorem ZpB (b : GBlock) (x y : Int) : ZcS b x y = some (Ze b && inR x 0 (b.Size - 1) && inR y 0 (b.Size - 1)) := by
 unfold ZcS
 simp only [ZV, ZaT, Option.bind_some]
 cases h : Ze b
 ·rfl
 ·obtain ⟨n, hn, h1, h2, _⟩ := Zs h
  rw [ZO (by omega) (by omega)]
  cases inR x 0 (b.Size - 1) <;> cases inR y 0 (b.Size - 1) <;> rfl

@[simp] theorem Zhe (b : GBlock) (x y : Int) : Zdv b x y = some (Zm2 b x y) := by
 unfold Zdv Zm2
 simp only [ZpB, Option.bind_some]
 cases h : (Ze b && inR x 0 (b.Size - 1) && inR y 0 (b.Size - 1))
 ·rfl
 ·simp only [Bool.and_eq_true, ZS] at h
  obtain ⟨⟨h0, hx⟩, hy⟩ := h
  obtain ⟨n, hn, h1, h2, hl, _⟩ := Zs h0
  rw [hn] at hx hy ⊢
  obtain ⟨x', rfl⟩ := Int.eq_ofNat_of_zero_le hx.1
  obtain ⟨y', rfl⟩ := Int.eq_ofNat_of_zero_le hy.1
  have hlt : y' * n + x' < n * n := ZiR (by omega) (by omega)
  have hnn : n * n ≤ 4 * 4 := Nat.mul_le_mul h2 h2
  have hy' : y' * n ≤ n * n := by omega
  have e : wr (wr ((y' : Int) * (n : Int)) + (x' : Int)) = ((y' * n + x' : Nat) : Int) := by
   have : (y' : Int) * (n : Int) = ((y' * n : Nat) : Int) := by simp
   rw [this, ZO (n := ((y' * n : Nat) : Int)) (by omega) (by omega), ZO (by omega) (by omega)]; simp
  have e' : ((y' : Int) * (n : Int) + (x' : Int)) = ((y' * n + x' : Nat) : Int) := by simp
  rw [e, e', Za ⟨by omega, by omega⟩]
  rfl

def Zbl (b : GBlock) : GBlock := bif Ze b then ⟨b.Size, ZbD b.Size.toNat b.Size.toNat fun y x => Zaa (gx b.Cells ((b.Size.toNat - 1 - x) * b.Size.toNat + y))⟩ else ⟨0, []⟩
theorem ZrK {b : GBlock} (h : Ze b = true) : Ze (Zbl b) = true := by
 obtain ⟨n, hn, h1, h2, hl, hc⟩ := Zs h
 unfold Zbl
 rw [h, hn]
 simp only [cond_true, Int.toNat_natCast]
 exact Zjn h1 h2 (Zcq _ _ _) (Zo6 fun y x hy hx => ZnQ (hc _ (ZX (by rw [hl]; exact ZiR (by omega) hy))))
theorem Zqd (b : GBlock) (h : Ze b = true) : (Zbl b).Size = b.Size := by simp [Zbl, h]
theorem ZuO {n y x : Nat} (h1 : 1 ≤ n) (h2 : n ≤ 4) (hy : y < n) (hx : x < n) : wr ((wr ((wr ((wr ((n : Int) - 1)) - (x : Int))) * (n : Int))) + (y : Int)) = (((n - 1 - x) * n + y : Nat) : Int) := by
 have hn : n = 1 ∨ n = 2 ∨ n = 3 ∨ n = 4 := by omega
 rcases hn with rfl | rfl | rfl | rfl <;> simp (disch := omega) only [ZO] <;> omega
theorem Ztt {n y x : Nat} (h1 : 1 ≤ n) (h2 : n ≤ 4) (hy : y < n) (hx : x < n) : wr ((wr ((wr ((wr ((y : Int) * (n : Int))) + (n : Int))) - 1)) - (x : Int)) = ((y * n + (n - 1 - x) : Nat) : Int) := by
 have hn : n = 1 ∨ n = 2 ∨ n = 3 ∨ n = 4 := by omega
 rcases hn with rfl | rfl | rfl | rfl <;> simp (disch := omega) only [ZO] <;> omega

@[simp] theorem Znl (b : GBlock) : ZeT b = some (Zbl b) := by
 unfold ZeT Zbl
 simp only [Z5, Option.bind_some]
 cases h : Ze b
 ·rfl
 ·obtain ⟨n, hn, h1, h2, hl, hc⟩ := Zs h
  have hN : b.Size.toNat = n := by rw [hn]; simp
  have hnn : n * n ≤ 4 * 4 := Nat.mul_le_mul h2 h2
  simp only [hN, Bool.not_true, cond_false, cond_true]
  rw [Za (by omega), Ztj (f1 := Zer b) (f2 := ZeE b) (h := n) (w := n) (fun y x => Zaa (gx b.Cells ((n - 1 - x) * n + y))) (fun k s => by simp only [Zer, hN]) (fun y x s hy hx hs => by
   have hlt : (n - 1 - x) * n + y < n * n := ZiR (by omega) hy
   simp only [ZeE, hn, ZuO h1 h2 hy hx, Int.toNat_natCast, Zoe, Option.bind_some]
   rw [Za ⟨by omega, by omega⟩, Za (by omega)])]
  rfl

@[simp] theorem Znx (b : GBlock) : ZeU b = some (Zbl b) := by
 unfold ZeU Zbl
 simp only [ZV, Option.bind_some]
 cases h : Ze b
 ·rfl
 ·obtain ⟨n, hn, h1, h2, hl, hc⟩ := Zs h
  simp only [Bool.not_true, cond_false, cond_true, hn, Int.toNat_natCast]
  rw [ZpM n _ (fun y x => Zaa (gx b.Cells ((n - 1 - x) * n + y))) (by omega) (fun y x hy hx => by
   have e : wr (wr ((n : Int) - 1) - (x : Int)) = ((n - 1 - x : Nat) : Int) := by simp (disch := omega) only [ZO]; omega
   simp only [Zc9, hn, e, Zhe, ZoJ, Option.bind_some]
   rw [ZiE h hn hy (by omega)])]
  rfl

def ZaQ (b : GBlock) : GBlock := bif Ze b then ⟨b.Size, ZbD b.Size.toNat b.Size.toNat fun y x => ZP (gx b.Cells (y * b.Size.toNat + (b.Size.toNat - 1 - x)))⟩ else ⟨0, []⟩
theorem Ziv {b : GBlock} (h : Ze b = true) : Ze (ZaQ b) = true := by
 obtain ⟨n, hn, h1, h2, hl, hc⟩ := Zs h
 unfold ZaQ
 rw [h, hn]
 simp only [cond_true, Int.toNat_natCast]
 exact Zjn h1 h2 (Zcq _ _ _) (Zo6 fun y x hy hx => Zl4 (hc _ (ZX (by rw [hl]; exact ZiR hy (by omega)))))
theorem Zn4 (b : GBlock) (h : Ze b = true) : (ZaQ b).Size = b.Size := by simp [ZaQ, h]

@[simp] theorem Zme (b : GBlock) : ZdS b = some (ZaQ b) := by
 unfold ZdS ZaQ
 simp only [Z5, Option.bind_some]
 cases h : Ze b
 ·rfl
 ·obtain ⟨n, hn, h1, h2, hl, hc⟩ := Zs h
  have hN : b.Size.toNat = n := by rw [hn]; simp
  have hnn : n * n ≤ 4 * 4 := Nat.mul_le_mul h2 h2
  simp only [hN, Bool.not_true, cond_false, cond_true]
  rw [Za (by omega), Ztj (f1 := ZdV b) (f2 := Zd0 b) (h := n) (w := n) (fun y x => ZP (gx b.Cells (y * n + (n - 1 - x)))) (fun k s => by simp only [ZdV, hN]) (fun y x s hy hx hs => by
   have hlt : y * n + (n - 1 - x) < n * n := ZiR hy (by omega)
   simp only [Zd0, hn, Ztt h1 h2 hy hx, Int.toNat_natCast, Zmx, Option.bind_some]
   rw [Za ⟨by omega, by omega⟩, Za (by omega)])]
  rfl

@[simp] theorem Zl7 (b : GBlock) : ZdK b = some (ZaQ b) := by
 unfold ZdK ZaQ
 simp only [ZV, Option.bind_some]
 cases h : Ze b
 ·rfl
 ·obtain ⟨n, hn, h1, h2, hl, hc⟩ := Zs h
  simp only [Bool.not_true, cond_false, cond_true, hn, Int.toNat_natCast]
  rw [ZpM n _ (fun y x => ZP (gx b.Cells (y * n + (n - 1 - x)))) (by omega) (fun y x hy hx => by
   have e : wr (wr ((n : Int) - 1) - (x : Int)) = ((n - 1 - x : Nat) : Int) := by simp (disch := omega) only [ZO]; omega
   simp only [Zcx, hn, e, Zhe, Zmq, Option.bind_some]
   rw [ZiE h hn (by omega) hy])]
  rfl

def Zcv : Nat → GBlock → GBlock
 | 0, b => b
 | k + 1, b => Zbl (Zcv k b)
def Z3 (b : GBlock) (k : Int) : GBlock := bif Ze b && inR k 0 7 then Zcv (k.tmod 4).toNat (bif decide (k ≥ 4) then ZaQ b else b) else ⟨0, []⟩
theorem Zj4 {b : GBlock} (h : Ze b = true) : ∀ k, Ze (Zcv k b) = true ∧ (Zcv k b).Size = b.Size
 | 0 => ⟨h, rfl⟩
 | k + 1 => by
  obtain ⟨h1, h2⟩ := Zj4 h k
  exact ⟨ZrK h1, by rw [Zcv, Zqd _ h1, h2]⟩
theorem Zql {b : GBlock} {k : Int} (h : Ze b = true) (hk : inR k 0 7 = true) : Ze (Z3 b k) = true ∧ (Z3 b k).Size = b.Size := by
 unfold Z3
 rw [h, hk]
 cases hd : decide (k ≥ 4)
 ·exact Zj4 h _
 ·obtain ⟨h1, h2⟩ := Zj4 (Ziv h) (k.tmod 4).toNat
  exact ⟨h1, by rw [← Zn4 b h]; exact h2⟩
theorem Zvt {k : Int} (hk : inR k 0 7 = true) : (k.tmod 4).toNat ≤ 3 := by
 rw [ZS] at hk
 have : k.tmod 4 = k % 4 := by rw [Int.tmod_eq_emod_of_nonneg hk.1]
 omega

@[simp] theorem ZjT (b : GBlock) (k : Int) : Zd8 b k = some (Z3 b k) := by
 unfold Zd8 Z3
 simp only [Z5, Zbn, Option.bind_some]
 cases h : Ze b
 ·rfl
 ·cases hk : inR k 0 7
  ·rfl
  ·have hs := (Zdq h).1
   have ht := Zvt hk
   have hc : Za8 b = some b := by
    unfold Za8
    rw [Za (by simp; omega)]; simp
   simp only [hc, Zme, Option.bind_some, Bool.not_true, cond_false]
   have key : ∀ b0 : GBlock, lpO Zfo (k.tmod 4).toNat (b0.Size, b0.Cells) = some ((Zcv (k.tmod 4).toNat b0).Size, (Zcv (k.tmod 4).toNat b0).Cells) := fun b0 =>
    ZaL (fun j => ((Zcv j b0).Size, (Zcv j b0).Cells)) rfl fun j _ => by
     simp only [Zfo, Znl, Option.bind_some]; rfl
   cases decide (k ≥ 4) <;> simp only [cond_true, cond_false, Option.bind_some] <;> rw [Za (by omega), key] <;> rfl

@[simp] theorem ZoF (b : GBlock) (k : Int) : ZfL b k = some (Z3 b k) := by
 unfold ZfL Z3
 simp only [ZV, ZaT, Option.bind_some]
 cases h : Ze b
 ·rfl
 ·cases hk : inR k 0 7
  ·rfl
  ·have hs := (Zdq h).1
   have ht := Zvt hk
   have hc : Zal b = some b := by
    unfold Zal
    rw [Za (by simp; omega)]; simp
   simp only [hc, Zl7, Option.bind_some, Bool.not_true, cond_false]
   have key : ∀ b0 : GBlock, lpO Zfw (k.tmod 4).toNat (b0.Size, b0.Cells) = some ((Zcv (k.tmod 4).toNat b0).Size, (Zcv (k.tmod 4).toNat b0).Cells) := fun b0 =>
    ZaL (fun j => ((Zcv j b0).Size, (Zcv j b0).Cells)) rfl fun j _ => by
     simp only [Zfw, Znx, Option.bind_some]; rfl
   cases decide (k ≥ 4) <;> simp only [cond_true, cond_false, Option.bind_some] <;> rw [Za (by omega), key] <;> rfl

theorem ZpU (n : Int) : ∃ w, ZhK n = some w ∧ ZdJ n = some w ∧ Sm.ok w := by
 unfold ZhK ZdJ
 by_cases h0 : n = 0
 ·exact ⟨Zts, by simp [h0], by simp [h0], by decide, fun _ _ => trivial⟩
 ·have e0 : (n == 0) = false := by simp [h0]
  cases h1 : inR n 1 9
  ·exact ⟨⟨0, []⟩, by simp [e0, h1], by simp [e0, h1], by simp, fun _ h => by simp at h⟩
  ·rw [ZS] at h1
   have h2 : n = 1 ∨ n = 2 ∨ n = 3 ∨ n = 4 ∨ n = 5 ∨ n = 6 ∨ n = 7 ∨ n = 8 ∨ n = 9 := by omega
   rcases h2 with rfl | rfl | rfl | rfl | rfl | rfl | rfl | rfl | rfl <;> exact ⟨_, rfl, rfl, by decide, fun _ _ => trivial⟩

theorem Zru {α β : Type} [Rep α] [Rep β] (F : α → β) {xs : List α} {k : Nat} (h : k < xs.length) : gx (xs.map F) k = F (gx xs k) := by
 rw [Zbm (by simpa using h), Zbm h]; simp

def isum : List Int → Int
 | [] => 0
 | x :: r => x + isum r
theorem ZkH : ∀ xs ys : List Int, isum (xs ++ ys) = isum xs + isum ys
 | [], ys => by simp [isum]
 | x :: r, ys => by simp [isum, ZkH r ys]; omega
theorem Zji {B : Int} : ∀ {xs : List Int}, (∀ x ∈ xs, 0 ≤ x ∧ x ≤ B) → 0 ≤ isum xs ∧ isum xs ≤ B * xs.length
 | [], _ => by simp [isum]
 | x :: r, h => by
  obtain ⟨h1, h2⟩ := Zji (xs := r) fun y hy => h y (by simp [hy])
  obtain ⟨h3, h4⟩ := h x (by simp)
  have e : B * ((x :: r).length : Int) = B * r.length + B := by
   rw [List.length_cons, Int.natCast_add, Int.mul_add]; simp
  rw [e]
  simp only [isum]; omega
theorem Zla {f : Nat → Int → Option (Res Int Empty)} {N : Nat} (g : Nat → Int) {s0 B : Int} (h : ∀ k s, k < N → 0 ≤ s → s + B ≤ 4611686018427387904 → f k s = some (.next (s + g k))) (hg : ∀ k, k < N → 0 ≤ g k ∧ g k ≤ B) (hB : 0 ≤ B) (h0 : 0 ≤ s0) (hN : s0 + B * N ≤ 4611686018427387904) : lpO f N s0 = some (s0 + isum ((List.range N).map g)) :=
 ZaL (fun k => s0 + isum ((List.range k).map g)) (by simp [isum]) fun k hk => by
  have hb := Zji (B := B) (xs := (List.range k).map g) fun x hx => by
   simp only [List.mem_map, List.mem_range] at hx
   obtain ⟨i, hi, rfl⟩ := hx
   exact hg i (by omega)
  have hmul : B * ((k + 1 : Nat) : Int) ≤ B * N := Int.mul_le_mul_of_nonneg_left (by omega) hB
  have hm1 : B * ((k + 1 : Nat) : Int) = B * k + B := by rw [Int.natCast_add, Int.mul_add]; simp
  simp only [List.length_map, List.length_range] at hb
  have e : isum ((List.range (k + 1)).map g) = isum ((List.range k).map g) + g k := by
   rw [List.range_succ, List.map_append, ZkH]; simp [isum]
  rw [h k _ hk (by omega) (by omega), e, Int.add_assoc]

def arM (a : Int) (c : GCell) : Int := (bif c.A == a then 2 else 0) + (bif c.B == a then 2 else 0)
theorem Ziw (a : Int) (c : GCell) : 0 ≤ arM a c ∧ arM a c ≤ 4 := by unfold arM; cases c.A == a <;> cases c.B == a <;> simp
def Zaf (b : GBlock) (a : Int) : Int := bif Ze b then isum (b.Cells.map (arM a)) else 0

theorem ZoC {c : GCell} (h : Zm c = true) (a : Int) : Zi5 c a = some (arM a c) := by
 unfold Zi5 arM
 simp only [ZbU, Option.bind_some, h]
 cases c.A == a <;> cases c.B == a <;> rfl

theorem Zog {c : GCell} (h : Zm c = true) (a : Int) : ZfQ c a = some (arM a c) := by
 unfold ZfQ arM
 simp only [ZbC, Option.bind_some, h]
 cases c.A == a <;> cases c.B == a <;> rfl

@[simp] theorem ZpW (b : GBlock) (a : Int) : ZkA b a = some (Zaf b a) := by
 unfold ZkA Zaf
 simp only [Z5, Option.bind_some]
 cases h : Ze b
 ·rfl
 ·obtain ⟨n, hn, h1, h2, hl, hc⟩ := Zs h
  have hnn : n * n ≤ 4 * 4 := Nat.mul_le_mul h2 h2
  simp only [Bool.not_true, cond_false, cond_true]
  rw [Za (by omega), Zla (f := Zit b a) (fun k => arM a (gx b.Cells k)) (B := 4) (fun k s hk g0 g1 => by
   have := Ziw a (gx b.Cells k)
   simp only [Zit, ZoC (hc _ (ZX hk)), Option.bind_some]
   rw [ZO (by omega) (by omega)]) (fun k _ => Ziw _ _) (by omega) (by omega) (by omega), ZcR]
  simp

@[simp] theorem ZkV (b : GBlock) (a : Int) : ZfX b a = some (Zaf b a) := by
 unfold ZfX Zaf
 simp only [ZV, Option.bind_some]
 cases h : Ze b
 ·rfl
 ·obtain ⟨n, hn, h1, h2, hl, hc⟩ := Zs h
  have hnn : n * n ≤ 4 * 4 := Nat.mul_le_mul h2 h2
  simp only [Bool.not_true, cond_false, cond_true]
  rw [Za (by omega), Zla (f := ZgS b a) (fun k => arM a (gx b.Cells k)) (B := 4) (fun k s hk g0 g1 => by
   have := Ziw a (gx b.Cells k)
   simp only [ZgS, Zog (hc _ (ZX hk)), Option.bind_some]
   rw [ZO (by omega) (by omega)]) (fun k _ => Ziw _ _) (by omega) (by omega) (by omega), ZcR]
  simp

theorem Zlr (b : GBlock) (a : Int) : 0 ≤ Zaf b a ∧ Zaf b a ≤ 64 := by
 unfold Zaf
 cases h : Ze b
 ·simp
 ·obtain ⟨n, hn, h1, h2, hl, hc⟩ := Zs h
  have hnn : n * n ≤ 4 * 4 := Nat.mul_le_mul h2 h2
  have := Zji (B := 4) (xs := b.Cells.map (arM a)) fun x hx => by
   simp only [List.mem_map] at hx
   obtain ⟨c, _, rfl⟩ := hx
   exact Ziw a c
  simp only [List.length_map] at this
  simp only [cond_true]
  omega
theorem ZuK (f : GCell → Int) (hf : ∀ c, Zm c = true → f (Zaa c) = f c) {b : GBlock} (h : Ze b = true) : isum ((Zbl b).Cells.map f) = isum (b.Cells.map f) := by
 obtain ⟨n, hn, h1, h2, hl, hc⟩ := Zs h
 unfold Zbl
 rw [h, hn]
 simp only [cond_true, Int.toNat_natCast]
 have e : ∀ m, b.Cells.length = m → isum (b.Cells.map f) = isum ((List.range m).map fun i => f (gx b.Cells i)) := by rintro m rfl; rw [ZcR]
 rw [e _ hl]
 have hfi : ∀ i, i < n * n → f (Zaa (gx b.Cells i)) = f (gx b.Cells i) := fun i hi => hf _ (hc _ (ZX (by omega)))
 have hn' : n = 1 ∨ n = 2 ∨ n = 3 ∨ n = 4 := by omega
 rcases hn' with rfl | rfl | rfl | rfl <;> simp (disch := omega) [ZbD, List.range, List.range.loop, isum, hfi] <;> omega
theorem Zty (f : GCell → Int) (hf : ∀ c, Zm c = true → f (ZP c) = f c) {b : GBlock} (h : Ze b = true) : isum ((ZaQ b).Cells.map f) = isum (b.Cells.map f) := by
 obtain ⟨n, hn, h1, h2, hl, hc⟩ := Zs h
 unfold ZaQ
 rw [h, hn]
 simp only [cond_true, Int.toNat_natCast]
 have e : ∀ m, b.Cells.length = m → isum (b.Cells.map f) = isum ((List.range m).map fun i => f (gx b.Cells i)) := by rintro m rfl; rw [ZcR]
 rw [e _ hl]
 have hfi : ∀ i, i < n * n → f (ZP (gx b.Cells i)) = f (gx b.Cells i) := fun i hi => hf _ (hc _ (ZX (by omega)))
 have hn' : n = 1 ∨ n = 2 ∨ n = 3 ∨ n = 4 := by omega
 rcases hn' with rfl | rfl | rfl | rfl <;> simp (disch := omega) [ZbD, List.range, List.range.loop, isum, hfi] <;> omega
theorem Zu5 (f : GCell → Int) (ht : ∀ c, Zm c = true → f (Zaa c) = f c) (hm : ∀ c, Zm c = true → f (ZP c) = f c) {b : GBlock} {k : Int} (h : Ze b = true) (hk : inR k 0 7 = true) : isum ((Z3 b k).Cells.map f) = isum (b.Cells.map f) := by
 have turns : ∀ (b0 : GBlock), Ze b0 = true → ∀ j, isum ((Zcv j b0).Cells.map f) = isum (b0.Cells.map f) := fun b0 h0 j => by
  induction j with
  | zero => rfl
  | succ j ih => rw [Zcv, ZuK f ht (Zj4 h0 j).1, ih]
 unfold Z3
 rw [h, hk]
 cases decide (k ≥ 4)
 ·exact turns b h _
 ·exact (turns _ (Ziv h) _).trans (Zty f hm h)

theorem ZvY (a : Int) {c : GCell} (h : Zm c = true) : arM a (Zaa c) = arM a c := by
 unfold Zaa arM
 rw [h]
 by_cases e1 : c.Split = 1
 ·simp only [e1, cond_true, beq_self_eq_true]; omega
 ·by_cases e2 : c.Split = 2
  ·simp [e2]
  ·rw [beq_eq_false_iff_ne.2 e1, beq_eq_false_iff_ne.2 e2]; rfl
theorem Zui (a : Int) {c : GCell} (h : Zm c = true) : arM a (ZP c) = arM a c := by
 unfold ZP arM
 rw [h]
 by_cases e0 : c.Split = 0
 ·simp [e0]
 ·have : (c.Split == 0) = false := by simp [e0]
  simp only [this, cond_true, cond_false]; omega
theorem ZtM {b : GBlock} {k : Int} (a : Int) (h : Ze b = true) (hk : inR k 0 7 = true) : Zaf (Z3 b k) a = Zaf b a := by
 unfold Zaf
 rw [h, (Zql h hk).1]
 exact Zu5 _ (fun c hc => ZvY a hc) (fun c hc => Zui a hc) h hk
def sumN (m : Nat) (F : Nat → Int) : Int := isum ((List.range m).map F)
theorem ZuA (F : Nat → Int) : sumN 0 F = 0 := rfl
theorem ZhS (m : Nat) (F : Nat → Int) : sumN (m + 1) F = sumN m F + F m := by
 unfold sumN
 rw [List.range_succ, List.map_append, ZkH]; simp [isum]
theorem ZuX (m : Nat) (F G : Nat → Int) : sumN m (fun i => F i + G i) = sumN m F + sumN m G := by
 induction m with
 | zero => rfl
 | succ m ih => rw [ZhS, ZhS, ZhS, ih]; omega
theorem Zjh {m : Nat} {F G : Nat → Int} (h : ∀ i, i < m → F i = G i) : sumN m F = sumN m G := by
 unfold sumN
 congr 1
 exact List.map_congr_left fun i hi => h i (by simpa using hi)
theorem ZuY (m : Nat) : sumN m (fun _ => 0) = 0 := by
 induction m with
 | zero => rfl
 | succ m ih => rw [ZhS, ih]; rfl
theorem ZgW {m : Nat} {F : Nat → Int} {B : Int} (h : ∀ i, i < m → 0 ≤ F i ∧ F i ≤ B) : 0 ≤ sumN m F ∧ sumN m F ≤ B * m := by
 have := Zji (B := B) (xs := (List.range m).map F) fun x hx => by
  simp only [List.mem_map, List.mem_range] at hx
  obtain ⟨i, hi, rfl⟩ := hx
  exact h i hi
 simpa [sumN] using this
theorem ZdI {α : Type} [Rep α] (F : Nat → α) {m i : Nat} (h : i < m) : gx ((List.range m).map F) i = F i := by
 rw [Zbm (by simpa using h)]; simp

theorem ZiC {k N : Nat} (hk : k < N) (hN : N ≤ 4611686018427387904) (h0 : decide ((k : Int) > 0) = true) : wr ((k : Int) - 1) = ((k - 1 : Nat) : Int) ∧ k - 1 < N := by
 have : (k : Int) > 0 := of_decide_eq_true h0
 exact ⟨by rw [ZO (by omega) (by omega)]; omega, by omega⟩

def memP (xs : List GMember) (k : Nat) : Bool := inR (gx xs k).Number 1 999 && inR (gx xs k).Since 1900 2999 && inR (gx xs k).Paid (wr ((gx xs k).Since - 1)) 2999 && !(decide ((k : Int) > 0) && decide ((gx xs k).Number ≤ (gx xs (k - 1)).Number))
def ZE (xs : List GMember) : Bool := (List.range xs.length).all (memP xs) && decide (((xs.length : Nat) : Int) ≤ 40)
theorem ZhT {xs : List GMember} (h : ZE xs = true) : xs.length ≤ 40 := by
 simp only [ZE, Bool.and_eq_true, decide_eq_true_eq] at h; omega

theorem ZbF (xs : List GMember) (hl : xs.length ≤ 4611686018427387904) : Zbe xs = some (ZE xs) := by
 unfold Zbe ZE
 rw [Za hl, Zbg (f := ZeC xs) (c := false) (memP xs) (fun k hk => by
  simp only [ZeC, Zbn, Option.bind_some, memP]
  cases hd : decide ((k : Int) > 0)
  ·cases inR (gx xs k).Number 1 999 <;> cases inR (gx xs k).Since 1900 2999 <;> cases inR (gx xs k).Paid (wr ((gx xs k).Since - 1)) 2999 <;> rfl
  ·obtain ⟨e1, e2⟩ := ZiC hk hl hd
   simp only [e1, Int.toNat_natCast, cond_true]
   rw [Za ⟨by omega, by omega⟩]
   cases inR (gx xs k).Number 1 999 <;> cases inR (gx xs k).Since 1900 2999 <;> cases inR (gx xs k).Paid (wr ((gx xs k).Since - 1)) 2999 <;> cases decide ((gx xs k).Number ≤ (gx xs (k - 1)).Number) <;> rfl)]
 cases (List.range xs.length).all (memP xs) <;> rfl

theorem Zcg (xs : List GMember) (hl : xs.length ≤ 4611686018427387904) : Zbd xs = some (ZE xs) := by
 unfold Zbd ZE
 rw [Za hl, Zbg (f := Zes xs) (c := false) (memP xs) (fun k hk => by
  simp only [Zes, ZaT, Option.bind_some, memP]
  cases hd : decide ((k : Int) > 0)
  ·cases inR (gx xs k).Number 1 999 <;> cases inR (gx xs k).Since 1900 2999 <;> cases inR (gx xs k).Paid (wr ((gx xs k).Since - 1)) 2999 <;> rfl
  ·obtain ⟨e1, e2⟩ := ZiC hk hl hd
   simp only [e1, Int.toNat_natCast, cond_true]
   rw [Za ⟨by omega, by omega⟩]
   cases inR (gx xs k).Number 1 999 <;> cases inR (gx xs k).Since 1900 2999 <;> cases inR (gx xs k).Paid (wr ((gx xs k).Since - 1)) 2999 <;> cases decide ((gx xs k).Number ≤ (gx xs (k - 1)).Number) <;> rfl)]
 cases (List.range xs.length).all (memP xs) <;> rfl

def Zac (xs : List Int) : Bool := xs.all (fun n => inR n 0 1000000) && (((xs.length : Nat) : Int) == 6)
theorem Zhk {xs : List Int} (h : Zac xs = true) : xs.length = 6 := by
 simp only [Zac, Bool.and_eq_true, beq_iff_eq] at h; omega

theorem Zeg (xs : List Int) (hl : xs.length ≤ 4611686018427387904) : Zcc xs = some (Zac xs) := by
 unfold Zcc Zac
 rw [Za hl, Zbg (f := Zgd xs) (c := false) (fun k => inR (gx xs k) 0 1000000) (fun k hk => by
  simp only [Zgd, Zbn, Option.bind_some]; cases inR (gx xs k) 0 1000000 <;> rfl), ZkL (fun n => inR n 0 1000000)]
 cases xs.all (fun n => inR n 0 1000000) <;> rfl

theorem Znz (xs : List Int) (a b : Int) (hl : xs.length ≤ 4611686018427387904) : Zby xs a b = some (xs.all fun n => inR n a b) := by
 unfold Zby
 rw [Za hl, Zbg (f := Zcn xs a b) (c := false) (fun k => inR (gx xs k) a b) (fun k hk => by
  simp only [Zcn, ZaT, Option.bind_some]; cases inR (gx xs k) a b <;> rfl), ZkL (fun n => inR n a b)]
 cases xs.all (fun n => inR n a b) <;> rfl

theorem Zgh (xs : List Int) (hl : xs.length ≤ 4611686018427387904) : ZcT xs = some (Zac xs) := by
 unfold ZcT Zac
 rw [Znz xs _ _ hl]
 cases (((xs.length : Nat) : Int) == 6) <;> cases xs.all (fun n => inR n 0 1000000) <;> rfl

def ledP (xs : List GBooking) (k : Nat) : Bool := inR (gx xs k).Day 0 9999 && inR (gx xs k).From 0 4 && inR (gx xs k).To 0 4 && !((gx xs k).From == (gx xs k).To) && inR (gx xs k).Sum 1 100000 && !(decide ((k : Int) > 0) && decide ((gx xs k).Day < (gx xs (k - 1)).Day))
def Zax (xs : List GBooking) : Bool := (List.range xs.length).all (ledP xs) && decide (((xs.length : Nat) : Int) ≤ 60)
theorem Zuf {xs : List GBooking} (h : Zax xs = true) : xs.length ≤ 60 := by
 simp only [Zax, Bool.and_eq_true, decide_eq_true_eq] at h; omega

theorem ZhA (xs : List GBooking) (hl : xs.length ≤ 4611686018427387904) : Zc6 xs = some (Zax xs) := by
 unfold Zc6 Zax
 rw [Za hl, Zbg (f := Zfk xs) (c := false) (ledP xs) (fun k hk => by
  simp only [Zfk, Zbn, Option.bind_some, ledP]
  cases hd : decide ((k : Int) > 0)
  ·cases inR (gx xs k).Day 0 9999 <;> cases inR (gx xs k).From 0 4 <;> cases inR (gx xs k).To 0 4 <;> cases ((gx xs k).From == (gx xs k).To) <;> cases inR (gx xs k).Sum 1 100000 <;> rfl
  ·obtain ⟨e1, e2⟩ := ZiC hk hl hd
   simp only [e1, Int.toNat_natCast, cond_true]
   rw [Za ⟨by omega, by omega⟩]
   cases inR (gx xs k).Day 0 9999 <;> cases inR (gx xs k).From 0 4 <;> cases inR (gx xs k).To 0 4 <;> cases ((gx xs k).From == (gx xs k).To) <;> cases inR (gx xs k).Sum 1 100000 <;> cases decide ((gx xs k).Day < (gx xs (k - 1)).Day) <;> rfl)]
 cases (List.range xs.length).all (ledP xs) <;> rfl

theorem ZhG (xs : List GBooking) (hl : xs.length ≤ 4611686018427387904) : Zc8 xs = some (Zax xs) := by
 unfold Zc8 Zax
 rw [Za hl, Zbg (f := Zfu xs) (c := false) (ledP xs) (fun k hk => by
  simp only [Zfu, ZaT, Option.bind_some, ledP]
  cases hd : decide ((k : Int) > 0)
  ·cases inR (gx xs k).Day 0 9999 <;> cases inR (gx xs k).From 0 4 <;> cases inR (gx xs k).To 0 4 <;> cases ((gx xs k).From == (gx xs k).To) <;> cases inR (gx xs k).Sum 1 100000 <;> rfl
  ·obtain ⟨e1, e2⟩ := ZiC hk hl hd
   simp only [e1, Int.toNat_natCast, cond_true]
   rw [Za ⟨by omega, by omega⟩]
   cases inR (gx xs k).Day 0 9999 <;> cases inR (gx xs k).From 0 4 <;> cases inR (gx xs k).To 0 4 <;> cases ((gx xs k).From == (gx xs k).To) <;> cases inR (gx xs k).Sum 1 100000 <;> cases decide ((gx xs k).Day < (gx xs (k - 1)).Day) <;> rfl)]
 cases (List.range xs.length).all (ledP xs) <;> rfl

def Zc5 (e : GEntry) : Bool := inR e.Owner 0 99 && inR e.Day 0 9999 && Ze e.Block

@[simp] theorem Zpz (e : GEntry) : Zcf e = some (Zc5 e) := by
 unfold Zcf Zc5
 simp only [Zbn, Z5, Option.bind_some]
 cases inR e.Owner 0 99 <;> cases inR e.Day 0 9999 <;> rfl

@[simp] theorem Zpq (e : GEntry) : Zce e = some (Zc5 e) := by
 unfold Zce Zc5
 simp only [ZaT, ZV, Option.bind_some]
 cases inR e.Owner 0 99 <;> cases inR e.Day 0 9999 <;> rfl

def Zg8 (xs : List GMember) (n : Int) : Bool := !((List.range xs.length).all fun k => !((gx xs k).Number == n))

theorem Znv (xs : List GMember) (n : Int) (hl : xs.length ≤ 4611686018427387904) : ZeN xs n = some (Zg8 xs n) := by
 unfold ZeN Zg8
 rw [Za hl, Zbg (f := ZeB xs n) (c := true) (fun k => !((gx xs k).Number == n)) (fun k hk => by
  simp only [ZeB]; cases ((gx xs k).Number == n) <;> rfl)]
 cases (List.range xs.length).all (fun k => !((gx xs k).Number == n)) <;> rfl

theorem ZnY (xs : List GMember) (n : Int) (hl : xs.length ≤ 4611686018427387904) : ZfM xs n = some (Zg8 xs n) := by
 unfold ZfM Zg8
 rw [Za hl, Zbg (f := Ze8 xs n) (c := true) (fun k => !((gx xs k).Number == n)) (fun k hk => by
  simp only [Ze8]; cases ((gx xs k).Number == n) <;> rfl)]
 cases (List.range xs.length).all (fun k => !((gx xs k).Number == n)) <;> rfl

def Zgu (xs : List GMember) (y : Int) : List Int := bif ZE xs then ((List.range xs.length).filter fun k => decide ((gx xs k).Paid ≥ y)).map fun k => (gx xs k).Number else []
theorem Zr4 (xs : List GMember) (y : Int) : (Zgu xs y).length ≤ 40 := by
 unfold Zgu
 cases h : ZE xs
 ·simp
 ·have h1 := ZhT h
  have h2 := List.length_filter_le (fun k => decide ((gx xs k).Paid ≥ y)) (List.range xs.length)
  simp at h2 ⊢; omega

theorem ZlL (xs : List GMember) (y : Int) (hl : xs.length ≤ 4611686018427387904) : Zdb xs y = some (Zgu xs y) := by
 unfold Zdb Zgu
 rw [Zcg xs hl]
 cases h : ZE xs
 ·rfl
 have h1 := ZhT h
 simp only [Option.bind_some, Bool.not_true, cond_false, cond_true]
 rw [Za hl, Zjr (f := Zdm xs y) (xs := []) (fun k => decide ((gx xs k).Paid ≥ y)) (fun k => (gx xs k).Number) (fun k s hk hs => by
  simp only [Zdm]
  rw [Za (by simp at hs; omega)]
  cases decide ((gx xs k).Paid ≥ y) <;> rfl)]
 rfl

theorem ZlC (xs : List GMember) (y : Int) (hl : xs.length ≤ 4611686018427387904) : Zde xs y = some (Zgu xs y) := by
 unfold Zde Zgu
 rw [Za hl]
 cases h : ZE xs
 ·rcases Nat.eq_zero_or_pos xs.length with e | e
  ·rw [e]; rfl
  ·unfold lpO
   rw [ZlE (f := ZbA xs y) (fun _ => []) rfl 0 e (fun k hk => by omega) (s' := []) (by
    simp only [ZbA, ZbF xs hl, h, Option.bind_some, cond_false])]
   rfl
 have h1 := ZhT h
 simp only [cond_true]
 rw [Zjr (f := ZbA xs y) (xs := []) (fun k => decide ((gx xs k).Paid ≥ y)) (fun k => (gx xs k).Number) (fun k s hk hs => by
  simp only [ZbA, ZbF xs hl, h, Option.bind_some, cond_true]
  rw [Za (by simp at hs; omega)]
  cases decide ((gx xs k).Paid ≥ y) <;> rfl)]
 rfl

def Zbu (g : GGuild) : Int := bif inR (Zgu g.Members g.Year).length 2 10 then (Zgu g.Members g.Year).length - 1 else 0

theorem Zgw (g : GGuild) (hl : g.Members.length ≤ 4611686018427387904) : Zb9 g = some (Zbu g) := by
 unfold Zb9 Zbu
 have := Zr4 g.Members g.Year
 rw [ZlC _ _ hl]
 simp only [Option.bind_some, Zbn, ZO (n := ((Zgu g.Members g.Year).length : Int) - 1) (by omega) (by omega)]
 cases inR (Zgu g.Members g.Year).length 2 10 <;> rfl

theorem ZgL (g : GGuild) (hl : g.Members.length ≤ 4611686018427387904) : Zb8 g = some (Zbu g) := by
 unfold Zb8 Zbu
 have := Zr4 g.Members g.Year
 rw [ZlL _ _ hl]
 simp only [Option.bind_some, ZaT, ZO (n := ((Zgu g.Members g.Year).length : Int) - 1) (by omega) (by omega)]
 cases inR (Zgu g.Members g.Year).length 2 10 <;> rfl

def GL (g : GGuild) : Prop := g.Members.length ≤ 4611686018427387904 ∧ g.Stock.length ≤ 4611686018427387904 ∧ g.Entries.length ≤ 4611686018427387904 ∧ g.Books.length ≤ 4611686018427387904
theorem Zei {g : GGuild} (h : Sm.ok g) : GL g := by
 obtain ⟨h1, h2, h3, h4⟩ := h
 have := Zb7 h1; have := Zb7 h2; have := Zb7 h3; have := Zb7 h4
 exact ⟨by omega, by omega, by omega, by omega⟩
def entP (g : GGuild) (k : Nat) : Bool := Zc5 (gx g.Entries k) && Zg8 g.Members (gx g.Entries k).Owner && !(decide ((k : Int) > 0) && decide ((gx g.Entries k).Day < (gx g.Entries (k - 1)).Day))
def Zn (g : GGuild) : Bool := ZE g.Members && Zac g.Stock && Zax g.Books && !decide (((g.Entries.length : Nat) : Int) > 10) && inR g.Year 1900 2999 && (List.range g.Entries.length).all (entP g) && inR g.Round 0 (Zbu g)

theorem Zaq (g : GGuild) (h : GL g) : Zas g = some (Zn g) := by
 obtain ⟨h1, h2, h3, h4⟩ := h
 unfold Zas Zn
 simp only [ZbF _ h1, Zeg _ h2, ZhA _ h4, Zbn, Option.bind_some, Zgw _ h1]
 cases ZE g.Members
 ·rfl
 cases Zac g.Stock
 ·rfl
 cases Zax g.Books
 ·rfl
 cases decide (((g.Entries.length : Nat) : Int) > 10)
 ·cases inR g.Year 1900 2999
  ·rfl
  simp only [Bool.not_true, Bool.not_false, cond_false, Option.bind_some]
  rw [Za h3, Zbg (f := Zgo g) (c := false) (entP g) (fun k hk => by
   simp only [Zgo, Zpz, Znv _ _ h1, Option.bind_some, entP]
   cases hd : decide ((k : Int) > 0)
   ·cases Zc5 (gx g.Entries k) <;> cases Zg8 g.Members (gx g.Entries k).Owner <;> rfl
   ·obtain ⟨e1, e2⟩ := ZiC hk h3 hd
    simp only [e1, Int.toNat_natCast, cond_true]
    rw [Za ⟨by omega, by omega⟩]
    cases Zc5 (gx g.Entries k) <;> cases Zg8 g.Members (gx g.Entries k).Owner <;> cases decide ((gx g.Entries k).Day < (gx g.Entries (k - 1)).Day) <;> rfl)]
  cases (List.range g.Entries.length).all (entP g) <;> rfl
 ·rfl

theorem ZbG (g : GGuild) (h : GL g) : Zba g = some (Zn g) := by
 obtain ⟨h1, h2, h3, h4⟩ := h
 unfold Zba Zn
 simp only [Zcg _ h1, Zgh _ h2, ZhG _ h4, ZaT, Option.bind_some, ZgL _ h1]
 cases ZE g.Members
 ·rfl
 cases Zac g.Stock
 ·rfl
 cases Zax g.Books
 ·rfl
 cases decide (((g.Entries.length : Nat) : Int) > 10)
 ·simp only [Bool.not_true, Bool.not_false, cond_false, Option.bind_some]
  rw [Za h3, Zbg (f := Zgg g) (c := false) (entP g) (fun k hk => by
   simp only [Zgg, Zpq, ZnY _ _ h1, Option.bind_some, entP]
   cases hd : decide ((k : Int) > 0)
   ·cases Zc5 (gx g.Entries k) <;> cases Zg8 g.Members (gx g.Entries k).Owner <;> rfl
   ·obtain ⟨e1, e2⟩ := ZiC hk h3 hd
    simp only [e1, Int.toNat_natCast, cond_true]
    rw [Za ⟨by omega, by omega⟩]
    cases Zc5 (gx g.Entries k) <;> cases Zg8 g.Members (gx g.Entries k).Owner <;> cases decide ((gx g.Entries k).Day < (gx g.Entries (k - 1)).Day) <;> rfl)]
  cases (List.range g.Entries.length).all (entP g) <;> cases inR g.Year 1900 2999 <;> rfl
 ·rfl

theorem ZcQ {g : GGuild} (h : Zn g = true) : Sm.ok g := by
 simp only [Zn, Bool.and_eq_true, Bool.not_eq_true', decide_eq_false_iff_not] at h
 obtain ⟨⟨⟨⟨⟨⟨h1, h2⟩, h3⟩, h4⟩, _⟩, h6⟩, _⟩ := h
 have := ZhT h1; have := Zhk h2; have := Zuf h3
 refine ⟨⟨by omega, fun _ _ => trivial⟩, ⟨by omega, fun _ _ => trivial⟩, ⟨by omega, ZtN fun k hk => ?_⟩, ⟨by omega, fun _ _ => trivial⟩⟩
 rw [List.all_eq_true] at h6
 have := h6 k (by simpa using hk)
 simp only [entP, Zc5, Bool.and_eq_true] at this
 exact Zdq this.1.1.2

theorem Zkc {b : GBlock} (h : Sm.ok b) : Za8 b = some b := by
 have := Zb7 h
 unfold Za8
 rw [Za (by simp; omega)]; simp

theorem Zh2 {b : GBlock} (h : Sm.ok b) : Zal b = some b := by
 have := Zb7 h
 unfold Zal
 rw [Za (by simp; omega)]; simp

theorem ZcW {g : GGuild} (h : Sm.ok g) : ZaP g = some g := by
 obtain ⟨h1, h2, h3, h4⟩ := h
 have l1 := Zb7 h1; have l2 := Zb7 h2; have l3 := Zb7 h3; have l4 := Zb7 h4
 unfold ZaP
 rw [Za (by simp; omega), Za (by simp; omega), Za (by simp; omega), Za (by omega), ZbH (f := Zgq g) (xs := []) (fun k => gx g.Entries k) (fun k s hk hs => by
  simp only [Zgq, Zkc (h3.2 _ (ZX hk)), Option.bind_some]
  rw [Za (by simp at hs; omega)])]
 have := ZcR id g.Entries
 simp only [id] at this
 simp [this]

theorem Zf8 {xs : List GMember} (h : xs.length ≤ 1048600) : Zbp xs = some xs := by
 unfold Zbp
 rw [Za (by simp; omega)]; simp

theorem ZkR {xs : List Int} (h : xs.length ≤ 1048600) : ZfW xs = some xs := by
 unfold ZfW
 rw [Za (by simp; omega)]; simp

theorem Zau {g : GGuild} (h : Sm.ok g) : Z6 g = some g := by
 obtain ⟨h1, h2, h3, h4⟩ := h
 have l1 := Zb7 h1; have l2 := Zb7 h2; have l3 := Zb7 h3; have l4 := Zb7 h4
 unfold Z6
 rw [Zf8 (by omega), ZkR (by omega)]
 simp only [Option.bind_some]
 rw [Za (by simp; omega), Za (by omega), ZbH (f := Zdo g) (xs := []) (fun k => gx g.Entries k) (fun k s hk hs => by
  simp only [Zdo, Zh2 (h3.2 _ (ZX hk)), Option.bind_some]
  rw [Za (by simp at hs; omega)])]
 have := ZcR id g.Entries
 simp only [id] at this
 simp [this]

theorem Zgr {g next : GGuild} (h : Sm.ok g) (hn : GL next) (ok : Bool) : Zam g next ok = some (bif Zn g && ok && Zn next then (next, true) else (g, false)) := by
 unfold Zam
 rw [ZbG g (Zei h), ZbG next hn, Zau h]
 cases Zn g <;> cases ok <;> cases Zn next <;> rfl

theorem ZqV (y : Int) (_ : Fit.ok y) : ∃ w, Zcr y = some w ∧ ZfT y = some w ∧ Sm.ok w.1 := by
 have hg : GL (⟨[], [1000, 1000, 1000, 1000, 1000, 1000], [], [], 0, y⟩ : GGuild) := ⟨by simp, by simp, by simp, by simp⟩
 have hl : lpO Zfp 6 ([] : List Int) = some [1000, 1000, 1000, 1000, 1000, 1000] := rfl
 have hz : Sm.ok (⟨[], [], [], [], 0, 0⟩ : GGuild) := ⟨⟨by simp, fun _ h => by simp at h⟩, ⟨by simp, fun _ h => by simp at h⟩, ⟨by simp, fun _ h => by simp at h⟩, ⟨by simp, fun _ h => by simp at h⟩⟩
 unfold Zcr ZfT
 rw [hl]
 simp only [Option.bind_some, Zaq _ hg, ZbG _ hg]
 cases h : Zn (⟨[], [1000, 1000, 1000, 1000, 1000, 1000], [], [], 0, y⟩ : GGuild)
 ·exact ⟨_, rfl, rfl, hz⟩
 ·exact ⟨_, rfl, rfl, ZcQ h⟩

theorem Zmm (g : GGuild) (h : Sm.ok g) : ∃ w, ZdA g = some w ∧ ZeS g = some w ∧ Sm.ok w.1 ∧ (w = (g, false) ∨ w = ((⟨g.Members, g.Stock, g.Entries, g.Books, wr (g.Round + 1), g.Year⟩ : GGuild), true) ∧ Zn w.1 = true) := by
 have hn : GL (⟨g.Members, g.Stock, g.Entries, g.Books, wr (g.Round + 1), g.Year⟩ : GGuild) := Zei (g := g) h
 unfold ZdA ZeS
 simp only [ZcW h, Zau h, Option.bind_some, Zaq _ (Zei h), Zaq _ hn, Zgr h hn]
 cases Zn g
 ·exact ⟨(g, false), rfl, rfl, h, .inl rfl⟩
 cases hk : Zn (⟨g.Members, g.Stock, g.Entries, g.Books, wr (g.Round + 1), g.Year⟩ : GGuild)
 ·exact ⟨(g, false), rfl, rfl, h, .inl rfl⟩
 ·exact ⟨_, rfl, rfl, ZcQ hk, .inr ⟨rfl, hk⟩⟩

theorem Ztd (g : GGuild) (h : Sm.ok g) : ∃ w, ZjP g = some w ∧ ZgF g = some w ∧ Sm.ok w.1 ∧ (w = (g, false) ∨ w = ((⟨g.Members, g.Stock, g.Entries, g.Books, 0, wr (g.Year + 1)⟩ : GGuild), true) ∧ Zn w.1 = true) := by
 have hn : GL (⟨g.Members, g.Stock, g.Entries, g.Books, 0, wr (g.Year + 1)⟩ : GGuild) := Zei (g := g) h
 unfold ZjP ZgF
 simp only [ZcW h, Zau h, Option.bind_some, Zaq _ (Zei h), Zaq _ hn, Zgr h hn, Zgw g (Zei h).1, ZgL g (Zei h).1]
 have e : decide (g.Round ≥ Zbu g) = !decide (g.Round < Zbu g) := by
  by_cases hh : g.Round < Zbu g
  ·have : ¬ g.Round ≥ Zbu g := by omega
   simp [hh]
  ·have : g.Round ≥ Zbu g := by omega
   simp [hh, this]
 rw [e]
 cases Zn g
 ·exact ⟨(g, false), rfl, rfl, h, .inl rfl⟩
 cases decide (g.Round < Zbu g)
 ·cases hk : Zn (⟨g.Members, g.Stock, g.Entries, g.Books, 0, wr (g.Year + 1)⟩ : GGuild)
  ·exact ⟨(g, false), rfl, rfl, h, .inl rfl⟩
  ·exact ⟨_, rfl, rfl, ZcQ hk, .inr ⟨rfl, hk⟩⟩
 ·exact ⟨(g, false), rfl, rfl, h, .inl rfl⟩

def digM (a : Int) : UInt8 := UInt8.ofNat (48 + a.toNat)
def Z9 (c : GCell) : List UInt8 := bif c.Split == 1 then [digM c.A, 47, digM c.B] else bif c.Split == 2 then [digM c.A, 92, digM c.B] else [digM c.A]
def Zej (l : List GCell) : List UInt8 := l.flatMap fun c => Z9 c ++ [59]
def ZdU (b : GBlock) : Str := ⟨bif Ze b then Zej b.Cells else []⟩
theorem ZjW (c : GCell) : (Z9 c).length ≤ 3 := by
 unfold Z9
 cases c.Split == 1 <;> cases c.Split == 2 <;> simp
theorem ZlU (l : List GCell) : (Zej l).length ≤ 4 * l.length := by
 induction l with
 | nil => simp [Zej]
 | cons c l ih =>
  have := ZjW c
  simp only [Zej, List.flatMap_cons, List.length_append, List.length_cons, List.length_nil] at ih ⊢
  omega
def Zgz (c d : GCell) : Bool := c.Split == d.Split && c.A == d.A && c.B == d.B
theorem Zvj (a b c d e f : Int) : beqs [a, b, c] [d, e, f] = (a == d && b == e && c == f) := by simp [beqs, Bool.and_assoc]
def Zh0 (b d : GBlock) : Bool := b.Size == d.Size && b.Cells.length == d.Cells.length && (List.range b.Cells.length).all fun k => Zgz (gx b.Cells k) (gx d.Cells k)
theorem ZkD (a b : Nat) : ((a : Int) == (b : Int)) = (a == b) := by
 rw [Bool.eq_iff_iff, beq_iff_eq, beq_iff_eq]; omega

theorem Zns {b d : GBlock} (hb : b.Cells.length ≤ 1048576) : Ze0 b d = some (Zh0 b d) := by
 unfold Ze0 Zh0
 simp only [bne, ZkD]
 cases h1 : b.Size == d.Size
 ·simp
 cases h2 : b.Cells.length == d.Cells.length
 ·simp
 have h2' : b.Cells.length = d.Cells.length := by simpa using h2
 simp only [Bool.not_true, Bool.or_self, cond_false, Bool.and_self, Bool.true_and]
 rw [Za (by omega), Zbg (f := Zex b d) (c := false) (fun k => Zgz (gx b.Cells k) (gx d.Cells k)) (fun k hk => by
  simp only [Zex, Zvj]
  rw [Za (by omega)]
  unfold Zgz
  cases ((gx b.Cells k).Split == (gx d.Cells k).Split && (gx b.Cells k).A == (gx d.Cells k).A && (gx b.Cells k).B == (gx d.Cells k).B) <;> rfl)]
 cases (List.range b.Cells.length).all fun k => Zgz (gx b.Cells k) (gx d.Cells k) <;> rfl

theorem Znq {b d : GBlock} (hb : b.Cells.length ≤ 1048576) : ZeG b d = some (Zh0 b d) := by
 unfold ZeG Zh0
 simp only [bne, ZkD]
 cases h1 : b.Size == d.Size
 ·simp
 cases h2 : b.Cells.length == d.Cells.length
 ·simp
 have h2' : b.Cells.length = d.Cells.length := by simpa using h2
 simp only [Bool.not_true, Bool.or_self, cond_false, Bool.and_self, Bool.true_and]
 rw [Za (by omega), Zbg (f := Zev b d) (c := false) (fun k => Zgz (gx b.Cells k) (gx d.Cells k)) (fun k hk => by
  simp only [Zev, Zvj]
  rw [Za (by omega)]
  unfold Zgz
  cases ((gx b.Cells k).Split == (gx d.Cells k).Split && (gx b.Cells k).A == (gx d.Cells k).A && (gx b.Cells k).B == (gx d.Cells k).B) <;> rfl)]
 cases (List.range b.Cells.length).all fun k => Zgz (gx b.Cells k) (gx d.Cells k) <;> rfl

theorem ZhX {a : Int} (h0 : 0 ≤ a) (h1 : a ≤ 5) : ZJ a = some ⟨[digM a]⟩ := by
 have ha : a = 0 ∨ a = 1 ∨ a = 2 ∨ a = 3 ∨ a = 4 ∨ a = 5 := by omega
 have key : ∀ (s s' s'' : Int × Str), Za1 s = some (.next s') → Za1 s' = some (.brk s'') → wlO Za1 18446744073709551616 s = some s'' := fun s s' s'' h1 h2 => by
  have : ∀ n, wlO Za1 (n + 2) s = some s'' := fun n => by
   unfold wlO
   rw [whO, h1]
   simp only [Option.bind_some]
   rw [whO, h2]
   rfl
  exact this 18446744073709551614
 rcases ha with rfl | rfl | rfl | rfl | rfl | rfl
 ·rfl
 ·unfold ZJ
  rw [key (1, ⟨[]⟩) (0, ⟨[49]⟩) (0, ⟨[49]⟩) rfl rfl]; rfl
 ·unfold ZJ
  rw [key (2, ⟨[]⟩) (0, ⟨[50]⟩) (0, ⟨[50]⟩) rfl rfl]; rfl
 ·unfold ZJ
  rw [key (3, ⟨[]⟩) (0, ⟨[51]⟩) (0, ⟨[51]⟩) rfl rfl]; rfl
 ·unfold ZJ
  rw [key (4, ⟨[]⟩) (0, ⟨[52]⟩) (0, ⟨[52]⟩) rfl rfl]; rfl
 ·unfold ZJ
  rw [key (5, ⟨[]⟩) (0, ⟨[53]⟩) (0, ⟨[53]⟩) rfl rfl]; rfl

theorem ZjH {c : GCell} (h : Zm c = true) : Zea c = some ⟨Z9 c⟩ := by
 obtain ⟨h1, h2, h3, h4, h5, h6, h7⟩ := ZaW h
 unfold Zea Z9
 simp only [ZbU, h, ZhX h3 h4, ZhX h5 h6, Option.bind_some, Bool.not_true, cond_false]
 cases c.Split == 1
 ·cases c.Split == 2
  ·rfl
  ·simp only [cond_true, cond_false]
   rw [Za (by simp), Za (by simp [sadd])]; rfl
 ·simp only [cond_true]
  rw [Za (by simp), Za (by simp [sadd])]; rfl

theorem ZkW {b : GBlock} (h : Ze b = true) : Zep b = some (ZdU b) := by
 obtain ⟨n, hn, h1, h2, hl, hc⟩ := Zs h
 have hnn : n * n ≤ 4 * 4 := Nat.mul_le_mul h2 h2
 unfold Zep
 rw [Za (by omega), ZaL (f := ZgZ b) (s0 := (⟨[]⟩ : Str)) (fun k => (⟨Zej (b.Cells.take k)⟩ : Str)) rfl (fun k hk => by
  have hx := hc _ (ZX hk)
  have hlen := ZlU (b.Cells.take k)
  have hlen2 : (b.Cells.take k).length ≤ 16 := by simp; omega
  have hlen3 := ZjW (gx b.Cells k)
  simp only [ZgZ, Z5, h, cond_true, Option.bind_some, ZjH hx]
  rw [Za (by omega), Za (by simp only [sadd, List.length_append, List.length_cons, List.length_nil]; omega)]
  rw [List.take_succ_eq_append_getElem hk, ← Zbm hk]
  simp [sadd, Zej])]
 simp [ZdU, h]

theorem ZuR (a b : Nat) : ((a : Int)).tdiv (b : Int) = ((a / b : Nat) : Int) := rfl
theorem Zsb (a b : Nat) : ((a : Int)).tmod (b : Int) = ((a % b : Nat) : Int) := rfl
def addU (acc : List Int) (a : Int) : List Int := bif acc.contains a then acc else acc ++ [a]
theorem ZpE {acc : List Int} (h : acc.Nodup) (a : Int) : (addU acc a).Nodup := by
 unfold addU
 cases hc : acc.contains a
 ·have hn : ¬ a ∈ acc := by
   intro hm
   have := List.contains_iff_mem.2 hm
   rw [hc] at this; cases this
  simp only [cond_false]
  rw [List.nodup_append]
  refine ⟨h, by simp, ?_⟩
  intro x hx y hy e
  simp only [List.mem_singleton] at hy
  subst hy; subst e
  exact hn hx
 ·exact h
theorem Zu4 {acc : List Int} {a x : Int} : x ∈ addU acc a ↔ x ∈ acc ∨ x = a := by
 unfold addU
 cases hc : acc.contains a
 ·simp
 ·have hm : a ∈ acc := List.contains_iff_mem.1 hc
  simp only [cond_true]
  constructor
  ·exact Or.inl
  ·rintro (h | rfl)
   ·exact h
   ·exact hm
theorem ZiW : ∀ (l acc : List Int), acc.Nodup → (l.foldl addU acc).Nodup ∧ ∀ x, x ∈ l.foldl addU acc ↔ x ∈ acc ∨ x ∈ l
 | [], acc, h => ⟨h, fun x => by simp⟩
 | a :: l, acc, h => by
  obtain ⟨h1, h2⟩ := ZiW l (addU acc a) (ZpE h a)
  refine ⟨h1, fun x => ?_⟩
  rw [List.foldl_cons, h2, Zu4]
  simp [or_assoc]
def ZmA (b : GBlock) : List Int := b.Cells.flatMap fun c => [c.A, c.B]
def six : List Int := [0, 1, 2, 3, 4, 5]
theorem ZsW {x : Int} : x ∈ six ↔ 0 ≤ x ∧ x ≤ 5 := by
 simp only [six, List.mem_cons, List.not_mem_nil, or_false]; omega
def ord6 (b : GBlock) : List Int := (ZmA b ++ six).foldl addU []
theorem ZpF {b : GBlock} {x : Int} : x ∈ ZmA b ↔ ∃ c ∈ b.Cells, x = c.A ∨ x = c.B := by simp [ZmA]
theorem ZvH {b : GBlock} (h : Ze b = true) : (ord6 b).Nodup ∧ (∀ x, x ∈ ord6 b ↔ 0 ≤ x ∧ x ≤ 5) ∧ (ord6 b).length = 6 := by
 obtain ⟨n, hn, h1, h2, hl, hc⟩ := Zs h
 obtain ⟨g1, g2⟩ := ZiW (ZmA b ++ six) [] (by simp)
 have g3 : ∀ x, x ∈ ord6 b ↔ 0 ≤ x ∧ x ≤ 5 := fun x => by
  unfold ord6
  rw [g2]
  simp only [List.not_mem_nil, false_or, List.mem_append, ZsW]
  constructor
  ·rintro (h | h)
   ·obtain ⟨c, hm, h⟩ := ZpF.1 h
    obtain ⟨c1, c2, c3, c4, c5, c6, _⟩ := ZaW (hc c hm)
    rcases h with rfl | rfl <;> omega
   ·exact h
  ·exact Or.inr
 refine ⟨g1, g3, ?_⟩
 have p : (ord6 b).Perm six := (List.perm_ext_iff_of_nodup (show (ord6 b).Nodup from g1) (by decide)).2 fun x => by rw [g3, ZsW]
 exact p.length_eq

def idxM (l : List Int) (n : Int) : Int := match (List.range l.length).find? (fun k => gx l k == n) with | some k => (k : Int) | none => -1
theorem Zfg (l : List Int) (n : Int) : (¬ n ∈ l ∧ idxM l n = -1) ∨ ∃ k : Nat, k < l.length ∧ idxM l n = k ∧ gx l k = n := by
 unfold idxM
 cases h : (List.range l.length).find? (fun k => gx l k == n) with
 | none =>
  left
  refine ⟨fun hm => ?_, rfl⟩
  obtain ⟨i, hi, rfl⟩ := List.getElem_of_mem hm
  rw [List.find?_eq_none] at h
  exact h i (by simpa using hi) (by simp [Zbm hi])
 | some k =>
  right
  refine ⟨k, by simpa using List.mem_of_find?_eq_some h, rfl, by simpa using List.find?_some h⟩
theorem Zr8 {l : List Int} {n : Int} : idxM l n < 0 ↔ ¬ n ∈ l := by
 rcases Zfg l n with ⟨h1, h2⟩ | ⟨k, h1, h2, h3⟩
 ·simp [h1, h2]
 ·constructor
  ·intro h; omega
  ·intro h; exact absurd (h3 ▸ ZX h1) h
theorem ZpN {l : List Int} (hn : l.Nodup) {k : Nat} (hk : k < l.length) : idxM l (gx l k) = k := by
 rcases Zfg l (gx l k) with ⟨h1, h2⟩ | ⟨j, h1, h2, h3⟩
 ·exact absurd (ZX hk) h1
 ·rw [h2]
  rw [Zbm h1, Zbm hk] at h3
  have := (List.getElem_inj hn).1 h3
  rw [this]
theorem Zl1 (l : List Int) (n : Int) : decide (idxM l n < 0) = !(l.contains n) := by
 rw [Bool.eq_iff_iff]
 simp [Zr8]
theorem ZbX {α : Type} [Rep α] {l m : List α} {k : Nat} (h : k < l.length) : gx (l ++ m) k = gx l k := by
 unfold gx List.getD
 rw [List.getElem?_append_left h]
theorem Zsw {l : List Int} (m : List Int) {n : Int} (hn : (l ++ m).Nodup) (h : n ∈ l) : idxM (l ++ m) n = idxM l n := by
 rcases Zfg l n with ⟨h1, h2⟩ | ⟨k, h1, h2, h3⟩
 ·exact absurd h h1
 ·rw [h2, ← h3, ← ZbX (m := m) h1, ZpN hn (by simp; omega)]
theorem Zuy {l : List Int} {n : Int} (hn : (l ++ [n]).Nodup) : idxM (l ++ [n]) n = l.length := by
 have := ZpN hn (k := l.length) (by simp)
 have e : gx (l ++ [n]) l.length = n := by simp [gx, List.getD]
 rwa [e] at this
def Zec (b : GBlock) : List Int := bif Ze b then (List.range 6).map fun a : Nat => idxM (ord6 b) (a : Int) else []
theorem ZmF {b : GBlock} (h : Ze b = true) : (Zec b).length = 6 := by simp [Zec, h]
def ZaN (l : List Int) : Bool := l.length == 6 && l.all fun a => inR a 0 5
theorem ZfY {l : List Int} (h : ZaN l = true) : l.length = 6 ∧ ∀ a ∈ l, 0 ≤ a ∧ a ≤ 5 := by
 simp only [ZaN, Bool.and_eq_true, beq_iff_eq, List.all_eq_true, ZS] at h
 exact h
theorem ZtT {l : List Int} (h : l.length = 6) (h2 : ∀ a ∈ l, 0 ≤ a ∧ a ≤ 5) : ZaN l = true := by
 simp only [ZaN, Bool.and_eq_true, beq_iff_eq, List.all_eq_true, ZS]
 exact ⟨h, h2⟩
theorem ZmO (s a b : Int) : Zm (Zbk s a b) = true := by
 unfold Zbk Zbx
 cases h : a == b
 ·cases h2 : Zm ⟨s, a, b⟩
  ·rfl
  ·exact h2
 ·cases h2 : inR a 0 5
  ·rfl
  ·have := ZS.1 h2
   exact ZaO (by simp) (by simp) this.1 this.2 this.1 this.2 (by simp)
def ZC (c : GCell) (l : List Int) : GCell := bif Zm c && ZaN l then Zbk c.Split (gx l c.A.toNat) (gx l c.B.toNat) else ⟨0, 0, 0⟩
theorem Zkt (c : GCell) (l : List Int) : Zm (ZC c l) = true := by
 unfold ZC
 cases Zm c && ZaN l
 ·rfl
 ·exact ZmO _ _ _
def Zdx (b : GBlock) (l : List Int) : GBlock × Bool := bif Ze b && ZaN l then (⟨b.Size, b.Cells.map fun c => ZC c l⟩, true) else (b, false)
theorem Zsx {b : GBlock} (h : Ze b = true) (l : List Int) : Ze (Zdx b l).1 = true ∧ (Zdx b l).1.Size = b.Size := by
 unfold Zdx
 cases hc : Ze b && ZaN l
 ·exact ⟨h, rfl⟩
 ·obtain ⟨n, hn, h1, h2, hl, hcs⟩ := Zs h
  refine ⟨?_, rfl⟩
  rw [hn]
  exact Zjn h1 h2 (by simpa using hl) (fun c hm => by
   simp only [List.mem_map] at hm
   obtain ⟨d, _, rfl⟩ := hm
   exact Zkt d l)
def ZbL (b : GBlock) : GBlock := (Zdx b (Zec b)).1
theorem ZlR {b : GBlock} (h : Ze b = true) : Ze (ZbL b) = true ∧ (ZbL b).Size = b.Size := Zsx h _
theorem Ztq {α β : Type} [Rep α] (F : α → β) {n : Nat} {l : List α} (hl : l.length = n * n) : (ZbD n n fun y x => F (gx l (y * n + x))) = l.map F := by
 apply List.ext_getElem
 ·rw [Zcq]; simp [hl]
 ·intro i h1 h2
  have hi : i < n * n := by rw [Zcq] at h1; exact h1
  have hn : 0 < n := by
   rcases Nat.eq_zero_or_pos n with h | h
   ·subst h; simp at hi
   ·exact h
  have hd : i / n * n + i % n = i := by rw [Nat.mul_comm]; exact Nat.div_add_mod i n
  have key : ∀ (h w : Nat) (G : Nat → Nat → β) (y x : Nat), y < h → x < w → (ZbD h w G)[y * w + x]? = some (G y x) := by
   intro h w G y x hy hx
   induction h with
   | zero => omega
   | succ h ih =>
    rw [ZkF]
    rcases Nat.lt_or_ge y h with hlt | hge
    ·rw [List.getElem?_append_left (by rw [Zcq]; exact ZvQ hlt hx)]
     exact ih hlt
    ·have e : y = h := by omega
     subst e
     rw [List.getElem?_append_right (by rw [Zcq]; omega), Zcq]
     simp [hx]
  have k1 := key n n (fun y x => F (gx l (y * n + x))) (i / n) (i % n) ((Nat.div_lt_iff_lt_mul hn).2 hi) (Nat.mod_lt _ hn)
  simp only [hd] at k1
  rw [List.getElem?_eq_getElem h1] at k1
  have := Option.some.inj k1
  rw [this, Zbm (by omega)]
  simp

theorem Zi0 {l : List Int} (hl : l.length ≤ 1048576) (a b : Int) : Zby l a b = some (l.all fun x => inR x a b) := by
 unfold Zby
 rw [Za (by omega), Zbg (f := Zcn l a b) (fun k => inR (gx l k) a b) (fun k hk => by
  simp only [Zcn, ZaT, Option.bind_some]; cases inR (gx l k) a b <;> rfl), ZkL (fun x => inR x a b)]
 cases l.all fun x => inR x a b <;> rfl

theorem Zk5 {l : List Int} (hl : l.length ≤ 1048576) : Zf1 l = some (ZaN l) := by
 unfold Zf1 ZaN
 rw [Zi0 hl]
 have : ((l.length : Int) == 6) = (l.length == 6) := by
  rw [Bool.eq_iff_iff]; simp; omega
 rw [this]
 cases l.length == 6 <;> rfl

theorem Zk0 {l : List Int} (hl : l.length ≤ 1048576) : ZfV l = some (ZaN l) := by
 unfold ZfV ZaN
 have : ((l.length : Int) == 6) = (l.length == 6) := by
  rw [Bool.eq_iff_iff]; simp; omega
 rw [Za (by omega), Zbg (f := Zhd l) (c := false) (fun k => inR (gx l k) 0 5) (fun k hk => by
  simp only [Zhd, Zbn, Option.bind_some]; cases inR (gx l k) 0 5 <;> rfl), ZkL (fun x => inR x 0 5), this]
 cases l.all fun x => inR x 0 5 <;> cases l.length == 6 <;> rfl

theorem Zll (c : GCell) {l : List Int} (hl : l.length ≤ 1048576) : Zdd c l = some (ZC c l) := by
 unfold Zdd ZC
 simp only [ZbC, Zk5 hl, Znk, Option.bind_some]
 cases h : Zm c
 ·rfl
 cases hL : ZaN l
 ·rfl
 obtain ⟨h1, h2, h3, h4, h5, h6, h7⟩ := ZaW h
 obtain ⟨g1, g2⟩ := ZfY hL
 simp only [Bool.not_true, cond_false]
 rw [Za ⟨by omega, by omega⟩, Za ⟨by omega, by omega⟩]
 rfl

theorem ZlP (c : GCell) {l : List Int} (hl : l.length ≤ 1048576) : Zdg c l = some (ZC c l) := by
 unfold Zdg ZC
 simp only [ZbU, Zk0 hl, Zjb, Option.bind_some]
 cases h : Zm c
 ·rfl
 cases hL : ZaN l
 ·rfl
 obtain ⟨h1, h2, h3, h4, h5, h6, h7⟩ := ZaW h
 obtain ⟨g1, g2⟩ := ZfY hL
 simp only [Bool.not_true, cond_false]
 rw [Za ⟨by omega, by omega⟩, Za ⟨by omega, by omega⟩]
 rfl

theorem ZhQ {b : GBlock} {l : List Int} (hb : b.Cells.length ≤ 1048576) (hl : l.length ≤ 1048576) : ZbY b l = some (Zdx b l) := by
 unfold ZbY Zdx
 simp only [ZV, Zk5 hl, Option.bind_some]
 have hc : Zal b = some b := by
  unfold Zal
  rw [Za (by simp; omega)]; simp
 cases h : Ze b
 ·simp [hc]
 cases h2 : ZaN l
 ·simp [hc]
 obtain ⟨n, hn, h1, h2, hl2, hcs⟩ := Zs h
 simp only [Bool.not_true, cond_false, cond_true, Bool.and_self, hn]
 rw [ZpM n _ (fun y x => ZC (gx b.Cells (y * n + x)) l) (by omega) (fun y x hy hx => by
  simp only [ZbV, Zhe, Zll _ hl, Option.bind_some]
  rw [ZiE h hn hx hy]), Ztq (fun c => ZC c l) hl2]
 rfl

theorem ZkT {b : GBlock} {l : List Int} (hb : b.Cells.length ≤ 1048576) (hl : l.length ≤ 1048576) : ZcU b l = some (Zdx b l) := by
 unfold ZcU Zdx
 simp only [Z5, Zk0 hl, Option.bind_some]
 have hc : Za8 b = some b := by
  unfold Za8
  rw [Za (by simp; omega)]; simp
 cases h : Ze b
 ·simp [hc]
 cases h2 : ZaN l
 ·simp [hc]
 simp only [Bool.not_true, cond_false, cond_true, Bool.and_self]
 rw [Za (by omega), ZbH (f := ZcY b l) (xs := []) (fun k => ZC (gx b.Cells k) l) (fun k s hk hs => by
  simp only [ZcY, ZlP _ hl, Option.bind_some]
  rw [Za (by simp at hs; omega)]), ZcR (fun c => ZC c l)]
 rfl

theorem Zo5 {l : List Int} (hl : l.length ≤ 1048576) (n : Int) : ZdP l n = some (idxM l n) := by
 unfold ZdP idxM
 rw [Za (by omega), Zqy (f := Zgc l n) (fun k => gx l k == n) (fun k => (k : Int)) (fun k hk => by
  unfold Zgc
  cases gx l k == n <;> rfl)]
 cases (List.range l.length).find? fun k => gx l k == n <;> rfl

def putM : List Int → Int → List Int
 | [], n => [n]
 | x :: r, n => bif decide (n ≤ x) then n :: x :: r else x :: putM r n
theorem Zkj : ∀ (l : List Int) (n : Int), (putM l n).Perm (n :: l)
 | [], n => .refl _
 | x :: r, n => by
  unfold putM
  cases decide (n ≤ x)
  ·exact ((Zkj r n).cons x).trans (.swap _ _ _)
  ·exact .refl _
theorem ZnS : ∀ {l : List Int}, l.Pairwise (· ≤ ·) → ∀ n, (putM l n).Pairwise (· ≤ ·)
 | [], _, n => by simp [putM]
 | x :: r, h, n => by
  unfold putM
  rw [List.pairwise_cons] at h
  cases hd : decide (n ≤ x)
  ·simp only [cond_false, List.pairwise_cons]
   refine ⟨fun y hy => ?_, ZnS h.2 n⟩
   have := (Zkj r n).mem_iff.1 hy
   simp only [List.mem_cons] at this
   have hd' : ¬ n ≤ x := by simpa using hd
   rcases this with rfl | hm
   ·omega
   ·exact h.1 _ hm
  ·have hd' : n ≤ x := by simpa using hd
   simp only [cond_true, List.pairwise_cons]
   refine ⟨fun y hy => ?_, h.1, h.2⟩
   simp only [List.mem_cons] at hy
   rcases hy with rfl | hm
   ·exact hd'
   ·have := h.1 _ hm; omega
theorem ZuN (l : List Int) (n : Int) : (putM l n).length = l.length + 1 := by
 have := (Zkj l n).length_eq
 simpa using this
theorem ZnL : ∀ (l : List Int) (x n : Int), putM (l ++ [x]) n = bif l.any (fun y => decide (n ≤ y)) then putM l n ++ [x] else (bif decide (n ≤ x) then l ++ [n, x] else l ++ [x, n])
 | [], x, n => by unfold putM; simp only [List.nil_append]; cases h : decide (n ≤ x) <;> simp [putM, h]
 | y :: l, x, n => by
  simp only [List.cons_append, putM, List.any_cons]
  cases h : decide (n ≤ y)
  ·simp only [cond_false, Bool.false_or, ZnL l x n]
   cases l.any fun y => decide (n ≤ y)
   ·cases decide (n ≤ x) <;> rfl
   ·rfl
  ·rfl
theorem Zqs : ∀ (l : List Int) (n : Int), l.any (fun y => decide (n ≤ y)) = false → putM l n = l ++ [n]
 | [], _, _ => rfl
 | x :: l, n, h => by
  simp only [List.any_cons, Bool.or_eq_false_iff] at h
  simp only [putM, h.1, cond_false, List.cons_append, Zqs l n h.2]

theorem Zsy {l : List Int} (hl : l.length ≤ 1048576) (n : Int) : ZjG l n = some (putM l n) := by
 unfold ZjG
 rw [Za (by omega), ZaL (f := ZiG l n) (s0 := (([] : List Int), false)) (fun k => bif (l.take k).any (fun y => decide (n ≤ y)) then (putM (l.take k) n, true) else (l.take k, false)) rfl (fun k hk => by
  have ht : l.take (k + 1) = l.take k ++ [gx l k] := by rw [List.take_succ_eq_append_getElem hk, ← Zbm hk]
  have hlen : (l.take k).length ≤ 1048576 := by simp; omega
  have hlen2 := ZuN (l.take k) n
  rw [ht, List.any_append, ZnL]
  simp only [ZiG, List.any_cons, List.any_nil, Bool.or_false]
  cases h : (l.take k).any fun y => decide (n ≤ y)
  ·simp only [cond_false, Bool.not_false, Bool.true_and, Bool.false_or]
   cases decide (n ≤ gx l k)
   ·simp only [cond_false, Option.bind_some]
    rw [Za (by omega)]
   ·simp only [cond_true]
    rw [Za (by omega)]
    simp only [Option.bind_some]
    rw [Za (by simp; omega)]
    simp
  ·simp only [cond_true, Bool.not_true, Bool.false_and, cond_false, Bool.true_or, Option.bind_some]
   rw [Za (by omega)])]
 simp only [Option.bind_some, List.take_length]
 cases h : l.any fun y => decide (n ≤ y)
 ·simp only [cond_false, Bool.not_false, cond_true]
  rw [Za (by omega), Zqs l n h]
  rfl
 ·rfl

theorem ZpZ {l : List Int} (hl : l.length ≤ 1000) : ∃ s, Zho l = some s ∧ s.Perm l ∧ s.Pairwise (· ≤ ·) := by
 have key : ∀ k, k ≤ l.length → ((l.take k).foldl putM []).Perm (l.take k) ∧ ((l.take k).foldl putM []).Pairwise (· ≤ ·) := by
  intro k
  induction k with
  | zero => intro _; exact ⟨by simp, by simp⟩
  | succ k ih =>
   intro hk
   obtain ⟨i1, i2⟩ := ih (by omega)
   rw [List.take_succ_eq_append_getElem (by omega), List.foldl_append]
   simp only [List.foldl_cons, List.foldl_nil]
   refine ⟨(Zkj _ _).trans ?_, ZnS i2 _⟩
   exact (i1.cons _).trans (List.perm_append_singleton _ _).symm
 refine ⟨l.foldl putM [], ?_, by simpa using (key l.length (by omega)).1, by simpa using (key l.length (by omega)).2⟩
 unfold Zho
 rw [Za (by omega), ZaL (f := Zhc l) (s0 := []) (fun k => (l.take k).foldl putM []) rfl (fun k hk => by
  have hp := (key k (by omega)).1.length_eq
  have hle : ((l.take k).foldl putM []).length ≤ 1048576 := by rw [hp]; simp; omega
  simp only [Zhc, Zsy hle, Option.bind_some]
  rw [List.take_succ_eq_append_getElem hk, List.foldl_append, ← Zbm hk]
  rfl)]
 simp

theorem Zmt {l : List Int} (hl : l.length ≤ 1000) {a b : Int} (h : l.Pairwise (· < ·)) (hr : ∀ x ∈ l, a ≤ x ∧ x ≤ b) : ZfF l a b = some true := by
 unfold ZfF
 rw [Zi0 (by omega), Za (by omega), ZuJ (f := Zfq l) (fun k hk => by
  unfold Zfq
  rcases Nat.eq_zero_or_pos k with h0 | h0
  ·subst h0; rfl
  ·have e : wr ((k : Int) - 1) = ((k - 1 : Nat) : Int) := by rw [ZO (by omega) (by omega)]; omega
   have hd : decide ((k : Int) > 0) = true := by simp; omega
   rw [List.pairwise_iff_getElem] at h
   have hlt := h (k - 1) k (by omega) hk (by omega)
   rw [← Zbm, ← Zbm] at hlt
   simp only [hd, cond_true, e, Int.toNat_natCast]
   rw [Za ⟨by omega, by omega⟩]
   have : decide (gx l k ≤ gx l (k - 1)) = false := by simp; omega
   simp only [this, Option.bind_some, cond_false])]
 have : (l.all fun x => inR x a b) = true := by
  rw [List.all_eq_true]
  exact fun x hx => ZS.2 (hr x hx)
 simp only [ZdR, this, Option.bind_some]

theorem ZlG {l : List Int} (hl : l.length = 6) (hn : l.Nodup) (hr : ∀ x ∈ l, 0 ≤ x ∧ x ≤ 5) : Zed l = some true := by
 obtain ⟨s, h1, h2, h3⟩ := ZpZ (l := l) (by omega)
 have hs : s.Pairwise (· < ·) := by
  have hnd : s.Nodup := (h2.nodup_iff).2 hn
  unfold List.Nodup at hnd
  exact (h3.and hnd).imp fun ⟨a, b⟩ => by omega
 unfold Zed
 rw [h1, show ((l.length : Int) == 6) = true by rw [hl]; rfl]
 simp only [cond_true, Option.bind_some, Zmt (l := s) (by rw [h2.length_eq]; omega) hs (fun x hx => hr x (h2.mem_iff.1 hx))]

theorem Zv2 {l : List Int} (hl : l.length = 6) (hn : l.Nodup) (hr : ∀ x, x ∈ l ↔ 0 ≤ x ∧ x ≤ 5) : ZfA l = some ((List.range 6).map fun a : Nat => idxM l (a : Int)) := by
 unfold ZfA
 rw [ZlG hl hn (fun x hx => (hr x).1 hx)]
 simp only [Option.bind_some, Bool.not_true, cond_false]
 have h0 : List.replicate 6 (0 : Int) = (List.range 6).map fun a : Nat => bif decide (idxM l (a : Int) < ((0 : Nat) : Int)) then idxM l (a : Int) else 0 := by
  have : ∀ a : Nat, a < 6 → (bif decide (idxM l (a : Int) < ((0 : Nat) : Int)) then idxM l (a : Int) else 0) = 0 := fun a ha => by
   have : ¬ idxM l (a : Int) < 0 := by rw [Zr8]; exact fun h => h ((hr _).2 ⟨by omega, by omega⟩)
   simp [this]
  have e : ((List.range 6).map fun a : Nat => bif decide (idxM l (a : Int) < ((0 : Nat) : Int)) then idxM l (a : Int) else 0) = (List.range 6).map fun _ => (0 : Int) := List.map_congr_left fun a ha => this a (by simpa using ha)
  rw [e]; rfl
 rw [Za (by omega), ZaL (f := Zfz l) (fun k => (List.range 6).map fun a : Nat => bif decide (idxM l (a : Int) < (k : Int)) then idxM l (a : Int) else 0) h0 (fun k hk => by
  obtain ⟨b1, b2⟩ := (hr _).1 (ZX hk)
  unfold Zfz
  rw [Za ⟨b1, by simp; omega⟩]
  congr 2
  apply ZjM
  ·simp
  ·intro j hj
   have hj' : j < 6 := by simpa using hj
   rw [ZdI _ hj']
   by_cases e : j = (gx l k).toNat
   ·have ej : (j : Int) = gx l k := by omega
    subst e
    rw [Zj2 (by simp; omega), ej, ZpN hn hk]
    have : decide ((k : Int) < ((k + 1 : Nat) : Int)) = true := by simp; omega
    simp only [this, cond_true]
   ·rw [ZgA e, ZdI _ hj']
    rcases Zfg l (j : Int) with ⟨g1, _⟩ | ⟨i, g1, g2, g3⟩
    ·exact absurd ((hr _).2 ⟨by omega, by omega⟩) g1
    ·have hne : i ≠ k := fun h => e (by rw [← h, g3]; simp)
     have : decide (idxM l (j : Int) < (k : Int)) = decide (idxM l (j : Int) < ((k + 1 : Nat) : Int)) := by
      rw [g2, Bool.eq_iff_iff]; simp; omega
     rw [this])]
 simp only [Option.bind_some, hl]
 congr 1
 apply List.map_congr_left
 intro a ha
 rcases Zfg l (a : Int) with ⟨g1, _⟩ | ⟨i, g1, g2, g3⟩
 ·exact absurd ((hr _).2 ⟨by omega, by simp at ha; omega⟩) g1
 ·have : decide (idxM l (a : Int) < ((6 : Nat) : Int)) = true := by rw [g2]; simp; omega
  rw [this, cond_true]

theorem ZuW (acc : List Int) (a : Int) : (addU acc a).length ≤ acc.length + 1 := by
 unfold addU
 cases acc.contains a <;> simp
theorem Zcp : ∀ (l acc : List Int), (l.foldl addU acc).length ≤ acc.length + l.length
 | [], acc => by simp
 | a :: l, acc => by
  have := Zcp l (addU acc a)
  have := ZuW acc a
  simp only [List.foldl_cons, List.length_cons]; omega
def useL (l : List GCell) : List Int := l.flatMap fun c => [c.A, c.B]
theorem ZlH : ∀ l : List GCell, (useL l).length = 2 * l.length
 | [] => rfl
 | c :: l => by
  have := ZlH l
  simp only [useL, List.flatMap_cons, List.length_append, List.length_cons, List.length_nil] at this ⊢; omega
theorem Zuq {l : List GCell} {k : Nat} (hk : k < l.length) : useL (l.take (k + 1)) = useL (l.take k) ++ [(gx l k).A, (gx l k).B] := by
 rw [List.take_succ_eq_append_getElem hk, ← Zbm hk]
 simp [useL]
theorem Zie {α : Type} [Rep α] (a : α) (l : List α) (k : Nat) : gx (a :: l) (k + 1) = gx l k := by simp [gx, List.getD]
theorem Zmk {α : Type} [Rep α] (a : α) (l : List α) : gx (a :: l) 0 = a := by simp [gx, List.getD]
theorem ZsH : ∀ (l : List GCell) (k : Nat), k < 2 * l.length → gx (useL l) k = bif k % 2 == 1 then (gx l (k / 2)).B else (gx l (k / 2)).A
 | [], k, h => by simp at h
 | c :: l, 0, h => by simp [useL, Zmk]
 | c :: l, 1, h => by simp [useL, Zmk, Zie]
 | c :: l, k + 2, h => by
  have := ZsH l k (by simp at h; omega)
  have e : useL (c :: l) = c.A :: c.B :: useL l := rfl
  rw [e, Zie, Zie, this, show (k + 2) / 2 = k / 2 + 1 by omega, show (k + 2) % 2 = k % 2 by omega, Zie]
theorem Zxs (k : Nat) : ((k : Int)).tdiv 2 = ((k / 2 : Nat) : Int) := rfl
theorem ZxH (k : Nat) : (((k : Int)).tmod 2 == 1) = (k % 2 == 1) := by
 have : ((k : Int)).tmod 2 = ((k % 2 : Nat) : Int) := rfl
 rw [this, Bool.eq_iff_iff]; simp; omega
theorem Zqu : (List.range 6).map (fun i : Nat => (i : Int)) = six := rfl

theorem ZoD (b : GBlock) : ZfP b = some (Zec b) := by
 unfold ZfP Zec
 simp only [ZV, Option.bind_some]
 cases h : Ze b
 ·rfl
 obtain ⟨n, hn, h1, h2, hl, hc⟩ := Zs h
 have hnn : n * n ≤ 4 * 4 := Nat.mul_le_mul h2 h2
 obtain ⟨g1, g2, g3⟩ := ZvH h
 have step : ∀ (s : List Int) (x : Int), s.length ≤ 1000 → ((ZdP s x).bind fun v => (bif decide (v < 0) then gd (s.length + 1 ≤ 1099511627776) (some (s ++ [x])) else some s).bind fun j => some (Res.next (R := Empty) j)) = some (Res.next (addU s x)) := fun s x hs => by
  rw [Zo5 (by omega)]
  simp only [Option.bind_some, Zl1, addU]
  cases s.contains x
  ·simp only [Bool.not_false, cond_true, cond_false]
   rw [Za (by omega)]; rfl
  ·rfl
 simp only [Bool.not_true, cond_false, cond_true]
 rw [Za (by omega), ZaL (f := Zfb b) (s0 := []) (fun k => (useL (b.Cells.take k)).foldl addU []) rfl (fun k hk => by
  have hlen := Zcp (useL (b.Cells.take k)) []
  have hul := ZlH (b.Cells.take k)
  have hle : ((useL (b.Cells.take k)).foldl addU []).length ≤ 32 := by simp at hlen hul; omega
  unfold Zfb
  rw [Za (by simp), ZaL (f := Zfs b k) (s0 := (useL (b.Cells.take k)).foldl addU []) (fun i => ([(gx b.Cells k).A, (gx b.Cells k).B].take i).foldl addU ((useL (b.Cells.take k)).foldl addU [])) rfl (fun i hi => by
   have hi2 : i < 2 := by simpa using hi
   have hlen2 := Zcp ([(gx b.Cells k).A, (gx b.Cells k).B].take i) ((useL (b.Cells.take k)).foldl addU [])
   unfold Zfs
   rw [step _ _ (by simp at hlen2; omega), List.take_succ_eq_append_getElem hi, List.foldl_append, ← Zbm hi]
   rfl)]
  rw [Zuq hk, List.foldl_append]
  rfl)]
 simp only [Option.bind_some, List.take_length]
 have hlen := Zcp (useL b.Cells) []
 have hul := ZlH b.Cells
 have hle : ((useL b.Cells).foldl addU []).length ≤ 32 := by simp at hlen; omega
 rw [ZaL (f := Zfi) (s0 := (useL b.Cells).foldl addU []) (fun k => ((List.range k).map fun i : Nat => (i : Int)).foldl addU ((useL b.Cells).foldl addU [])) rfl (fun k hk => by
  have hlen2 := Zcp ((List.range k).map fun i : Nat => (i : Int)) ((useL b.Cells).foldl addU [])
  unfold Zfi
  rw [step _ _ (by simp at hlen2; omega), List.range_succ, List.map_append, List.foldl_append]
  rfl)]
 have e : ((List.range 6).map fun i : Nat => (i : Int)).foldl addU ((useL b.Cells).foldl addU []) = ord6 b := by
  rw [Zqu, ← List.foldl_append]; rfl
 simp only [Option.bind_some, e, Zv2 g3 g1 g2]

def tabU (acc : List Int) : List Int := (List.range 6).map fun a : Nat => idxM acc (a : Int)
theorem Zrr {acc : List Int} (hn : acc.Nodup) {a : Int} (h0 : 0 ≤ a) (h1 : a ≤ 5) : (bif decide (gx (tabU acc) a.toNat < 0) then (tabU acc).set a.toNat (acc.length : Int) else tabU acc) = tabU (addU acc a) ∧ (bif decide (gx (tabU acc) a.toNat < 0) then ((acc.length : Int) + 1) else (acc.length : Int)) = ((addU acc a).length : Int) := by
 have ea : ((a.toNat : Nat) : Int) = a := by omega
 have hg : gx (tabU acc) a.toNat = idxM acc a := by
  unfold tabU
  rw [ZdI _ (by omega), ea]
 have hnd := ZpE hn a
 rw [hg, Zl1]
 unfold addU at hnd ⊢
 cases hc : acc.contains a
 ·rw [hc] at hnd
  simp only [cond_false] at hnd
  simp only [Bool.not_false, cond_true, cond_false]
  refine ⟨?_, by simp⟩
  apply ZjM
  ·simp [tabU]
  ·intro j hj
   have hj' : j < 6 := by simpa [tabU] using hj
   have e2 : gx (tabU (acc ++ [a])) j = idxM (acc ++ [a]) (j : Int) := ZdI _ hj'
   rw [e2]
   by_cases e : j = a.toNat
   ·subst e
    rw [Zj2 (by simp [tabU]; omega), ea, Zuy hnd]
   ·rw [ZgA e]
    have e3 : gx (tabU acc) j = idxM acc (j : Int) := ZdI _ hj'
    rw [e3]
    by_cases hm : (j : Int) ∈ acc
    ·rw [Zsw _ hnd hm]
    ·have hm2 : ¬ (j : Int) ∈ acc ++ [a] := by
      simp only [List.mem_append, List.mem_singleton, not_or]
      exact ⟨hm, by omega⟩
     rcases Zfg acc (j : Int) with ⟨_, q⟩ | ⟨k, q1, _, q3⟩
     ·rcases Zfg (acc ++ [a]) (j : Int) with ⟨_, q'⟩ | ⟨k, q1, _, q3⟩
      ·rw [q, q']
      ·exact absurd (q3 ▸ ZX q1) hm2
     ·exact absurd (q3 ▸ ZX q1) hm
 ·simp

theorem Zoi (b : GBlock) : ZfH b = some (Zec b) := by
 unfold ZfH Zec
 simp only [Z5, Option.bind_some]
 cases h : Ze b
 ·rfl
 obtain ⟨n, hn, h1, h2, hl, hc⟩ := Zs h
 have hnn : n * n ≤ 4 * 4 := Nat.mul_le_mul h2 h2
 have hul := ZlH b.Cells
 have hN : (wr (2 * (b.Cells.length : Int))).toNat = (useL b.Cells).length := by
  rw [ZO (by omega) (by omega)]; omega
 have h0 : lpO ZhJ 6 [] = some (tabU []) := by rfl
 have hin : ∀ x ∈ useL b.Cells, 0 ≤ x ∧ x ≤ 5 := fun x hx => by
  obtain ⟨c, hm, h⟩ := ZpF.1 (show x ∈ ZmA b from hx)
  obtain ⟨c1, c2, c3, c4, c5, c6, _⟩ := ZaW (hc c hm)
  rcases h with rfl | rfl <;> omega
 have hs : ((tabU [], 0) : List Int × Int) = (tabU ((useL b.Cells).take 0 |>.foldl addU []), ((((useL b.Cells).take 0).foldl addU []).length : Int)) := rfl
 simp only [Bool.not_true, cond_false, cond_true, h0, Option.bind_some, hN]
 rw [Za (by omega), ZaL (f := Zfr b) (fun k => (tabU (((useL b.Cells).take k).foldl addU []), ((((useL b.Cells).take k).foldl addU []).length : Int))) hs (fun k hk => by
  have hnd := (ZiW ((useL b.Cells).take k) [] (by simp)).1
  have hlen := Zcp ((useL b.Cells).take k) []
  have hx := ZsH b.Cells k (by omega)
  obtain ⟨x0, x1⟩ := hin _ (ZX hk)
  obtain ⟨t1, t2⟩ := Zrr hnd x0 x1
  have e2 : wr (((k / 2 : Nat) : Int)) = ((k / 2 : Nat) : Int) := ZO (by omega) (by omega)
  have e3 : wr (((((useL b.Cells).take k).foldl addU []).length : Int) + 1) = ((((useL b.Cells).take k).foldl addU []).length : Int) + 1 := ZO (by omega) (by simp at hlen; omega)
  simp only [Zfr, Zxs, ZxH, e2, e3, Int.toNat_natCast, ← hx]
  rw [Za ⟨by omega, by omega⟩, Za ⟨x0, by simp [tabU]; omega⟩, t1, t2, List.take_succ_eq_append_getElem hk, List.foldl_append, ← Zbm hk]
  rfl)]
 simp only [Option.bind_some, List.take_length]
 have hnd0 := (ZiW (useL b.Cells) [] (by simp)).1
 have hlen0 := Zcp (useL b.Cells) []
 rw [ZaL (f := Zfv) (s0 := (tabU ((useL b.Cells).foldl addU []), ((((useL b.Cells).foldl addU []).length : Nat) : Int))) (fun k => (tabU (((List.range k).map fun i : Nat => (i : Int)).foldl addU ((useL b.Cells).foldl addU [])), ((((List.range k).map fun i : Nat => (i : Int)).foldl addU ((useL b.Cells).foldl addU [])).length : Int))) rfl (fun k hk => by
  have hnd := (ZiW ((List.range k).map fun i : Nat => (i : Int)) _ hnd0).1
  have hlen := Zcp ((List.range k).map fun i : Nat => (i : Int)) ((useL b.Cells).foldl addU [])
  obtain ⟨t1, t2⟩ := Zrr hnd (a := (k : Int)) (by omega) (by omega)
  simp only [Int.toNat_natCast] at t1 t2
  have e3 : wr (((((List.range k).map fun i : Nat => (i : Int)).foldl addU ((useL b.Cells).foldl addU [])).length : Int) + 1) = ((((List.range k).map fun i : Nat => (i : Int)).foldl addU ((useL b.Cells).foldl addU [])).length : Int) + 1 := ZO (by omega) (by simp at hlen hlen0; omega)
  simp only [Zfv, e3]
  rw [Za (by simp [tabU]; omega), t1, t2, List.range_succ, List.map_append, List.foldl_append]
  rfl)]
 have e : ((List.range 6).map fun i : Nat => (i : Int)).foldl addU ((useL b.Cells).foldl addU []) = ord6 b := by
  rw [Zqu, ← List.foldl_append]; rfl
 simp only [Option.bind_some, e]
 rfl

theorem ZqT {b : GBlock} (h : Ze b = true) : Zih b = some (ZbL b) := by
 unfold Zih ZbL
 have hs := (Zdq h).1
 have hf := ZmF h
 simp only [ZoD, Option.bind_some, ZhQ hs (l := Zec b) (by omega)]

theorem ZjF {b : GBlock} (h : Ze b = true) : Zd6 b = some (ZbL b) := by
 unfold Zd6 ZbL
 have hs := (Zdq h).1
 have hf := ZmF h
 simp only [Zoi, Option.bind_some, ZkT hs (l := Zec b) (by omega)]

def Zk2 (b : GBlock) : List GBlock := (List.range 8).map fun k : Nat => Z3 b (k : Int)
theorem Zqv (b : GBlock) : (Zk2 b).length = 8 := by simp [Zk2]
theorem Zrp (b : GBlock) {k : Nat} (hk : k < 8) : gx (Zk2 b) k = Z3 b (k : Int) := ZdI _ hk
theorem Zjz {b : GBlock} (h : Ze b = true) {k : Nat} (hk : k < 8) : Ze (Z3 b (k : Int)) = true ∧ (Z3 b (k : Int)).Size = b.Size := Zql h (ZS.2 ⟨by omega, by omega⟩)

theorem Zl0 (b : GBlock) : ZgT b = some (Zk2 b) := by
 unfold ZgT
 rw [ZbH (f := Zht b) (xs := []) (fun k : Nat => Z3 b (k : Int)) (fun k s hk hs => by
  simp only [Zht, ZoF, Option.bind_some]
  rw [Za (by simp at hs; omega)])]
 rfl

def ZfI (e : GEntry) : Bool := inR e.Owner 0 99 && inR e.Day 0 9999 && Ze e.Block

theorem Zoo (e : GEntry) : Zcf e = some (ZfI e) := by
 unfold Zcf ZfI
 simp only [Zbn, Z5, Option.bind_some]
 cases inR e.Owner 0 99 <;> cases inR e.Day 0 9999 <;> cases Ze e.Block <;> rfl

theorem Zn5 (e : GEntry) : Zce e = some (ZfI e) := by
 unfold Zce ZfI
 simp only [ZaT, ZV, Option.bind_some]
 cases inR e.Owner 0 99 <;> cases inR e.Day 0 9999 <;> cases Ze e.Block <;> rfl

def tab6 (f : Nat → Int) : List Int := (List.range 6).map f
theorem ZdG (f : Nat → Int) : (tab6 f).length = 6 := by simp [tab6]
theorem ZeW (f : Nat → Int) {a : Nat} (ha : a < 6) : gx (tab6 f) a = f a := ZdI f ha
theorem Zjo {f g : Nat → Int} (h : ∀ a, a < 6 → f a = g a) : tab6 f = tab6 g := List.map_congr_left fun a ha => h a (by simpa using ha)
theorem Zoh (f : Nat → Int) (a : Nat) (v : Int) : (tab6 f).set a v = tab6 fun i => bif i == a then v else f i := by
 apply ZjM
 ·simp [tab6]
 ·intro k hk
  have hk' : k < 6 := by simpa [tab6] using hk
  rw [ZeW _ hk']
  by_cases e : k = a
  ·subst e
   rw [Zj2 (by rw [ZdG]; exact hk')]; simp
  ·rw [ZgA e, ZeW _ hk', beq_eq_false_iff_ne.2 e, cond_false]
theorem Zhw {x : Int} (h : 0 ≤ x) (a : Nat) : (a == x.toNat) = (x == (a : Int)) := by
 rw [Bool.eq_iff_iff]; simp; omega
theorem ZlA {S C : Type} {f : Nat → S → Option (Res S C)} {N : Nat} (p : Nat → Bool) (st : Nat → S) {s0 : S} (h0 : s0 = st 0) {c : C} (h : ∀ k, k < N → (∀ j, j < k → p j = true) → f k (st k) = some (bif p k then .next (st (k + 1)) else .ret c)) : forO f N 0 s0 = some (bif (List.range N).all p then .inl (st N) else .inr c) := by
 have hmin : ∀ n, (∀ j, j < n → p j = true) ∨ ∃ k, k < n ∧ p k = false ∧ ∀ j, j < k → p j = true := by
  intro n
  induction n with
  | zero => left; intro j hj; omega
  | succ n ih =>
   rcases ih with ih | ⟨k, h1, h2, h3⟩
   ·cases hp : p n with
    | true =>
     left; intro j hj; rcases Nat.lt_or_ge j n with hlt | hge
     ·exact ih j hlt
     ·rw [show j = n by omega]; exact hp
    | false => right; exact ⟨n, by omega, hp, ih⟩
   ·right; exact ⟨k, by omega, h2, h3⟩
 rcases hmin N with hall | ⟨K, hK, hp, hlt⟩
 ·have : (List.range N).all p = true := by
   rw [List.all_eq_true]; intro k hk; exact hall k (by simpa using hk)
  rw [this]
  exact ZjC st h0 fun k hk => by rw [h k hk (fun j hj => hall j (by omega)), hall k hk]; rfl
 ·have : (List.range N).all p = false := by
   rw [List.all_eq_false]; exact ⟨K, by simpa using hK, by simp [hp]⟩
  rw [this]
  exact Zlf st h0 K hK (fun k hk => by rw [h k (by omega) (fun j hj => hlt j (by omega)), hlt k hk]; rfl) (by rw [h K hK hlt, hp]; rfl)

def Zk7 (b : GBlock) : List Int := bif Ze b then tab6 fun a => Zaf b a else []

theorem Zjc (b : GBlock) : ZdD b = some (Zk7 b) := by
 unfold ZdD Zk7
 simp only [ZV, Option.bind_some]
 cases Ze b
 ·rfl
 simp only [Bool.not_true, cond_false, cond_true]
 rw [ZbH (f := Zew b) (xs := []) (fun a : Nat => Zaf b a) (fun k s hk hs => by
  simp only [Zew, ZkV, Option.bind_some]
  rw [Za (by simp at hs; omega)])]
 rfl

theorem Zjd (b : GBlock) : ZeL b = some (Zk7 b) := by
 unfold ZeL Zk7
 cases h : Ze b
 ·have : lpO (Zcj b) 6 [] = some [] := by
   unfold lpO
   rw [ZlE (f := Zcj b) (fun _ => []) rfl 0 (by omega) (fun k hk => by omega) (s' := []) (by simp [Zcj, h])]
   rfl
  rw [this]; rfl
 ·rw [ZbH (f := Zcj b) (xs := []) (fun a : Nat => Zaf b a) (fun k s hk hs => by
   simp only [Zcj, Z5, h, cond_true, ZpW, Option.bind_some]
   rw [Za (by simp at hs; omega)])]
  rfl

def ZkP (st need : List Int) : Bool := (List.range 6).all fun a => !decide (gx need a > gx st a)
theorem Zkb {f : Nat → Int} (h : ∀ a, a < 6 → 0 ≤ f a ∧ f a ≤ 1000000) : Zac (tab6 f) = true := by
 simp only [Zac, ZdG, Bool.and_eq_true, List.all_eq_true, beq_self_eq_true, and_true]
 constructor
 ·intro x hx
  simp only [tab6, List.mem_map, List.mem_range] at hx
  obtain ⟨a, ha, rfl⟩ := hx
  exact ZS.2 (h a ha)
 ·rfl
theorem Ze7 {xs : List Int} (h : Zac xs = true) : xs.length = 6 ∧ ∀ a, a < 6 → 0 ≤ gx xs a ∧ gx xs a ≤ 1000000 := by
 have hl := Zhk h
 refine ⟨hl, fun a ha => ?_⟩
 simp only [Zac, Bool.and_eq_true, List.all_eq_true] at h
 exact ZS.1 (h.1 _ (ZX (by omega)))

theorem ZnG {st need : List Int} (h1 : Zac st = true) (h2 : Zac need = true) : Ziq st need = some (ZkP st need) := by
 have l1 := Zhk h1
 have l2 := Zhk h2
 unfold Ziq ZkP
 rw [Zeg st (by omega), Zeg need (by omega), h1, h2]
 simp only [Option.bind_some, Bool.not_true, cond_false]
 rw [Zbg (f := Zhi st need) (c := false) (fun a => !decide (gx need a > gx st a)) (fun k hk => by
  unfold Zhi
  rw [Za (by omega), Za (by omega)]
  cases decide (gx need k > gx st k) <;> rfl)]
 cases (List.range 6).all fun a => !decide (gx need a > gx st a) <;> rfl

theorem Znw {st : List Int} (h : Zac st = true) {a : Nat} (ha : a < 6) (n : Int) : ZeM st (a : Int) n = some (bif inR n 0 (gx st a) then (st.set a (wr (gx st a - n)), true) else (st, false)) := by
 have l := Zhk h
 have ic : inR (a : Int) 0 5 = true := ZS.2 ⟨by omega, by omega⟩
 unfold ZeM
 rw [ZkR (by omega), Zgh st (by omega), h]
 simp only [Option.bind_some, Bool.not_true, cond_false, Zlp, ic, ZaT, Int.toNat_natCast]
 rw [Za ⟨by omega, by omega⟩]
 cases inR n 0 (gx st a)
 ·rfl
 ·simp only [Option.bind_some, Bool.not_true, cond_false]
  rw [Za ⟨by omega, by omega⟩]
  rfl

theorem Zeo {g : GGuild} (h : Zn g = true) : ZE g.Members = true ∧ Zac g.Stock = true ∧ Zax g.Books = true ∧ g.Entries.length ≤ 10 ∧ ∀ k, k < g.Entries.length → Ze (gx g.Entries k).Block = true := by
 simp only [Zn, Bool.and_eq_true, List.all_eq_true, List.mem_range] at h
 obtain ⟨⟨⟨⟨⟨⟨h1, h2⟩, h3⟩, h4⟩, h5⟩, h6⟩, h7⟩ := h
 refine ⟨h1, h2, h3, ?_, fun k hk => ?_⟩
 ·simp at h4; omega
 ·have := h6 k hk
  simp only [entP, Zc5, Bool.and_eq_true] at this
  exact this.1.1.2

def Zq7 (g : GGuild) (k : Int) (w : GGuild × Bool) : Prop := ∃ s : List Int, 0 ≤ k ∧ k < g.Entries.length ∧ Ze (gx g.Entries k.toNat).Block = true ∧ w = ((⟨g.Members, s, g.Entries, g.Books, g.Round, g.Year⟩ : GGuild), true) ∧ s = (tab6 fun a => gx g.Stock a - Zaf (gx g.Entries k.toNat).Block a) ∧ Zac s = true
theorem Zsu (g : GGuild) (k : Int) (h : Sm.ok g) : ∃ w, Zhu g k = some w ∧ Zd9 g k = some w ∧ Sm.ok w.1 ∧ (w = (g, false) ∨ Zq7 g k w) ∧ (Zn g = true → w.2 = false → 0 ≤ k → k < g.Entries.length → ZkP g.Stock (tab6 fun a => Zaf (gx g.Entries k.toNat).Block a) = false) := by
 unfold Zhu Zd9
 simp only [ZcW h, Zau h, Zaq g (Zei h), ZbG g (Zei h), Zbn, ZaT, Option.bind_some]
 cases hg : Zn g
 ·exact ⟨(g, false), rfl, rfl, h, .inl rfl, fun hh => by cases hh⟩
 obtain ⟨_, hst, _, hel, hbo⟩ := Zeo hg
 have ew : wr ((g.Entries.length : Int) - 1) = (g.Entries.length : Int) - 1 := ZO (by omega) (by omega)
 simp only [ew, Bool.not_true, cond_false]
 cases hk : inR k 0 ((g.Entries.length : Int) - 1)
 ·exact ⟨(g, false), rfl, rfl, h, .inl rfl, fun _ _ h0 h1 => absurd (⟨h0, by omega⟩ : 0 ≤ k ∧ k ≤ (g.Entries.length : Int) - 1) (Zp7.1 hk)⟩
 rw [ZS] at hk
 have hkl : k.toNat < g.Entries.length := by omega
 have hb := hbo _ hkl
 simp only [Bool.not_true, cond_false, Zjd, Zjc, Option.bind_some, Zk7, hb, cond_true]
 generalize hF : (gx g.Entries k.toNat).Block = b at hb
 have hab : ∀ a : Nat, 0 ≤ Zaf b a ∧ Zaf b a ≤ 64 := fun a => Zlr b a
 have hts : Zac (tab6 fun a => Zaf b a) = true := Zkb fun a _ => by have := hab a; omega
 obtain ⟨sl, sb⟩ := Ze7 hst
 rw [Za ⟨by omega, by omega⟩, ZnG hst hts, Za ⟨by omega, by omega⟩, Za ⟨by omega, by omega⟩]
 simp only [ZdG, Option.bind_some]
 rw [Za (by omega)]
 have hst0 : g.Stock = tab6 fun a => gx g.Stock a - (bif decide (a < 0) then Zaf b a else 0) := by
  apply ZjM
  ·rw [ZdG]; exact sl
  ·intro a ha
   rw [ZeW _ (by omega)]; simp
 have hp : ZkP g.Stock (tab6 fun a => Zaf b a) = (List.range 6).all fun a => !decide (Zaf b (a : Int) > gx g.Stock a) := by
  unfold ZkP
  rw [Bool.eq_iff_iff]
  simp only [List.all_eq_true, List.mem_range]
  constructor
  ·intro H a ha
   have := H a ha
   rwa [ZeW _ ha] at this
  ·intro H a ha
   rw [ZeW _ ha]
   exact H a ha
 rw [ZlA (f := Zfd g (tab6 fun a => Zaf b a)) (c := (g, false)) (fun a => !decide (Zaf b (a : Int) > gx g.Stock a)) (fun k => tab6 fun a => gx g.Stock a - (bif decide (a < k) then Zaf b a else 0)) hst0 (fun k hk hpr => by
  have hok : Zac (tab6 fun a => gx g.Stock a - (bif decide (a < k) then Zaf b a else 0)) = true := Zkb fun a ha => by
   have h1 := sb a ha
   have h2 := hab a
   cases hd : decide (a < k)
   ·simp only [cond_false]; omega
   ·have := hpr a (by simpa using hd)
    simp at this
    simp only [cond_true]; omega
  have h1 := sb k hk
  have h2 := hab k
  simp only [Zfd, ZeW _ hk, Znw hok hk, Option.bind_some, Nat.lt_irrefl, decide_false, cond_false, Int.sub_zero]
  cases hd : decide (Zaf b (k : Int) > gx g.Stock k)
  ·have hin : inR (Zaf b (k : Int)) 0 (gx g.Stock k) = true := ZS.2 ⟨h2.1, by simpa using hd⟩
   simp only [hin, cond_true, Bool.not_true, cond_false, Bool.not_false]
   congr 2
   rw [Zoh, ZO (by omega) (by omega)]
   refine Zjo fun a ha => ?_
   cases he : a == k
   ·have hne : a ≠ k := by simpa using he
    have : decide (a < k) = decide (a < k + 1) := by simp; omega
    simp only [cond_false, this]
   ·have e : a = k := by simpa using he
    subst e
    simp
  ·have hin : inR (Zaf b (k : Int)) 0 (gx g.Stock k) = false := Zp7.2 (by simp at hd; omega)
   simp only [hin, cond_false, Bool.not_false, cond_true, Bool.not_true, Zau h, Option.bind_some])]
 rw [hp]
 cases hall : (List.range 6).all fun a => !decide (Zaf b (a : Int) > gx g.Stock a)
 ·exact ⟨(g, false), rfl, rfl, h, .inl rfl, fun _ _ _ _ => rfl⟩
 ·simp only [Bool.not_true, cond_false, cond_true, ZdR]
  have hl : lpO (Zhz g (tab6 fun a => Zaf b a)) 6 g.Stock = some (tab6 fun a => gx g.Stock a - (bif decide (a < 6) then Zaf b a else 0)) := ZaL (fun k => tab6 fun a => gx g.Stock a - (bif decide (a < k) then Zaf b a else 0)) hst0 fun k hk => by
   have h1 := sb k hk
   have h2 := hab k
   unfold Zhz
   rw [Za (by omega), Za (by rw [ZdG]; exact hk), Za (by rw [ZdG]; exact hk), ZeW _ hk, ZO (by omega) (by omega), Zoh]
   congr 2
   refine Zjo fun a ha => ?_
   cases he : a == k
   ·have hne : a ≠ k := by simpa using he
    have : decide (a < k) = decide (a < k + 1) := by simp; omega
    simp only [cond_false, this]
   ·have e : a = k := by simpa using he
    subst e
    simp
  rw [hl]
  obtain ⟨m1, m2, m3, m4⟩ := h
  have hall' : ∀ a : Nat, a < 6 → Zaf b (a : Int) ≤ gx g.Stock a := fun a ha => by
   rw [List.all_eq_true] at hall
   have := hall a (by simpa using ha)
   simpa using this
  refine ⟨_, rfl, rfl, ⟨m1, ZpV (by rw [ZdG]; omega), m3, m4⟩, .inr ⟨_, by omega, by omega, by rw [hF]; exact hb, rfl, ?_, Zkb fun a ha => ?_⟩, fun _ hh => by cases hh⟩
  ·rw [hF]
   refine Zjo fun a ha => ?_
   rw [show decide (a < 6) = true by simpa using ha, cond_true]
  ·have h1 := sb a ha
   have h2 := hab a
   have h3 := hall' a ha
   rw [show decide (a < 6) = true by simpa using ha, cond_true]
   omega
theorem Zsq (g : GGuild) (k : Int) (h : Sm.ok g) : ∃ w, Zhu g k = some w ∧ Zd9 g k = some w ∧ Sm.ok w.1 ∧ (w = (g, false) ∨ Zq7 g k w) :=
 have ⟨w, a, b, c, d, _⟩ := Zsu g k h
 ⟨w, a, b, c, d⟩

theorem Zud (xs : List GMember) (n : Int) (hl : xs.length ≤ 1048600) : ∃ j : Nat, j ≤ xs.length ∧ wlO (Za0 xs n) 18446744073709551616 0 = some (j : Int) := by
 have key : ∀ m k fuel, k + m = xs.length → m < fuel → ∃ j : Nat, j ≤ xs.length ∧ whO (Za0 xs n) fuel (k : Int) = some (.inl (j : Int)) := by
  intro m
  induction m with
  | zero =>
   intro k fuel hk hf
   obtain ⟨fuel, rfl⟩ : ∃ q, fuel = q + 1 := ⟨fuel - 1, by omega⟩
   refine ⟨k, by omega, ?_⟩
   have hd : decide ((k : Int) < (xs.length : Int)) = false := by simp; omega
   have hg : Za0 xs n (k : Int) = some (.brk (k : Int)) := by
    unfold Za0
    rw [hd]; rfl
   rw [whO, hg]; rfl
  | succ m ih =>
   intro k fuel hk hf
   obtain ⟨fuel, rfl⟩ : ∃ q, fuel = q + 1 := ⟨fuel - 1, by omega⟩
   have hd : decide ((k : Int) < (xs.length : Int)) = true := by simp; omega
   have e : wr ((k : Int) + 1) = ((k + 1 : Nat) : Int) := by rw [ZO (by omega) (by omega)]; simp
   have hg : Za0 xs n (k : Int) = some (bif decide ((gx xs k).Number < n) then .next ((k + 1 : Nat) : Int) else .brk (k : Int)) := by
    unfold Za0
    rw [hd, e]
    simp only [cond_true, Int.toNat_natCast]
    rw [Za ⟨by omega, by omega⟩]
    simp only [Option.bind_some]
    cases decide ((gx xs k).Number < n) <;> rfl
   rw [whO, hg]
   cases decide ((gx xs k).Number < n)
   ·exact ⟨k, by omega, rfl⟩
   ·exact ih (k + 1) fuel (by omega) (by omega)
 obtain ⟨j, h1, h2⟩ := key xs.length 0 18446744073709551616 (by omega) (by omega)
 refine ⟨j, h1, ?_⟩
 unfold wlO
 rw [show (0 : Int) = ((0 : Nat) : Int) from rfl, h2]; rfl
theorem Zuj {α : Type} [Rep α] (A B : List α) (x : α) {j : Nat} (hj : A.length = j) : gx ((A ++ [x]) ++ B) j = x := by
 subst hj
 simp [gx, List.getD]

theorem ZsO (xs : List GMember) (n y : Int) (hl : xs.length ≤ 1048576) : ∃ (r : List GMember × Bool) (j : Nat), wlO (Za0 xs n) 18446744073709551616 0 = some (j : Int) ∧ r.1.length ≤ xs.length + 1 ∧ Zbz xs n y = some r ∧ Zcz xs n y = some r ∧ (∀ m ∈ r.1, m ∈ xs ∨ m.Number = n) ∧ (ZE xs = true → inR y 1900 2999 = true → ZE (((([] : List GMember) ++ ((xs.drop 0).take (j - 0))) ++ [(GMember.mk n y (wr (y - 1)))]) ++ ((xs.drop j).take (xs.length - j))) = true → r = (((([] : List GMember) ++ ((xs.drop 0).take (j - 0))) ++ [(GMember.mk n y (wr (y - 1)))]) ++ ((xs.drop j).take (xs.length - j)), true)) := by
 obtain ⟨j, hj, hloop⟩ := Zud xs n (by omega)
 have hloop' : wlO (Zhg xs n) 18446744073709551616 0 = some (j : Int) := hloop
 have hA : (([] : List GMember) ++ ((xs.drop 0).take (j - 0))).length = j := by simp; omega
 have hB : ((xs.drop j).take (xs.length - j)).length = xs.length - j := by simp
 generalize hout : ((([] : List GMember) ++ ((xs.drop 0).take (j - 0))) ++ [(GMember.mk n y (wr (y - 1)))]) ++ ((xs.drop j).take (xs.length - j)) = out
 have hol : out.length = xs.length + 1 := by
  rw [← hout, List.length_append, List.length_append, hA, hB]; simp; omega
 have hmid : gx out j = GMember.mk n y (wr (y - 1)) := by rw [← hout]; exact Zuj _ _ _ hA
 have g1 : gd (0 ≤ (j : Int) ∧ 0 ≤ (j : Int).toNat ∧ (j : Int).toNat ≤ xs.length) = fun (t : Option (List GMember × Bool)) => t := by
  funext t; exact Za ⟨by omega, by omega, by omega⟩ t
 have hd0 : ((xs.drop 0).take (j - 0)).length = j := by simp; omega
 have fI : Zcz xs n y = ((bif !ZE xs then some true else some (!ZE out)).bind fun j2 => bif j2 then some (xs, false) else some (out, true)) := by
  unfold Zcz
  rw [hloop']
  simp only [Option.bind_some, Int.toNat_natCast]
  rw [Za ⟨by omega, by omega, by omega⟩, Za (by rw [hd0]; simp; omega), Za (by rw [hA]; omega), Za ⟨by omega, by omega, by omega⟩, Za (by rw [List.length_append, hA, hB]; simp; omega)]
  rw [hout, Zcg xs (by omega), Zcg out (by omega), Zf8 (by omega)]
  simp only [Option.bind_some]
 have fS : Zbz xs n y = ((bif !ZE xs then some true else some (!inR y 1900 2999)).bind fun j1 => bif j1 then some (xs, false) else (bif !ZE out then some (xs, false) else some (out, true))) := by
  unfold Zbz
  rw [hloop]
  simp only [Option.bind_some, Int.toNat_natCast]
  rw [Za (by simp; omega), ZbF xs (by omega)]
  simp only [Zbn, Option.bind_some, List.nil_append]
  have e : ∀ t : Option (List GMember × Bool), (gd (0 ≤ (j : Int) ∧ 0 ≤ j ∧ j ≤ xs.length) <| gd (([] : List GMember).length + ((xs.drop 0).take (j - 0)).length ≤ 1099511627776) <| gd ((((xs.drop 0).take (j - 0))).length + 1 ≤ 1099511627776) <| gd (0 ≤ (j : Int) ∧ j ≤ xs.length ∧ xs.length ≤ xs.length) <| gd (((((xs.drop 0).take (j - 0))) ++ [(GMember.mk n y (wr (y - 1)))]).length + ((xs.drop j).take (xs.length - j)).length ≤ 1099511627776) t) = t := fun t => by
   rw [Za ⟨by omega, by omega, by omega⟩, Za (by rw [hd0]; simp; omega), Za (by rw [hd0]; omega), Za ⟨by omega, by omega, by omega⟩, Za (by rw [List.length_append, hd0, hB]; simp; omega)]
  rw [e]
  have ho : (((xs.drop 0).take (j - 0)) ++ [(GMember.mk n y (wr (y - 1)))]) ++ ((xs.drop j).take (xs.length - j)) = out := by rw [← hout]; simp
  rw [ho, ZbF out (by omega)]
  simp only [Option.bind_some]
 have hmem : ∀ m ∈ out, m ∈ xs ∨ m.Number = n := fun m h => by
  rw [← hout] at h
  simp only [List.nil_append, List.mem_append, List.mem_singleton] at h
  rcases h with (h | rfl) | h
  ·exact .inl (List.mem_of_mem_drop (List.mem_of_mem_take h))
  ·exact .inr rfl
  ·exact .inl (List.mem_of_mem_drop (List.mem_of_mem_take h))
 rw [fI, fS]
 cases hm : ZE xs
 ·exact ⟨(xs, false), j, hloop, by simp, rfl, rfl, fun m h => .inl h, fun h => by cases h⟩
 cases ho : ZE out
 ·exact ⟨(xs, false), j, hloop, by simp, by cases inR y 1900 2999 <;> rfl, rfl, fun m h => .inl h, fun _ _ h => by rw [hout, ho] at h; cases h⟩
 ·have hy : inR y 1900 2999 = true := by
   simp only [ZE, Bool.and_eq_true, List.all_eq_true, List.mem_range] at ho
   have := ho.1 j (by omega)
   simp only [memP, hmid, Bool.and_eq_true] at this
   exact this.1.1.2
  rw [hy]
  exact ⟨(out, true), j, hloop, by simp only; omega, rfl, rfl, hmem, fun _ _ _ => by rw [hout]⟩
theorem ZtP (xs : List GMember) (n y : Int) (hl : xs.length ≤ 1048576) : ∃ r : List GMember × Bool, r.1.length ≤ xs.length + 1 ∧ Zbz xs n y = some r ∧ Zcz xs n y = some r :=
 have ⟨r, _, _, a, b, c, _⟩ := ZsO xs n y hl
 ⟨r, a, b, c⟩

theorem ZrM {α : Type} [Rep α] {s : List α} {k : Nat} {x : α} (hk : k < s.length) (h : gx s k = x) : s.set k x = s := by
 apply ZjM
 ·simp
 ·intro i hi
  by_cases e : i = k
  ·subst e; rw [Zj2 hk, h]
  ·rw [ZgA e]
theorem ZrF {α : Type} [Rep α] {f : Nat → List α × Bool → Option (Res (List α × Bool) Empty)} (xs : List α) (F : α → α) (p : α → Bool) (h : ∀ k s b, k < xs.length → s.length = xs.length → gx s k = gx xs k → f k (s, b) = some (.next (s.set k (F (gx xs k)), p (gx xs k) || b))) : lpO f xs.length (xs, false) = some (xs.map F, xs.any p) := by
 have hend : (xs.map F, xs.any p) = ((xs.take xs.length).map F ++ xs.drop xs.length, (xs.take xs.length).any p) := by simp
 rw [hend]
 refine ZaL (fun k => ((xs.take k).map F ++ xs.drop k, (xs.take k).any p)) (by simp) fun k hk => ?_
 have hg : gx ((xs.take k).map F ++ xs.drop k) k = gx xs k := by
  unfold gx List.getD
  rw [List.getElem?_append_right (by simp; omega)]
  simp [Nat.min_eq_left (Nat.le_of_lt hk)]
 rw [h k _ _ hk (by simp; omega) hg]
 congr 3
 ·apply ZjM
  ·simp; omega
  ·intro i hi
   have hi' : i < xs.length := by simp at hi; omega
   by_cases e : i = k
   ·subst e
    rw [Zj2 (by simp; omega), List.take_succ_eq_append_getElem hk, ← Zbm hk, List.map_append]
    rw [ZbX (by simp; omega)]
    unfold gx List.getD
    rw [List.getElem?_append_right (by simp; omega)]
    simp [Nat.min_eq_left (Nat.le_of_lt hk)]
   ·rw [ZgA e]
    rcases Nat.lt_or_ge i k with hlt | hge
    ·rw [ZbX (by simp; omega), ZbX (by simp; omega), List.take_succ_eq_append_getElem hk, List.map_append, ZbX (by simp; omega)]
    ·unfold gx List.getD
     rw [List.getElem?_append_right (by simp; omega), List.getElem?_append_right (by simp; omega)]
     simp only [List.length_map, List.length_take, List.getElem?_drop]
     rw [Nat.min_eq_left (by omega), Nat.min_eq_left (by omega), show k + (i - k) = k + 1 + (i - (k + 1)) by omega]
 ·rw [List.take_succ_eq_append_getElem hk, List.any_append, ← Zbm hk, Bool.or_comm]
  simp
def dueM (n : Int) (m : GMember) : GMember := bif m.Number == n then ⟨m.Number, m.Since, wr (m.Paid + 1)⟩ else m
def PayM (xs : List GMember) (n : Int) : List GMember × Bool := bif ZE xs && xs.any (fun m => m.Number == n) && ZE (xs.map (dueM n)) then (xs.map (dueM n), true) else (xs, false)
theorem ZsQ (xs : List GMember) (n : Int) : (PayM xs n).1.length = xs.length := by
 unfold PayM
 cases ZE xs && xs.any (fun m => m.Number == n) && ZE (xs.map (dueM n)) <;> simp

theorem Zo3 {xs : List GMember} (hl : xs.length ≤ 1048577) (n : Int) : ZgI xs n 1 = some (PayM xs n) := by
 unfold ZgI PayM
 simp only [List.nil_append]
 rw [Za (by simp; omega), Za (by omega), ZrF (f := Zgs xs n 1) xs (dueM n) (fun m => m.Number == n) (fun k s b hk hs hg => by
  have i1 : inR 1 1 10 = true := rfl
  simp only [Zgs, Zbn, i1, Option.bind_some, cond_true, dueM, hg]
  cases hq : (gx xs k).Number == n
  ·simp only [cond_false, Option.bind_some, Bool.false_or]
   rw [ZrM (by omega) hg]
  ·simp only [cond_true]
   rw [Za (by omega)]
   rfl)]
 simp only [Option.bind_some, ZbF xs (show xs.length ≤ 4611686018427387904 by omega), ZbF (xs.map (dueM n)) (show (xs.map (dueM n)).length ≤ 4611686018427387904 by simp; omega)]
 cases ZE xs <;> cases xs.any (fun m => m.Number == n) <;> cases ZE (xs.map (dueM n)) <;> rfl

theorem ZpI {xs : List GMember} (hl : xs.length ≤ 1048577) (n : Int) : ZgD xs n 1 = some (PayM xs n) := by
 have i1 : inR 1 1 10 = true := rfl
 unfold ZgD PayM
 simp only [Zf8 (show xs.length ≤ 1048600 by omega), ZaT, i1, Option.bind_some, Zcg xs (show xs.length ≤ 4611686018427387904 by omega)]
 cases ZE xs
 ·rfl
 simp only [Bool.not_true, cond_false, Option.bind_some]
 rw [Za (by omega), ZrF (f := Zgt n 1) xs (dueM n) (fun m => m.Number == n) (fun k s b hk hs hg => by
  unfold Zgt
  rw [Za (by simp only; omega)]
  simp only [hg, dueM]
  cases hq : (gx xs k).Number == n
  ·simp only [cond_false]
   rw [ZrM (by omega) hg]
  ·rfl)]
 simp only [Option.bind_some, Zcg (xs.map (dueM n)) (show (xs.map (dueM n)).length ≤ 4611686018427387904 by simp; omega)]
 cases xs.any (fun m => m.Number == n) <;> cases ZE (xs.map (dueM n)) <;> rfl

def Zc2 (xs : List GBooking) (b : GBooking) : List GBooking × Bool := bif Zax xs && Zax (xs ++ [b]) then (xs ++ [b], true) else (xs, false)
theorem Zr6 (xs : List GBooking) (b : GBooking) : (Zc2 xs b).1.length ≤ xs.length + 1 := by
 unfold Zc2
 cases Zax xs && Zax (xs ++ [b]) <;> simp

theorem Zo0 {xs : List GBooking} (hl : xs.length ≤ 1048576) (b : GBooking) : Zgx xs b = some (Zc2 xs b) := by
 unfold Zgx Zc2
 simp only [List.nil_append]
 rw [Za (by simp; omega), Za (by omega), ZhA xs (by omega), ZhA (xs ++ [b]) (by simp; omega)]
 cases Zax xs <;> cases Zax (xs ++ [b]) <;> rfl

theorem ZoN {xs : List GBooking} (hl : xs.length ≤ 1048576) (b : GBooking) : ZgE xs b = some (Zc2 xs b) := by
 unfold ZgE Zc2
 simp only [List.nil_append]
 rw [Za (by simp; omega), Za (by omega), ZhG xs (by omega), ZhG (xs ++ [b]) (by simp; omega)]
 cases Zax xs <;> cases Zax (xs ++ [b]) <;> rfl

def Zk9 (g : GGuild) (n : Int) (w : GGuild × Bool) : Prop := ∃ (r : List GMember × Bool) (d : Int), Zbz g.Members n g.Year = some r ∧ r.2 = true ∧ (PayM r.1 n).2 = true ∧ (Zc2 g.Books ⟨d, 0, 1, 20⟩).2 = true ∧ w = ((⟨(PayM r.1 n).1, g.Stock, g.Entries, (Zc2 g.Books ⟨d, 0, 1, 20⟩).1, g.Round, g.Year⟩ : GGuild), true) ∧ Zn w.1 = true
def ZhR (xs : List GBooking) : Int := bif decide ((xs.length : Int) > 0) then (gx xs (xs.length - 1)).Day else 0
theorem Zu9 (g : GGuild) (n : Int) (h : Sm.ok g) : ∃ r : List GMember × Bool, Zbz g.Members n g.Year = some r ∧ r.1.length ≤ g.Members.length + 1 ∧ (∀ x : GGuild, x = ⟨(PayM r.1 n).1, g.Stock, g.Entries, (Zc2 g.Books ⟨ZhR g.Books, 0, 1, 20⟩).1, g.Round, g.Year⟩ → ZcO g n = some (bif Zn g && (g.Round == 0) && r.2 && (PayM r.1 n).2 && (Zc2 g.Books ⟨ZhR g.Books, 0, 1, 20⟩).2 && Zn x then (x, true) else (g, false)) ∧ Zds g n = some (bif Zn g && (g.Round == 0) && r.2 && (PayM r.1 n).2 && (Zc2 g.Books ⟨ZhR g.Books, 0, 1, 20⟩).2 && Zn x then (x, true) else (g, false))) := by
 have hm := h.1.1
 have hbk : g.Books.length ≤ 1048576 := h.2.2.2.1
 obtain ⟨r, rl, rs, ri⟩ := ZtP g.Members n g.Year hm
 have hd : (bif decide ((g.Books.length : Int) > 0) then gd (0 ≤ wr ((g.Books.length : Int) - 1) ∧ wr ((g.Books.length : Int) - 1) < (g.Books.length : Int)) (some (gx g.Books (wr ((g.Books.length : Int) - 1)).toNat).Day) else some 0) = some (ZhR g.Books) := by
  unfold ZhR
  cases hd : decide ((g.Books.length : Int) > 0)
  ·rfl
  ·have hd' : (g.Books.length : Int) > 0 := by simpa using hd
   have e : wr ((g.Books.length : Int) - 1) = ((g.Books.length - 1 : Nat) : Int) := by rw [ZO (by omega) (by omega)]; omega
   rw [e, cond_true, cond_true, Za ⟨by omega, by omega⟩, Int.toNat_natCast]
 generalize ZhR g.Books = d at hd ⊢
 have pl := ZsQ r.1 n
 have bl := Zr6 g.Books ⟨d, 0, 1, 20⟩
 have hgl := Zei h
 have hn : GL (⟨(PayM r.1 n).1, g.Stock, g.Entries, (Zc2 g.Books ⟨d, 0, 1, 20⟩).1, g.Round, g.Year⟩ : GGuild) := ⟨by simp only; omega, hgl.2.1, hgl.2.2.1, by simp only; omega⟩
 refine ⟨r, rs, rl, fun x hxe => ?_⟩
 unfold ZcO Zds
 simp only [ZcW h, Zau h, Zaq g hgl, Option.bind_some, hd, rs, ri, Zo3 (show r.1.length ≤ 1048577 by omega), ZpI (show r.1.length ≤ 1048577 by omega), Zo0 hbk, ZoN hbk, Zaq _ hn, Zgr h hn]
 simp only [← hxe]
 have hr' : (g.Round != 0) = !(g.Round == 0) := rfl
 rw [hr']
 cases Zn g <;> cases (g.Round == 0) <;> cases r.2 <;> cases (PayM r.1 n).2 <;> cases (Zc2 g.Books ⟨d, 0, 1, 20⟩).2 <;> cases Zn x <;> exact ⟨rfl, rfl⟩
theorem Zlw (g : GGuild) (n : Int) (h : Sm.ok g) : ∃ w, ZcO g n = some w ∧ Zds g n = some w ∧ Sm.ok w.1 ∧ (w = (g, false) ∨ Zk9 g n w) := by
 obtain ⟨r, r1, _, hx⟩ := Zu9 g n h
 obtain ⟨e1, e2⟩ := hx _ rfl
 cases hc : Zn g && (g.Round == 0) && r.2 && (PayM r.1 n).2 && (Zc2 g.Books ⟨ZhR g.Books, 0, 1, 20⟩).2 && Zn (⟨(PayM r.1 n).1, g.Stock, g.Entries, (Zc2 g.Books ⟨ZhR g.Books, 0, 1, 20⟩).1, g.Round, g.Year⟩ : GGuild)
 ·rw [hc] at e1 e2
  exact ⟨_, e1, e2, h, .inl rfl⟩
 ·rw [hc] at e1 e2
  simp only [Bool.and_eq_true] at hc
  obtain ⟨⟨⟨⟨⟨_, _⟩, c3⟩, c4⟩, c5⟩, c6⟩ := hc
  exact ⟨_, e1, e2, ZcQ c6, .inr ⟨r, _, r1, c3, c4, c5, rfl, c6⟩⟩

theorem ZuL (g : GGuild) (n : Int) (h : Sm.ok g) : ∃ w, ZcO g n = some w ∧ Zds g n = some w ∧ Sm.ok w.1 :=
 have ⟨w, a, b, c, _⟩ := Zlw g n h
 ⟨w, a, b, c⟩

theorem ZlJ (g : GGuild) (n : Int) (h : Sm.ok g) (_ : Fit.ok n) : ∃ w, ZcO g n = some w ∧ Zds g n = some w ∧ Sm.ok w.1 := ZuL g n h

theorem Zox : ∃ w, ZbQ = some w ∧ ZbP = some w ∧ Sm.ok w := by
 obtain ⟨w0, s0, i0, m0⟩ := ZqV 2020 ⟨by decide, by decide⟩
 obtain ⟨w1, s1, i1, m1⟩ := ZlJ w0.1 1 m0 ⟨by decide, by decide⟩
 obtain ⟨w2, s2, i2, m2⟩ := ZlJ w1.1 2 m1 ⟨by decide, by decide⟩
 obtain ⟨w3, s3, i3, m3⟩ := ZlJ w2.1 3 m2 ⟨by decide, by decide⟩
 refine ⟨w3.1, ?_, ?_, m3⟩
 ·unfold ZbQ
  rw [s0]
  simp only [Option.bind_some]
  rw [ZaL (f := Zcw) (s0 := (w0.1.Members, w0.1.Stock, w0.1.Entries, w0.1.Books, w0.1.Round, w0.1.Year)) (fun k => (fun g : GGuild => (g.Members, g.Stock, g.Entries, g.Books, g.Round, g.Year)) (if k = 0 then w0.1 else if k = 1 then w1.1 else if k = 2 then w2.1 else w3.1)) rfl (fun k hk => by
   have hk3 : k = 0 ∨ k = 1 ∨ k = 2 := by omega
   rcases hk3 with rfl | rfl | rfl
   ·exact (congrArg (fun o : Option (GGuild × Bool) => o.bind fun v2 => some (Res.next (v2.1.Members, v2.1.Stock, v2.1.Entries, v2.1.Books, v2.1.Round, v2.1.Year))) s1)
   ·exact (congrArg (fun o : Option (GGuild × Bool) => o.bind fun v2 => some (Res.next (v2.1.Members, v2.1.Stock, v2.1.Entries, v2.1.Books, v2.1.Round, v2.1.Year))) s2)
   ·exact (congrArg (fun o : Option (GGuild × Bool) => o.bind fun v2 => some (Res.next (v2.1.Members, v2.1.Stock, v2.1.Entries, v2.1.Books, v2.1.Round, v2.1.Year))) s3))]
  rfl
 ·unfold ZbP
  rw [i0]
  simp only [Option.bind_some]
  rw [ZaL (f := Zf6) (s0 := (w0.1.Members, w0.1.Stock, w0.1.Entries, w0.1.Books, w0.1.Round, w0.1.Year)) (fun k => (fun g : GGuild => (g.Members, g.Stock, g.Entries, g.Books, g.Round, g.Year)) (if k = 0 then w0.1 else if k = 1 then w1.1 else if k = 2 then w2.1 else w3.1)) rfl (fun k hk => by
   have hk3 : k = 0 ∨ k = 1 ∨ k = 2 := by omega
   rcases hk3 with rfl | rfl | rfl
   ·exact (congrArg (fun o : Option (GGuild × Bool) => o.bind fun v2 => some (Res.next (v2.1.Members, v2.1.Stock, v2.1.Entries, v2.1.Books, v2.1.Round, v2.1.Year))) i1)
   ·exact (congrArg (fun o : Option (GGuild × Bool) => o.bind fun v2 => some (Res.next (v2.1.Members, v2.1.Stock, v2.1.Entries, v2.1.Books, v2.1.Round, v2.1.Year))) i2)
   ·exact (congrArg (fun o : Option (GGuild × Bool) => o.bind fun v2 => some (Res.next (v2.1.Members, v2.1.Stock, v2.1.Entries, v2.1.Books, v2.1.Round, v2.1.Year))) i3))]
  rfl

def Zii (b : GBlock) (a : Int) : Bool := b.Cells.any fun c => c.A == a || c.B == a
theorem Zky {α : Type} {f : α → Int} : ∀ {xs : List α}, (∀ x ∈ xs, 0 ≤ f x) → 0 ≤ isum (xs.map f)
 | [], _ => by simp [isum]
 | x :: r, h => by
  have := Zky (xs := r) fun y hy => h y (by simp [hy])
  have := h x (by simp)
  simp only [List.map_cons, isum]; omega
theorem Zms {α : Type} {f : α → Int} : ∀ {xs : List α}, (∀ x ∈ xs, 0 ≤ f x) → (0 < isum (xs.map f) ↔ ∃ x, x ∈ xs ∧ 0 < f x)
 | [], _ => by simp [isum]
 | x :: r, h => by
  have ih := Zms (xs := r) fun y hy => h y (by simp [hy])
  have h0 := h x (by simp)
  have hr := Zky (xs := r) (f := f) fun y hy => h y (by simp [hy])
  simp only [List.map_cons, isum]
  constructor
  ·intro hp
   by_cases hx : 0 < f x
   ·exact ⟨x, by simp, hx⟩
   ·obtain ⟨y, hy, hp⟩ := ih.1 (by omega)
    exact ⟨y, by simp [hy], hp⟩
  ·rintro ⟨y, hy, hp⟩
   simp only [List.mem_cons] at hy
   rcases hy with rfl | hy
   ·omega
   ·have := ih.2 ⟨y, hy, hp⟩; omega
theorem ZoL {b : GBlock} (h : Ze b = true) (a : Int) : decide (Zaf b a > 0) = Zii b a := by
 rw [Bool.eq_iff_iff, decide_eq_true_iff]
 unfold Zaf Zii
 rw [h, cond_true, List.any_eq_true]
 refine (Zms fun c _ => (Ziw a c).1).trans ?_
 constructor
 ·rintro ⟨c, hc, hp⟩
  refine ⟨c, hc, ?_⟩
  unfold arM at hp
  cases h1 : c.A == a
  ·cases h2 : c.B == a
   ·rw [h1, h2] at hp; simp at hp
   ·rfl
  ·rfl
 ·rintro ⟨c, hc, hp⟩
  refine ⟨c, hc, ?_⟩
  unfold arM
  cases h1 : c.A == a
  ·cases h2 : c.B == a
   ·rw [h1, h2] at hp; simp at hp
   ·simp
  ·cases h2 : c.B == a <;> simp
def Zy (b : GBlock) : List Int := ((List.range 6).filter fun a : Nat => Zii b (a : Int)).map fun a : Nat => (a : Int)
def ZfU (b : GBlock) : List Int := bif Ze b then Zy b else []
theorem ZjZ {b : GBlock} {x : Int} : x ∈ Zy b ↔ (0 ≤ x ∧ x ≤ 5) ∧ Zii b x = true := by
 simp only [Zy, List.mem_map, List.mem_filter, List.mem_range]
 constructor
 ·rintro ⟨a, ⟨h1, h2⟩, rfl⟩
  exact ⟨⟨by omega, by omega⟩, h2⟩
 ·rintro ⟨⟨h1, h2⟩, h3⟩
  obtain ⟨a, rfl⟩ := Int.eq_ofNat_of_zero_le h1
  exact ⟨a, ⟨by omega, h3⟩, rfl⟩
theorem ZoZ (b : GBlock) : (Zy b).Nodup := by
 have h : ((List.range 6).filter fun a : Nat => Zii b (a : Int)).Nodup := List.Pairwise.filter _ List.nodup_range
 exact List.Pairwise.map _ (fun a b hab e => hab (by omega)) h
theorem Zrg {b : GBlock} (h : Ze b = true) : 0 < (Zy b).length := by
 obtain ⟨n, hn, h1, h2, hl, hc⟩ := Zs h
 have hnn : 1 * 1 ≤ n * n := Nat.mul_le_mul h1 h1
 have hm : gx b.Cells 0 ∈ b.Cells := ZX (by omega)
 obtain ⟨_, _, a1, a2, _⟩ := ZaW (hc _ hm)
 apply List.length_pos_of_mem (a := (gx b.Cells 0).A)
 refine ZjZ.2 ⟨⟨a1, a2⟩, ?_⟩
 unfold Zii
 rw [List.any_eq_true]
 exact ⟨_, hm, by simp⟩

theorem Zfh (b : GBlock) : Zc4 b = some (ZfU b) := by
 unfold Zc4 ZfU
 simp only [ZV, Option.bind_some]
 cases h : Ze b
 ·rfl
 simp only [Bool.not_true, cond_false, cond_true]
 rw [Zjr (f := Zfc b) (xs := []) (fun a : Nat => Zii b (a : Int)) (fun a : Nat => (a : Int)) (fun k s hk hs => by
  simp only [Zfc, ZkV, Option.bind_some, ZoL h]
  rw [Za (by simp at hs; omega)]
  cases Zii b (k : Int) <;> rfl)]
 rfl

theorem Zop (b : GBlock) : ZfJ b = some (ZfU b) := by
 unfold ZfJ ZfU
 simp only [Z5, Option.bind_some]
 cases h : Ze b
 ·rfl
 obtain ⟨n, hn, h1, h2, hl, hc⟩ := Zs h
 have hnn : n * n ≤ 4 * 4 := Nat.mul_le_mul h2 h2
 simp only [Bool.not_true, cond_false, cond_true]
 rw [Zjr (f := Zfj b) (xs := []) (fun a : Nat => Zii b (a : Int)) (fun a : Nat => (a : Int)) (fun k s hk hs => by
  unfold Zfj
  rw [Za (by omega), ZaL (f := Ze9 b k) (s0 := false) (fun j => (b.Cells.take j).any fun c => c.A == (k : Int) || c.B == (k : Int)) rfl (fun j hj => by
   unfold Ze9
   rw [List.take_succ_eq_append_getElem hj, List.any_append, ← Zbm hj]
   simp)]
  simp only [Option.bind_some, List.take_length]
  rw [Za (by simp at hs; omega)]
  unfold Zii
  cases b.Cells.any fun c => c.A == (k : Int) || c.B == (k : Int) <;> rfl)]
 rfl

def Zp (c : GCell) (s : Nat) : Int := bif s == 0 || (c.Split == 1 && s == 1) || (c.Split == 2 && s == 3) then c.A else c.B
theorem Zhp (c : GCell) (s : Nat) : Zp c s = c.A ∨ Zp c s = c.B := by
 unfold Zp
 cases (s == 0 || (c.Split == 1 && s == 1) || (c.Split == 2 && s == 3)) <;> simp
theorem Zln {c : GCell} (h : Zm c = true) (s : Nat) : 0 ≤ Zp c s ∧ Zp c s ≤ 5 := by
 obtain ⟨_, _, h1, h2, h3, h4, _⟩ := ZaW h
 rcases Zhp c s with e | e <;> rw [e] <;> omega

theorem Zki {c : GCell} (h : Zm c = true) {s : Nat} (hs : s < 4) : ZeI c (s : Int) = some (Zp c s) := by
 have i : inR (s : Int) 0 3 = true := ZS.2 ⟨by omega, by omega⟩
 unfold ZeI Zp
 simp only [ZbU, Zbn, h, i, Option.bind_some, Bool.not_true, cond_false]
 have h4 : s = 0 ∨ s = 1 ∨ s = 2 ∨ s = 3 := by omega
 rcases h4 with rfl | rfl | rfl | rfl <;> cases c.Split == 1 <;> cases c.Split == 2 <;> rfl

theorem Zko {c : GCell} (h : Zm c = true) {s : Nat} (hs : s < 4) : ZeV c (s : Int) = some (Zp c s) := by
 have i : inR (s : Int) 0 3 = true := ZS.2 ⟨by omega, by omega⟩
 unfold ZeV Zp
 simp only [ZbC, ZaT, h, i, Option.bind_some, Bool.not_true, cond_false]
 have h4 : s = 0 ∨ s = 1 ∨ s = 2 ∨ s = 3 := by omega
 rcases h4 with rfl | rfl | rfl | rfl <;> cases c.Split == 1 <;> cases c.Split == 2 <;> rfl

def Ze4 (c d : GCell) : Int := sumN 4 fun s => bif Zp c s == Zp d s then 1 else 0
theorem ZkS (c d : GCell) : 0 ≤ Ze4 c d ∧ Ze4 c d ≤ 4 := by
 have := ZgW (m := 4) (F := fun s => bif Zp c s == Zp d s then 1 else 0) (B := 1) fun s _ => by cases Zp c s == Zp d s <;> simp
 unfold Ze4; omega
def ZiH (b d : GBlock) : Int := sumN b.Cells.length fun i => Ze4 (gx b.Cells i) (gx d.Cells i)
def Zdr (b d : GBlock) : Bool := Ze b && Ze d && (b.Size == d.Size)
theorem Zis {b d : GBlock} (h : Zdr b d = true) : Ze b = true ∧ Ze d = true ∧ b.Cells.length = d.Cells.length ∧ b.Cells.length ≤ 16 := by
 simp only [Zdr, Bool.and_eq_true, beq_iff_eq] at h
 obtain ⟨⟨h1, h2⟩, h3⟩ := h
 obtain ⟨n, hn, n1, n2, nl, _⟩ := Zs h1
 obtain ⟨m, hm, m1, m2, ml, _⟩ := Zs h2
 have e : n = m := by omega
 have hnn : n * n ≤ 4 * 4 := Nat.mul_le_mul n2 n2
 exact ⟨h1, h2, by rw [nl, ml, e], by omega⟩

theorem Zhh (b d : GBlock) : ZcL b d = some (Zdr b d) := by
 unfold ZcL Zdr
 simp only [ZV, Option.bind_some]
 cases Ze b <;> cases Ze d <;> rfl

theorem ZqO (b d : GBlock) : Zij b d = some (Zdr b d) := by
 unfold Zij Zdr
 simp only [Z5, Option.bind_some]
 cases Ze b <;> cases Ze d <;> rfl

theorem Zlj {c d : GCell} (hc : Zm c = true) (hd : Zm d = true) : Zda c d = some (Ze4 c d) := by
 unfold Zda
 simp only [ZbC, hc, hd, Option.bind_some, Bool.not_true, cond_false]
 rw [Zla (f := Zdk c d) (fun s => bif Zp c s == Zp d s then 1 else 0) (s0 := 0) (B := 1) (fun k s hk h0 h1 => by
  simp only [Zdk, Zko hc hk, Zko hd hk, Option.bind_some]
  cases Zp c k == Zp d k
  ·simp
  ·simp only [cond_true]; rw [ZO (by omega) (by omega)]) (fun k _ => by cases Zp c k == Zp d k <;> simp) (by omega) (by omega) (by omega)]
 simp [Ze4, sumN]

theorem Zok {b d : GBlock} (h : Zdr b d = true) : ZfK b d = some (ZiH b d) := by
 obtain ⟨h1, h2, h3, h4⟩ := Zis h
 obtain ⟨_, _, _, _, _, c1⟩ := Zs h1
 obtain ⟨_, _, _, _, _, c2⟩ := Zs h2
 unfold ZfK
 simp only [Zhh, h, Option.bind_some, Bool.not_true, cond_false]
 rw [Za (by omega), Zla (f := Zfl b d) (fun i => Ze4 (gx b.Cells i) (gx d.Cells i)) (s0 := 0) (B := 4) (fun k s hk g0 g1 => by
  have := ZkS (gx b.Cells k) (gx d.Cells k)
  unfold Zfl
  rw [Za (by omega), Zlj (c1 _ (ZX hk)) (c2 _ (ZX (by omega)))]
  simp only [Option.bind_some]
  rw [ZO (by omega) (by omega)]) (fun k _ => ZkS _ _) (by omega) (by omega) (by omega)]
 simp [ZiH, sumN]

def mx : Nat → (Nat → Int) → Int
 | 0, _ => 0
 | n + 1, g => if g n > mx n g then g n else mx n g
theorem Zkm : ∀ n g, 0 ≤ mx n g
 | 0, _ => Int.le_refl _
 | n + 1, g => by
  have := Zkm n g
  unfold mx
  split <;> omega
theorem Zrc {g : Nat → Int} : ∀ {n k : Nat}, k < n → g k ≤ mx n g
 | n + 1, k, h => by
  unfold mx
  rcases Nat.lt_or_ge k n with hlt | hge
  ·have := Zrc (g := g) hlt
   split <;> omega
  ·have e : k = n := by omega
   subst e
   split <;> omega
theorem Zlm {g : Nat → Int} {v : Int} (h0 : 0 ≤ v) : ∀ {n : Nat}, (∀ k, k < n → g k ≤ v) → mx n g ≤ v
 | 0, _ => h0
 | n + 1, h => by
  have := Zlm h0 (n := n) fun k hk => h k (by omega)
  have := h n (by omega)
  unfold mx
  split <;> omega
theorem ZrA {f : Nat → Int → Option (Res Int Empty)} {N : Nat} (g : Nat → Int) (h : ∀ k s, k < N → f k s = some (.next (if g k > s then g k else s))) : lpO f N 0 = some (mx N g) :=
 ZaL (fun k => mx k g) rfl fun k hk => by rw [h k _ hk]; rfl
def ZtS (b d : GBlock) : Int := mx 8 fun k => ZiH b (Z3 d (k : Int))
theorem Zml {b d : GBlock} (h : Zdr b d = true) {k : Nat} (hk : k < 8) : Zdr b (Z3 d (k : Int)) = true := by
 simp only [Zdr, Bool.and_eq_true, beq_iff_eq] at h ⊢
 obtain ⟨⟨h1, h2⟩, h3⟩ := h
 obtain ⟨v1, v2⟩ := Zjz h2 hk
 exact ⟨⟨h1, v1⟩, by rw [v2, h3]⟩

theorem ZlQ {b d : GBlock} (h : Zdr b d = true) : Zdj b d = some (ZtS b d) := by
 unfold Zdj
 simp only [Zhh, h, Option.bind_some, Bool.not_true, cond_false, Zl0, Zqv]
 rw [Za (by omega), ZrA (f := Zdp b (Zk2 d)) (fun k => ZiH b (Z3 d (k : Int))) (fun k s hk => by
  unfold Zdp
  rw [Zrp _ hk, Zok (Zml h hk)]
  rfl)]
 rfl

theorem Zos {c : GCell} {l : List Int} (hc : Zm c = true) (hl : ZaN l = true) (s : Nat) : Zp (ZC c l) s = gx l (Zp c s).toNat := by
 obtain ⟨h1, h2, h3, h4, h5, h6, h7⟩ := ZaW hc
 obtain ⟨g1, g2⟩ := ZfY hl
 obtain ⟨a0, a1⟩ := g2 _ (ZX (show c.A.toNat < l.length by omega))
 obtain ⟨b0, b1⟩ := g2 _ (ZX (show c.B.toNat < l.length by omega))
 unfold ZC Zbk
 rw [hc, hl]
 simp only [Bool.and_self, cond_true]
 cases he : gx l c.A.toNat == gx l c.B.toNat
 ·have hne : gx l c.A.toNat ≠ gx l c.B.toNat := by simpa using he
  have hab : c.A ≠ c.B := fun e => hne (by rw [e])
  have hok : Zm ⟨c.Split, gx l c.A.toNat, gx l c.B.toNat⟩ = true := ZaO h1 h2 a0 a1 b0 b1 ⟨fun e => absurd (h7.1 e) hab, fun e => absurd e hne⟩
  rw [hok]
  simp only [cond_false, cond_true]
  unfold Zp
  simp only
  cases (s == 0 || (c.Split == 1 && s == 1) || (c.Split == 2 && s == 3)) <;> rfl
 ·have e : gx l c.A.toNat = gx l c.B.toNat := by simpa using he
  have hi : inR (gx l c.A.toNat) 0 5 = true := ZS.2 ⟨a0, a1⟩
  unfold Zbx
  rw [hi]
  simp only [cond_true]
  rcases Zhp c s with q | q <;> rw [q]
  ·rcases Zhp ⟨0, gx l c.A.toNat, gx l c.A.toNat⟩ s with r | r <;> exact r
  ·rw [← e]
   rcases Zhp ⟨0, gx l c.A.toNat, gx l c.A.toNat⟩ s with r | r <;> exact r
theorem Zq4 {c : GCell} {l : List Int} (hc : Zm c = true) (hl : ZaN l = true) : Zaa (ZC c l) = ZC (Zaa c) l := by
 obtain ⟨h1, h2, h3, h4, h5, h6, h7⟩ := ZaW hc
 obtain ⟨g1, g2⟩ := ZfY hl
 obtain ⟨a0, a1⟩ := g2 _ (ZX (show c.A.toNat < l.length by omega))
 obtain ⟨b0, b1⟩ := g2 _ (ZX (show c.B.toNat < l.length by omega))
 have ht := ZnQ hc
 have hs : c.Split = 0 ∨ c.Split = 1 ∨ c.Split = 2 := by omega
 have hia : inR (gx l c.A.toNat) 0 5 = true := ZS.2 ⟨a0, a1⟩
 have hib : inR (gx l c.B.toNat) 0 5 = true := ZS.2 ⟨b0, b1⟩
 obtain ⟨cs, ca, cb⟩ := c
 simp only at h1 h2 h3 h4 h5 h6 h7 hs hia hib a0 a1 b0 b1
 rcases hs with rfl | rfl | rfl
 ·have e := h7.1 rfl
  subst e
  have ew : Zm ⟨0, gx l ca.toNat, gx l ca.toNat⟩ = true := ZaO (by simp) (by simp) a0 a1 a0 a1 (by simp)
  have e1 : ZC ⟨0, ca, ca⟩ l = ⟨0, gx l ca.toNat, gx l ca.toNat⟩ := by simp [ZC, hc, hl, Zbk, Zbx, hia]
  have e2 : Zaa ⟨0, ca, ca⟩ = ⟨0, ca, ca⟩ := by simp [Zaa, hc]
  rw [e1, e2, e1]
  simp [Zaa, ew]
 ·have e2 : Zaa ⟨1, ca, cb⟩ = ⟨2, cb, ca⟩ := by simp [Zaa, hc]
  rw [e2] at ht ⊢
  unfold ZC Zbk
  rw [hc, ht, hl]
  simp only [Bool.and_self, cond_true]
  cases he : gx l ca.toNat == gx l cb.toNat
  ·have hne : gx l ca.toNat ≠ gx l cb.toNat := by simpa using he
   have he' : (gx l cb.toNat == gx l ca.toNat) = false := by simpa using fun e => hne e.symm
   have o1 : Zm ⟨1, gx l ca.toNat, gx l cb.toNat⟩ = true := ZaO (by simp) (by simp) a0 a1 b0 b1 ⟨fun e => by simp at e, fun e => absurd e hne⟩
   have o2 : Zm ⟨2, gx l cb.toNat, gx l ca.toNat⟩ = true := ZaO (by simp) (by simp) b0 b1 a0 a1 ⟨fun e => by simp at e, fun e => absurd e.symm hne⟩
   rw [he', o1, o2]
   simp [Zaa, o1]
  ·have e : gx l ca.toNat = gx l cb.toNat := by simpa using he
   have he' : (gx l cb.toNat == gx l ca.toNat) = true := by simp [e]
   rw [he']
   have ew : Zm ⟨0, gx l cb.toNat, gx l cb.toNat⟩ = true := ZaO (by simp) (by simp) b0 b1 b0 b1 (by simp)
   simp [Zbx, e, hib, Zaa, ew]
 ·have e2 : Zaa ⟨2, ca, cb⟩ = ⟨1, ca, cb⟩ := by simp [Zaa, hc]
  rw [e2] at ht ⊢
  unfold ZC Zbk
  rw [hc, ht, hl]
  simp only [Bool.and_self, cond_true]
  cases he : gx l ca.toNat == gx l cb.toNat
  ·have hne : gx l ca.toNat ≠ gx l cb.toNat := by simpa using he
   have o1 : Zm ⟨2, gx l ca.toNat, gx l cb.toNat⟩ = true := ZaO (by simp) (by simp) a0 a1 b0 b1 ⟨fun e => by simp at e, fun e => absurd e hne⟩
   have o2 : Zm ⟨1, gx l ca.toNat, gx l cb.toNat⟩ = true := ZaO (by simp) (by simp) a0 a1 b0 b1 ⟨fun e => by simp at e, fun e => absurd e hne⟩
   rw [o1, o2]
   simp [Zaa, o1]
  ·have e : gx l ca.toNat = gx l cb.toNat := by simpa using he
   have ew : Zm ⟨0, gx l cb.toNat, gx l cb.toNat⟩ = true := ZaO (by simp) (by simp) b0 b1 b0 b1 (by simp)
   simp [Zbx, e, hib, Zaa, ew]
theorem Zo9 {c : GCell} {l : List Int} (hc : Zm c = true) (hl : ZaN l = true) : ZP (ZC c l) = ZC (ZP c) l := by
 obtain ⟨h1, h2, h3, h4, h5, h6, h7⟩ := ZaW hc
 obtain ⟨g1, g2⟩ := ZfY hl
 obtain ⟨a0, a1⟩ := g2 _ (ZX (show c.A.toNat < l.length by omega))
 obtain ⟨b0, b1⟩ := g2 _ (ZX (show c.B.toNat < l.length by omega))
 have ht := Zl4 hc
 have hs : c.Split = 0 ∨ c.Split = 1 ∨ c.Split = 2 := by omega
 have hia : inR (gx l c.A.toNat) 0 5 = true := ZS.2 ⟨a0, a1⟩
 have hib : inR (gx l c.B.toNat) 0 5 = true := ZS.2 ⟨b0, b1⟩
 obtain ⟨cs, ca, cb⟩ := c
 simp only at h1 h2 h3 h4 h5 h6 h7 hs hia hib a0 a1 b0 b1
 rcases hs with rfl | rfl | rfl
 ·have e := h7.1 rfl
  subst e
  have ew : Zm ⟨0, gx l ca.toNat, gx l ca.toNat⟩ = true := ZaO (by simp) (by simp) a0 a1 a0 a1 (by simp)
  have e1 : ZC ⟨0, ca, ca⟩ l = ⟨0, gx l ca.toNat, gx l ca.toNat⟩ := by simp [ZC, hc, hl, Zbk, Zbx, hia]
  have e2 : ZP ⟨0, ca, ca⟩ = ⟨0, ca, ca⟩ := by simp [ZP, hc]
  rw [e1, e2, e1]
  simp [ZP, ew]
 ·have e2 : ZP ⟨1, ca, cb⟩ = ⟨2, cb, ca⟩ := by simp [ZP, hc]
  rw [e2] at ht ⊢
  unfold ZC Zbk
  rw [hc, ht, hl]
  simp only [Bool.and_self, cond_true]
  cases he : gx l ca.toNat == gx l cb.toNat
  ·have hne : gx l ca.toNat ≠ gx l cb.toNat := by simpa using he
   have he' : (gx l cb.toNat == gx l ca.toNat) = false := by simpa using fun e => hne e.symm
   have o1 : Zm ⟨1, gx l ca.toNat, gx l cb.toNat⟩ = true := ZaO (by simp) (by simp) a0 a1 b0 b1 ⟨fun e => by simp at e, fun e => absurd e hne⟩
   have o2 : Zm ⟨2, gx l cb.toNat, gx l ca.toNat⟩ = true := ZaO (by simp) (by simp) b0 b1 a0 a1 ⟨fun e => by simp at e, fun e => absurd e.symm hne⟩
   rw [he', o1, o2]
   simp [ZP, o1]
  ·have e : gx l ca.toNat = gx l cb.toNat := by simpa using he
   have he' : (gx l cb.toNat == gx l ca.toNat) = true := by simp [e]
   rw [he']
   have ew : Zm ⟨0, gx l cb.toNat, gx l cb.toNat⟩ = true := ZaO (by simp) (by simp) b0 b1 b0 b1 (by simp)
   simp [Zbx, e, hib, ZP, ew]
 ·have e2 : ZP ⟨2, ca, cb⟩ = ⟨1, cb, ca⟩ := by simp [ZP, hc]
  rw [e2] at ht ⊢
  unfold ZC Zbk
  rw [hc, ht, hl]
  simp only [Bool.and_self, cond_true]
  cases he : gx l ca.toNat == gx l cb.toNat
  ·have hne : gx l ca.toNat ≠ gx l cb.toNat := by simpa using he
   have he' : (gx l cb.toNat == gx l ca.toNat) = false := by simpa using fun e => hne e.symm
   have o1 : Zm ⟨2, gx l ca.toNat, gx l cb.toNat⟩ = true := ZaO (by simp) (by simp) a0 a1 b0 b1 ⟨fun e => by simp at e, fun e => absurd e hne⟩
   have o2 : Zm ⟨1, gx l cb.toNat, gx l ca.toNat⟩ = true := ZaO (by simp) (by simp) b0 b1 a0 a1 ⟨fun e => by simp at e, fun e => absurd e.symm hne⟩
   rw [he', o1, o2]
   simp [ZP, o1]
  ·have e : gx l ca.toNat = gx l cb.toNat := by simpa using he
   have he' : (gx l cb.toNat == gx l ca.toNat) = true := by simp [e]
   rw [he']
   have ew : Zm ⟨0, gx l cb.toNat, gx l cb.toNat⟩ = true := ZaO (by simp) (by simp) b0 b1 b0 b1 (by simp)
   simp [Zbx, e, hib, ZP, ew]
theorem Zpn {α β : Type} (g : α → β) (h w : Nat) (F : Nat → Nat → α) : (ZbD h w F).map g = ZbD h w fun y x => g (F y x) := by
 simp [ZbD, List.map_flatMap]
 rfl
theorem ZmB {α : Type} {h w : Nat} {F G : Nat → Nat → α} (H : ∀ y x, y < h → x < w → F y x = G y x) : ZbD h w F = ZbD h w G := by
 induction h with
 | zero => rfl
 | succ h ih =>
  rw [ZkF, ZkF, ih fun y x hy hx => H y x (by omega) hx]
  congr 1
  exact List.map_congr_left fun x hx => H h x (by omega) (by simpa using hx)
def exB (l : List Int) (b : GBlock) : GBlock := ⟨b.Size, b.Cells.map fun c => ZC c l⟩
theorem ZoP {b : GBlock} (h : Ze b = true) (l : List Int) : Ze (exB l b) = true := by
 obtain ⟨n, hn, h1, h2, hl, hcs⟩ := Zs h
 unfold exB
 rw [hn]
 exact Zjn h1 h2 (by simpa using hl) (fun c hm => by
  simp only [List.mem_map] at hm
  obtain ⟨d, _, rfl⟩ := hm
  exact Zkt d l)
theorem ZwH {b : GBlock} (h : Ze b = true) {l : List Int} (hl : ZaN l = true) : Zdx b l = (exB l b, true) := by simp [Zdx, h, hl, exB]
theorem Zqm {b : GBlock} (h : Ze b = true) {l : List Int} (hl : ZaN l = true) : Zbl (exB l b) = exB l (Zbl b) := by
 obtain ⟨n, hn, h1, h2, hlen, hcs⟩ := Zs h
 have ho := ZoP h l
 unfold Zbl
 rw [ho, h]
 unfold exB
 simp only [cond_true, hn, Int.toNat_natCast]
 rw [Zpn]
 congr 1
 refine ZmB fun y x hy hx => ?_
 have hi : (n - 1 - x) * n + y < b.Cells.length := by rw [hlen]; exact ZiR (by omega) hy
 rw [Zru _ hi, Zq4 (hcs _ (ZX hi)) hl]
theorem ZoK {b : GBlock} (h : Ze b = true) {l : List Int} (hl : ZaN l = true) : ZaQ (exB l b) = exB l (ZaQ b) := by
 obtain ⟨n, hn, h1, h2, hlen, hcs⟩ := Zs h
 have ho := ZoP h l
 unfold ZaQ
 rw [ho, h]
 unfold exB
 simp only [cond_true, hn, Int.toNat_natCast]
 rw [Zpn]
 congr 1
 refine ZmB fun y x hy hx => ?_
 have hi : y * n + (n - 1 - x) < b.Cells.length := by rw [hlen]; exact ZiR hy (by omega)
 rw [Zru _ hi, Zo9 (hcs _ (ZX hi)) hl]
theorem ZqK {b : GBlock} (h : Ze b = true) {l : List Int} (hl : ZaN l = true) {k : Nat} (hk : k < 8) : Z3 (exB l b) (k : Int) = exB l (Z3 b (k : Int)) := by
 have turns : ∀ (b0 : GBlock), Ze b0 = true → ∀ j, Zcv j (exB l b0) = exB l (Zcv j b0) := fun b0 h0 j => by
  induction j with
  | zero => rfl
  | succ j ih => rw [Zcv, ih, Zqm (Zj4 h0 j).1 hl]; rfl
 have hi : inR (k : Int) 0 7 = true := ZS.2 ⟨by omega, by omega⟩
 unfold Z3
 rw [h, ZoP h l, hi]
 cases decide ((k : Int) ≥ 4)
 ·exact turns b h _
 ·simp only [Bool.and_self, cond_true]
  rw [ZoK h hl, turns _ (Ziv h)]
theorem Zsp {b : GBlock} (h : Ze b = true) {k : Nat} (hk : k < 8) {i : Nat} (hi : i < (Z3 b (k : Int)).Cells.length) (s : Nat) : Zp (gx (Z3 b (k : Int)).Cells i) s ∈ Zy b := by
 have hi7 : inR (k : Int) 0 7 = true := ZS.2 ⟨by omega, by omega⟩
 have hv := (Zql h hi7).1
 obtain ⟨_, _, _, _, _, hcs⟩ := Zs hv
 have hm := ZX hi
 refine ZjZ.2 ⟨Zln (hcs _ hm) s, ?_⟩
 rw [← ZoL h, ← ZtM _ h hi7, ZoL hv]
 unfold Zii
 rw [List.any_eq_true]
 refine ⟨_, hm, ?_⟩
 rcases Zhp (gx (Z3 b (k : Int)).Cells i) s with e | e <;> rw [e] <;> simp

def cnt1 (u v c d : Int) : Int := bif c == u && d == v then 1 else 0
def sumP (ps : List (Int × Int)) (f : Int → Int → Int) : Int := isum (ps.map fun p => f p.1 p.2)
theorem Zi2 (p : Int × Int) (ps : List (Int × Int)) (f : Int → Int → Int) : sumP (p :: ps) f = f p.1 p.2 + sumP ps f := rfl
theorem ZqG (c d : Int) : ∀ {ps : List (Int × Int)}, (∀ p ∈ ps, p.1 ≠ c) → sumP ps (fun u v => cnt1 u v c d) = 0
 | [], _ => rfl
 | p :: ps, h => by
  have hp := h p (by simp)
  have hb : (c == p.1) = false := by simpa using fun e : c = p.1 => hp e.symm
  rw [Zi2, ZqG c d fun q hq => h q (by simp [hq])]
  simp [cnt1, hb]
theorem Zro {g : Int → Int} {c d : Int} : ∀ {ps : List (Int × Int)}, (ps.map Prod.fst).Nodup → c ∈ ps.map Prod.fst → (∀ p ∈ ps, g p.1 = p.2) → sumP ps (fun u v => cnt1 u v c d) = bif d == g c then 1 else 0
 | [], _, hm, _ => by simp at hm
 | p :: ps, hn, hm, hg => by
  rw [List.map_cons, List.nodup_cons] at hn
  rw [Zi2]
  have hgp := hg p (by simp)
  by_cases e : c = p.1
  ·have hz : ∀ q ∈ ps, q.1 ≠ c := fun q hq h => hn.1 (by rw [← e, ← h]; exact List.mem_map_of_mem hq)
   rw [ZqG c d hz, e, hgp]
   simp [cnt1]
  ·have hm' : c ∈ ps.map Prod.fst := by
    rw [List.map_cons, List.mem_cons] at hm
    rcases hm with h | h
    ·exact absurd h e
    ·exact h
   have hb : (c == p.1) = false := by simpa using e
   rw [Zro hn.2 hm' fun q hq => hg q (by simp [hq])]
   simp [cnt1, hb]
theorem ZmN (m : Nat) (f : Nat → Int → Int → Int) : ∀ ps : List (Int × Int), sumP ps (fun u v => sumN m fun i => f i u v) = sumN m fun i => sumP ps (f i)
 | [] => by
  have : sumN m (fun i => sumP [] (f i)) = sumN m fun _ => 0 := Zjh fun _ _ => rfl
  rw [this, ZuY]; rfl
 | p :: ps => by
  rw [Zi2, ZmN m f ps, ← ZuX]
  rfl
def TM (b d : GBlock) (u v : Int) : Int := sumN b.Cells.length fun i => sumN 4 fun s => cnt1 u v (Zp (gx d.Cells i) s) (Zp (gx b.Cells i) s)
theorem ZqQ {b d : GBlock} (h : Zdr b d = true) {l : List Int} (hl : ZaN l = true) {ps : List (Int × Int)} (hn : (ps.map Prod.fst).Nodup) (hc : ∀ i, i < d.Cells.length → ∀ s, Zp (gx d.Cells i) s ∈ ps.map Prod.fst) (hg : ∀ p ∈ ps, gx l p.1.toNat = p.2) : ZiH b (exB l d) = sumP ps (TM b d) := by
 obtain ⟨h1, h2, h3, h4⟩ := Zis h
 obtain ⟨_, _, _, _, _, c2⟩ := Zs h2
 have e : sumP ps (TM b d) = sumN b.Cells.length fun i => sumN 4 fun s => sumP ps fun u v => cnt1 u v (Zp (gx d.Cells i) s) (Zp (gx b.Cells i) s) := by
  unfold TM
  rw [ZmN]
  refine Zjh fun i _ => ?_
  rw [ZmN]
 rw [e]
 unfold ZiH
 refine Zjh fun i hi => ?_
 unfold Ze4
 refine Zjh fun s hs => ?_
 have hx : gx (exB l d).Cells i = ZC (gx d.Cells i) l := Zru _ (by omega)
 rw [hx, Zos (c2 _ (ZX (by omega))) hl, Zro (g := fun x => gx l x.toNat) hn (hc i (by omega) s) hg]

def Zkp : List Nat → Int
 | [] => 0
 | a :: r => orI (Zkp r) (shlI 1 (a : Int))
theorem ZxB : ∀ k : Nat, k < 6 → (andI (shrI 0 (k : Int)) 1 == 0) = true := by decide +kernel
theorem Zx5 : ∀ a : Nat, a < 6 → ∀ k : Nat, k < 6 → (andI (shrI (orI 0 (shlI 1 (a : Int))) (k : Int)) 1 == 0) = !(k == a) := by decide +kernel
theorem Zxw : ∀ a : Nat, a < 6 → ∀ b : Nat, b < 6 → ∀ k : Nat, k < 6 → (andI (shrI (orI (orI 0 (shlI 1 (b : Int))) (shlI 1 (a : Int))) (k : Int)) 1 == 0) = !(k == a || k == b) := by decide +kernel
theorem Zuu {used : List Nat} (hl : used.length ≤ 2) (hu : ∀ a ∈ used, a < 6) {k : Nat} (hk : k < 6) : (andI (shrI (Zkp used) (k : Int)) 1 == 0) = !(used.contains k) := by
 match used, hl, hu with
 | [], _, _ => exact ZxB k hk
 | [a], _, hu => rw [show Zkp [a] = orI 0 (shlI 1 (a : Int)) from rfl, Zx5 a (hu a (by simp)) k hk, Bool.eq_iff_iff]; simp
 | [a, b], _, hu => rw [show Zkp [a, b] = orI (orI 0 (shlI 1 (b : Int))) (shlI 1 (a : Int)) from rfl, Zxw a (hu a (by simp)) b (hu b (by simp)) k hk, Bool.eq_iff_iff]; simp
 | a :: b :: c :: r, hl, _ => simp at hl
def mxc : Nat → (Nat → Bool) → (Nat → Int) → Int
 | 0, _, _ => 0
 | n + 1, p, g => bif p n then (if g n > mxc n p g then g n else mxc n p g) else mxc n p g
theorem ZoY : ∀ n p g, 0 ≤ mxc n p g
 | 0, _, _ => Int.le_refl _
 | n + 1, p, g => by
  have := ZoY n p g
  unfold mxc
  cases p n
  ·exact this
  ·simp only [cond_true]; split <;> omega
theorem Zue {p : Nat → Bool} {g : Nat → Int} : ∀ {n k : Nat}, k < n → p k = true → g k ≤ mxc n p g
 | n + 1, k, h, hp => by
  unfold mxc
  rcases Nat.lt_or_ge k n with hlt | hge
  ·have := Zue (g := g) hlt hp
   cases p n
   ·exact this
   ·simp only [cond_true]; split <;> omega
  ·have e : k = n := by omega
   subst e
   rw [hp]
   simp only [cond_true]; split <;> omega
theorem Zqh {p : Nat → Bool} {g : Nat → Int} : ∀ n, mxc n p g = 0 ∨ ∃ k, k < n ∧ p k = true ∧ mxc n p g = g k
 | 0 => .inl rfl
 | n + 1 => by
  have ih := Zqh (p := p) (g := g) n
  unfold mxc
  cases hp : p n
  ·simp only [cond_false]
   rcases ih with h | ⟨k, h1, h2, h3⟩
   ·exact .inl h
   ·exact .inr ⟨k, by omega, h2, h3⟩
  ·simp only [cond_true]
   split
   ·exact .inr ⟨n, by omega, hp, rfl⟩
   ·rcases ih with h | ⟨k, h1, h2, h3⟩
    ·exact .inl h
    ·exact .inr ⟨k, by omega, h2, h3⟩
def Zc0 (T : Int → Int → Int) : List Int → List Nat → Int
 | [], _ => 0
 | u :: r, used => mxc 6 (fun a => !used.contains a) fun a => T u (a : Int) + Zc0 T r (a :: used)
theorem ZpK {T : Int → Int → Int} (hT : ∀ u v, 0 ≤ T u v ∧ T u v ≤ 64) : ∀ (L : List Int) (used : List Nat), 0 ≤ Zc0 T L used ∧ Zc0 T L used ≤ 64 * L.length
 | [], _ => by simp [Zc0]
 | u :: r, used => by
  unfold Zc0
  refine ⟨ZoY _ _ _, ?_⟩
  rcases Zqh (p := fun a => !used.contains a) (g := fun a => T u (a : Int) + Zc0 T r (a :: used)) 6 with h | ⟨k, h1, h2, h3⟩
  ·rw [h]; omega
  ·rw [h3]
   have := ZpK hT r (k :: used)
   have := hT u (k : Int)
   simp only [List.length_cons]; omega
theorem Zs3 {T : Int → Int → Int} : ∀ (L : List Int) (used : List Nat) (p : List Int), p.length = L.length → (∀ x ∈ p, 0 ≤ x ∧ x ≤ 5) → p.Nodup → (∀ x ∈ p, ¬ x.toNat ∈ used) → sumP (L.zip p) T ≤ Zc0 T L used
 | [], used, p, _, _, _, _ => by simp [sumP, isum, Zc0]
 | u :: r, used, [], hl, _, _, _ => by simp at hl
 | u :: r, used, v :: p, hl, hr, hn, hu => by
  rw [List.nodup_cons] at hn
  obtain ⟨v0, v1⟩ := hr v (by simp)
  have ih := Zs3 (T := T) r (v.toNat :: used) p (by simpa using hl) (fun x hx => hr x (by simp [hx])) hn.2 (fun x hx => by
   have := hr x (by simp [hx])
   simp only [List.mem_cons, not_or]
   refine ⟨fun e => hn.1 ?_, hu x (by simp [hx])⟩
   have : x = v := by omega
   rw [← this]; exact hx)
  have hm := Zue (p := fun a => !used.contains a) (g := fun a => T u (a : Int) + Zc0 T r (a :: used)) (n := 6) (k := v.toNat) (by omega) (by
   have := hu v (by simp)
   simpa using this)
  have ev : ((v.toNat : Nat) : Int) = v := by omega
  simp only [ev] at hm
  rw [List.zip_cons_cons, Zi2]
  unfold Zc0
  simp only
  omega
theorem Ztx {used : List Nat} (hl : used.length ≤ 2) : ∃ a, a < 6 ∧ ¬ a ∈ used := by
 match used, hl with
 | [], _ => exact ⟨0, by omega, by simp⟩
 | [x], _ =>
  by_cases h : x = 0
  ·exact ⟨1, by omega, by simp; omega⟩
  ·exact ⟨0, by omega, by simp; omega⟩
 | [x, y], _ =>
  by_cases h0 : x = 0 ∨ y = 0
  ·by_cases h1 : x = 1 ∨ y = 1
   ·exact ⟨2, by omega, by simp; omega⟩
   ·exact ⟨1, by omega, by simp; omega⟩
  ·exact ⟨0, by omega, by simp; omega⟩
 | a :: b :: c :: r, hl => simp at hl
theorem Zrt {T : Int → Int → Int} (hT : ∀ u v, 0 ≤ T u v) : ∀ (L : List Int) (used : List Nat), used.length + L.length ≤ 3 → ∃ p : List Int, p.length = L.length ∧ (∀ x ∈ p, 0 ≤ x ∧ x ≤ 5) ∧ p.Nodup ∧ (∀ x ∈ p, ¬ x.toNat ∈ used) ∧ Zc0 T L used ≤ sumP (L.zip p) T
 | [], used, _ => ⟨[], rfl, by simp, by simp, by simp, by simp [sumP, isum, Zc0]⟩
 | u :: r, used, hl => by
  have step : ∀ a, a < 6 → ¬ a ∈ used → ∃ p : List Int, p.length = (u :: r).length ∧ (∀ x ∈ p, 0 ≤ x ∧ x ≤ 5) ∧ p.Nodup ∧ (∀ x ∈ p, ¬ x.toNat ∈ used) ∧ T u (a : Int) + Zc0 T r (a :: used) ≤ sumP ((u :: r).zip p) T := fun a ha hna => by
   obtain ⟨p, p1, p2, p3, p4, p5⟩ := Zrt hT r (a :: used) (by simp at hl ⊢; omega)
   refine ⟨(a : Int) :: p, by simp [p1], ?_, ?_, ?_, ?_⟩
   ·intro x hx
    simp only [List.mem_cons] at hx
    rcases hx with rfl | hx
    ·omega
    ·exact p2 x hx
   ·rw [List.nodup_cons]
    exact ⟨fun hm => p4 _ hm (by simp), p3⟩
   ·intro x hx
    simp only [List.mem_cons] at hx
    rcases hx with rfl | hx
    ·simpa using hna
    ·exact fun h => p4 x hx (by simp [h])
   ·rw [List.zip_cons_cons, Zi2]
    simp only; omega
  unfold Zc0
  rcases Zqh (p := fun a => !used.contains a) (g := fun a => T u (a : Int) + Zc0 T r (a :: used)) 6 with h | ⟨k, h1, h2, h3⟩
  ·obtain ⟨a, ha, hna⟩ := Ztx (used := used) (by simp at hl; omega)
   obtain ⟨p, p1, p2, p3, p4, p5⟩ := step a ha hna
   refine ⟨p, p1, p2, p3, p4, ?_⟩
   rw [h]
   have hs : 0 ≤ sumP ((u :: r).zip p) T := Zky fun q _ => hT q.1 q.2
   exact hs
  ·obtain ⟨p, p1, p2, p3, p4, p5⟩ := step k h1 (by simpa using h2)
   exact ⟨p, p1, p2, p3, p4, by rw [h3]; exact p5⟩

theorem ZvG {α : Type} [Rep α] {m : Nat} (G : Nat → α) (u : Nat) (y : α) : ((List.range m).map G).set u y = (List.range m).map fun i => bif i == u then y else G i := by
 apply ZjM
 ·simp
 ·intro k hk
  have hk' : k < m := by simpa using hk
  rw [ZdI _ hk']
  by_cases e : k = u
  ·subst e
   rw [Zj2 (by simpa using hk')]; simp
  ·rw [ZgA e, ZdI _ hk', beq_eq_false_iff_ne.2 e, cond_false]
def Zd4 (f : Nat → Nat → Int) : List (List Int) := (List.range 6).map fun u => tab6 (f u)
theorem ZqH (f : Nat → Nat → Int) : (Zd4 f).length = 6 := by simp [Zd4]
theorem ZjX (f : Nat → Nat → Int) {u : Nat} (hu : u < 6) : gx (Zd4 f) u = tab6 (f u) := ZdI _ hu
theorem Zsk {f g : Nat → Nat → Int} (h : ∀ u v, u < 6 → v < 6 → f u v = g u v) : Zd4 f = Zd4 g := List.map_congr_left fun u hu => Zjo fun v hv => h u v (by simpa using hu) hv
theorem ZtV (f : Nat → Nat → Int) {u : Nat} (hu : u < 6) (v : Nat) (x : Int) : (Zd4 f).set u ((gx (Zd4 f) u).set v x) = Zd4 fun i j => bif i == u && j == v then x else f i j := by
 rw [ZjX _ hu, Zoh]
 unfold Zd4
 rw [ZvG]
 refine List.map_congr_left fun i _ => ?_
 cases h : i == u
 ·simp only [cond_false, h, Bool.false_and]
 ·have e : i = u := by simpa using h
  subst e
  simp
theorem ZlF (u v c d : Int) : 0 ≤ cnt1 u v c d ∧ cnt1 u v c d ≤ 1 := by unfold cnt1; cases c == u && d == v <;> simp
theorem Zrq {b d : GBlock} (hl : b.Cells.length ≤ 16) (u v : Int) : 0 ≤ TM b d u v ∧ TM b d u v ≤ 64 := by
 have := ZgW (m := b.Cells.length) (F := fun i => sumN 4 fun s => cnt1 u v (Zp (gx d.Cells i) s) (Zp (gx b.Cells i) s)) (B := 4) fun i _ => by
  have := ZgW (m := 4) (F := fun s => cnt1 u v (Zp (gx d.Cells i) s) (Zp (gx b.Cells i) s)) (B := 1) fun s _ => ZlF _ _ _ _
  omega
 unfold TM; omega

theorem Zn7 {b d : GBlock} (h : Zdr b d = true) : ZfD b d = some (Zd4 fun u v => TM b d (u : Int) (v : Int)) := by
 obtain ⟨h1, h2, h3, h4⟩ := Zis h
 obtain ⟨_, _, _, _, _, c1⟩ := Zs h1
 obtain ⟨_, _, _, _, _, c2⟩ := Zs h2
 have h0 : lpO ZhF 6 [] = some (Zd4 fun _ _ => 0) := by rfl
 unfold ZfD
 rw [h0]
 simp only [Option.bind_some]
 rw [Za (by omega), ZaL (f := Zfm b d) (s0 := Zd4 fun _ _ => 0) (fun k => Zd4 fun u v => sumN k fun i => sumN 4 fun s => cnt1 u v (Zp (gx d.Cells i) s) (Zp (gx b.Cells i) s)) rfl (fun k hk => by
  have hb : ∀ u v : Int, 0 ≤ sumN k (fun i => sumN 4 fun s => cnt1 u v (Zp (gx d.Cells i) s) (Zp (gx b.Cells i) s)) ∧ sumN k (fun i => sumN 4 fun s => cnt1 u v (Zp (gx d.Cells i) s) (Zp (gx b.Cells i) s)) ≤ 64 := fun u v => by
   have := ZgW (m := k) (F := fun i => sumN 4 fun s => cnt1 u v (Zp (gx d.Cells i) s) (Zp (gx b.Cells i) s)) (B := 4) fun i _ => by
    have := ZgW (m := 4) (F := fun s => cnt1 u v (Zp (gx d.Cells i) s) (Zp (gx b.Cells i) s)) (B := 1) fun s _ => ZlF _ _ _ _
    omega
   omega
  have ok1 := c1 _ (ZX hk)
  have ok2 := c2 _ (ZX (show k < d.Cells.length by omega))
  unfold Zfm
  rw [ZaL (f := Zfy b d k) (s0 := Zd4 fun u v => sumN k fun i => sumN 4 fun s => cnt1 u v (Zp (gx d.Cells i) s) (Zp (gx b.Cells i) s)) (fun j => Zd4 fun u v => sumN k (fun i => sumN 4 fun s => cnt1 u v (Zp (gx d.Cells i) s) (Zp (gx b.Cells i) s)) + sumN j fun s => cnt1 u v (Zp (gx d.Cells k) s) (Zp (gx b.Cells k) s)) (by simp [ZuA]) (fun j hj => by
   obtain ⟨x0, x1⟩ := Zln ok2 j
   obtain ⟨y0, y1⟩ := Zln ok1 j
   have hx6 : (Zp (gx d.Cells k) j).toNat < 6 := by omega
   have hy6 : (Zp (gx b.Cells k) j).toNat < 6 := by omega
   unfold Zfy
   rw [Za (by omega), Zki ok2 hj, Zki ok1 hj]
   simp only [Option.bind_some]
   rw [Za ⟨x0, by rw [ZqH]; omega⟩, Za ⟨y0, by rw [ZjX _ hx6, ZdG]; omega⟩]
   congr 2
   rw [ZtV _ hx6, ZjX _ hx6, ZeW _ hy6]
   refine Zsk fun u v hu hv => ?_
   rw [ZhS]
   have hb2 := hb (u : Int) (v : Int)
   have hb3 := ZgW (m := j) (F := fun s => cnt1 u v (Zp (gx d.Cells k) s) (Zp (gx b.Cells k) s)) (B := 1) fun s _ => ZlF _ _ _ _
   unfold cnt1 at hb2 hb3 ⊢
   cases hq : (u == (Zp (gx d.Cells k) j).toNat && v == (Zp (gx b.Cells k) j).toNat)
   ·have : (Zp (gx d.Cells k) j == (u : Int) && Zp (gx b.Cells k) j == (v : Int)) = false := by
     rw [← Zhw x0 u, ← Zhw y0 v]; exact hq
    rw [this]
    simp only [cond_false]; omega
   ·have : (Zp (gx d.Cells k) j == (u : Int) && Zp (gx b.Cells k) j == (v : Int)) = true := by
     rw [← Zhw x0 u, ← Zhw y0 v]; exact hq
    simp only [Bool.and_eq_true, beq_iff_eq] at hq
    obtain ⟨q1, q2⟩ := hq
    rw [this, ← q1, ← q2]
    simp only [cond_true]
    rw [ZO (by omega) (by omega)]; omega)]
  simp only [Option.bind_some, ZhS])]
 rfl

theorem ZvJ {f : Nat → Int → Option (Res Int Empty)} {N : Nat} (p : Nat → Bool) (g : Nat → Int) (h : ∀ k s, k < N → f k s = some (.next (bif p k then (if g k > s then g k else s) else s))) : lpO f N 0 = some (mxc N p g) :=
 ZaL (fun k => mxc k p g) rfl fun k hk => by rw [h k _ hk]; rfl
end Go.Proofs.YtjfjbgihojiijabGreatDoor
