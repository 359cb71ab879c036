/-
 The plain laws: what the functions compute, in Lean alone.
-/
import Derived.Test.YtjfjbgihojiijabGreatDoorP1
namespace Go.Proofs.YtjfjbgihojiijabGreatDoor
open Go

theorem Zkk {T : Int → Int → Int} (hT : ∀ u v, 0 ≤ T u v ∧ T u v ≤ 64) {L : List Int} (hL : L.length ≤ 3) (hin : ∀ u ∈ L, 0 ≤ u ∧ u ≤ 5) : ∀ (m j : Nat) (used : List Nat), j + m = L.length → used.length = j → (∀ a ∈ used, a < 6) →
  Zcb (m + 1) (Zd4 fun u v => T (u : Int) (v : Int)) L (j : Int) (Zkp used) = some (Zc0 T (L.drop j) used)
 | 0, j, used, hj, hu, hu6 => by
  have e : ((j : Int) == (L.length : Int)) = true := by simp; omega
  unfold Zcb
  rw [e, List.drop_eq_nil_of_le (by omega)]
  rfl
 | m + 1, j, used, hj, hu, hu6 => by
  have hjl : j < L.length := by omega
  have e : ((j : Int) == (L.length : Int)) = false := by rw [beq_eq_false_iff_ne]; omega
  obtain ⟨u0, u1⟩ := hin _ (ZX hjl)
  have hu6' : (gx L j).toNat < 6 := by omega
  have ecast : (((gx L j).toNat : Nat) : Int) = gx L j := by omega
  unfold Zcb
  rw [e, List.drop_eq_getElem_cons hjl, ← Zbm hjl]
  simp only [cond_false]
  rw [ZvJ (f := Zgn (Zcb (m + 1)) (Zd4 fun u v => T (u : Int) (v : Int)) L (j : Int) (Zkp used)) (fun a => !used.contains a) (fun a => T (gx L j) (a : Int) + Zc0 T (L.drop (j + 1)) (a :: used)) (fun k s hk => by
   have hbb := ZpK hT (L.drop (j + 1)) (k :: used)
   have hdl : (L.drop (j + 1)).length ≤ 3 := by simp; omega
   have ht := hT (gx L j) (k : Int)
   have ej : wr ((j : Int) + 1) = ((j + 1 : Nat) : Int) := by rw [ZO (by omega) (by omega)]; simp
   have hr := Zkk hT hL hin m (j + 1) (k :: used) (by omega) (by simp [hu]) (fun a ha => by
    simp only [List.mem_cons] at ha
    rcases ha with rfl | ha
    ·exact hk
    ·exact hu6 a ha)
   have hmask : Zkp (k :: used) = orI (Zkp used) (shlI 1 (k : Int)) := rfl
   unfold Zgn
   rw [Za (by omega), Zuu (by omega) hu6 hk]
   cases hc : used.contains k
   ·simp only [Bool.not_false, cond_true, Int.toNat_natCast]
    rw [Za ⟨by omega, by omega⟩, Za ⟨u0, by rw [ZqH]; omega⟩, Za (by rw [ZjX _ hu6', ZdG]; exact hk), ej, ← hmask, hr]
    simp only [Option.bind_some]
    rw [ZjX _ hu6', ZeW _ hk, ecast, ZO (by omega) (by omega)]
   ·simp only [Bool.not_true, cond_false, Option.bind_some])]
  rfl

def pkM : List Nat → Nat → List Int → List Int
 | [], _, _ => []
 | r :: rs, i, left => gx left (i / r) :: pkM rs (i % r) (left.take (i / r) ++ left.drop (i / r + 1))
theorem ZwE : ∀ i, i < 6 → (pkM [1] i six).Nodup ∧ ∀ x ∈ pkM [1] i six, 0 ≤ x ∧ x ≤ 5 := by decide +kernel
theorem Zwj : ∀ i, i < 30 → (pkM [5, 1] i six).Nodup ∧ ∀ x ∈ pkM [5, 1] i six, 0 ≤ x ∧ x ≤ 5 := by decide +kernel
theorem ZwS : ∀ i, i < 120 → (pkM [20, 4, 1] i six).Nodup ∧ ∀ x ∈ pkM [20, 4, 1] i six, 0 ≤ x ∧ x ≤ 5 := by decide +kernel
def inv2 (a b : Nat) : Nat := 5 * a + (b - bif decide (a < b) then 1 else 0)
def inv3 (a b c : Nat) : Nat := 20 * a + 4 * (b - bif decide (a < b) then 1 else 0) + (c - (bif decide (a < c) then 1 else 0) - (bif decide (b < c) then 1 else 0))
theorem Zv9 : ∀ a, a < 6 → pkM [1] a six = [(a : Int)] := by decide +kernel
theorem ZvT : ∀ a, a < 6 → ∀ b, b < 6 → a ≠ b → inv2 a b < 30 ∧ pkM [5, 1] (inv2 a b) six = [(a : Int), (b : Int)] := by decide +kernel
def chk3 : Bool := (List.range 6).all fun a => (List.range 6).all fun b => (List.range 6).all fun c => (a == b || a == c || b == c) || (decide (inv3 a b c < 120) && (pkM [20, 4, 1] (inv3 a b c) six == [(a : Int), (b : Int), (c : Int)]))
theorem Zv6 : chk3 = true := by decide +kernel
theorem Zv7 (a : Nat) (ha : a < 6) (b : Nat) (hb : b < 6) (c : Nat) (hc : c < 6) (hab : a ≠ b) (hac : a ≠ c) (hbc : b ≠ c) : inv3 a b c < 120 ∧ pkM [20, 4, 1] (inv3 a b c) six = [(a : Int), (b : Int), (c : Int)] := by
 have h := Zv6
 unfold chk3 at h
 rw [List.all_eq_true] at h
 have h := h a (by simpa using ha)
 rw [List.all_eq_true] at h
 have h := h b (by simpa using hb)
 rw [List.all_eq_true] at h
 have h := h c (by simpa using hc)
 have e1 : (a == b) = false := by simpa using hab
 have e2 : (a == c) = false := by simpa using hac
 have e3 : (b == c) = false := by simpa using hbc
 rw [e1, e2, e3] at h
 simp only [Bool.or_self, Bool.false_or, Bool.and_eq_true, decide_eq_true_iff, beq_iff_eq] at h
 exact h
def asgM : List Int → List Int → List Int → List Int
 | u :: L, v :: p, acc => asgM L p (acc.set u.toNat v)
 | _, _, acc => acc
theorem ZsR : ∀ (L p acc : List Int), (asgM L p acc).length = acc.length
 | [], _, _ => by simp [asgM]
 | _ :: _, [], _ => by simp [asgM]
 | u :: L, v :: p, acc => by rw [asgM, ZsR L p]; simp
theorem Zqq : ∀ (L p acc : List Int) {x : Nat}, (∀ u ∈ L, u.toNat ≠ x) → gx (asgM L p acc) x = gx acc x
 | [], _, _, _, _ => by simp [asgM]
 | _ :: _, [], _, _, _ => by simp [asgM]
 | u :: L, v :: p, acc, x, h => by
  rw [asgM, Zqq L p _ fun w hw => h w (by simp [hw]), ZgA (Ne.symm (h u (by simp)))]
theorem Zug : ∀ (L p acc : List Int), acc.length = 6 → L.Nodup → (∀ u ∈ L, 0 ≤ u ∧ u ≤ 5) → ∀ q ∈ L.zip p, gx (asgM L p acc) q.1.toNat = q.2
 | [], _, _, _, _, _, q, hq => by simp at hq
 | _ :: _, [], _, _, _, _, q, hq => by simp at hq
 | u :: L, v :: p, acc, hl, hn, hr, q, hq => by
  rw [List.nodup_cons] at hn
  rw [List.zip_cons_cons, List.mem_cons] at hq
  have hu := hr u (by simp)
  rw [asgM]
  rcases hq with rfl | hq
  ·rw [Zqq L p _ fun w hw e => hn.1 (by
    have := hr w (by simp [hw])
    have : w = u := by simp only at e; omega
    rw [← this]; exact hw), Zj2 (by rw [hl]; omega)]
  ·exact Zug L p _ (by simpa using hl) hn.2 (fun w hw => hr w (by simp [hw])) q hq
theorem Zua : ∀ (L p acc : List Int), (∀ x ∈ acc, 0 ≤ x ∧ x ≤ 5) → (∀ x ∈ p, 0 ≤ x ∧ x ≤ 5) → ∀ x ∈ asgM L p acc, 0 ≤ x ∧ x ≤ 5
 | [], _, _, h, _, x, hx => h x (by simpa [asgM] using hx)
 | _ :: _, [], _, h, _, x, hx => h x (by simpa [asgM] using hx)
 | u :: L, v :: p, acc, h, hp, x, hx => by
  rw [asgM] at hx
  refine Zua L p _ (fun y hy => ?_) (fun y hy => hp y (by simp [hy])) x hx
  rcases List.mem_or_eq_of_mem_set hy with hm | rfl
  ·exact h y hm
  ·exact hp _ (by simp)
def Zul : List Int := List.replicate 6 0
def wayM (L p : List Int) : List Int := asgM L p Zul
theorem Zt7 {L p : List Int} (hp : ∀ x ∈ p, 0 ≤ x ∧ x ≤ 5) : ZaN (wayM L p) = true :=
 ZtT (by unfold wayM; rw [ZsR]; rfl) (Zua L p _ (by intro x hx; simp [Zul] at hx; omega) hp)
def ZgJ : Nat → List Nat
 | 1 => [1]
 | 2 => [5, 1]
 | 3 => [20, 4, 1]
 | _ => []
def chsM : Nat → Nat
 | 1 => 6
 | 2 => 30
 | 3 => 120
 | _ => 1
theorem Zvh {n i : Nat} (h1 : 1 ≤ n) (h3 : n ≤ 3) (hi : i < chsM n) : (pkM (ZgJ n) i six).length = n ∧ (pkM (ZgJ n) i six).Nodup ∧ ∀ x ∈ pkM (ZgJ n) i six, 0 ≤ x ∧ x ≤ 5 := by
 have hn : n = 1 ∨ n = 2 ∨ n = 3 := by omega
 rcases hn with rfl | rfl | rfl
 ·exact ⟨rfl, ZwE i hi⟩
 ·exact ⟨rfl, Zwj i hi⟩
 ·exact ⟨rfl, ZwS i hi⟩
theorem ZvP {p : List Int} (h1 : 1 ≤ p.length) (h3 : p.length ≤ 3) (hr : ∀ x ∈ p, 0 ≤ x ∧ x ≤ 5) (hn : p.Nodup) : ∃ i, i < chsM p.length ∧ pkM (ZgJ p.length) i six = p := by
 match p, h1, h3, hr, hn with
 | [x], _, _, hr, _ =>
  obtain ⟨a, rfl⟩ := Int.eq_ofNat_of_zero_le (hr x (by simp)).1
  have := (hr _ (List.mem_singleton.2 rfl)).2
  exact ⟨a, by simp only [chsM, List.length_cons, List.length_nil]; omega, Zv9 a (by omega)⟩
 | [x, y], _, _, hr, hn =>
  have hx := hr x (by simp)
  have hy := hr y (by simp)
  obtain ⟨a, rfl⟩ := Int.eq_ofNat_of_zero_le hx.1
  obtain ⟨b, rfl⟩ := Int.eq_ofNat_of_zero_le hy.1
  have hab : a ≠ b := fun e => by subst e; simp at hn
  obtain ⟨g1, g2⟩ := ZvT a (by omega) b (by omega) hab
  exact ⟨inv2 a b, g1, g2⟩
 | [x, y, z], _, _, hr, hn =>
  have hx := hr x (by simp)
  have hy := hr y (by simp)
  have hz := hr z (by simp)
  obtain ⟨a, rfl⟩ := Int.eq_ofNat_of_zero_le hx.1
  obtain ⟨b, rfl⟩ := Int.eq_ofNat_of_zero_le hy.1
  obtain ⟨c, rfl⟩ := Int.eq_ofNat_of_zero_le hz.1
  have hab : a ≠ b := fun e => by subst e; simp at hn
  have hac : a ≠ c := fun e => by subst e; simp at hn
  have hbc : b ≠ c := fun e => by subst e; simp at hn
  obtain ⟨g1, g2⟩ := Zv7 a (by omega) b (by omega) c (by omega) hab hac hbc
  exact ⟨inv3 a b c, g1, g2⟩
 | _ :: _ :: _ :: _ :: _, _, h3, _, _ => simp at h3

theorem ZiX {n : Nat} (h : n ≤ 3) : Zb4 (n : Int) = some ((bif n == 0 then 1 else chsM n : Nat) : Int) := by
 have hn : n = 0 ∨ n = 1 ∨ n = 2 ∨ n = 3 := by omega
 rcases hn with rfl | rfl | rfl | rfl <;> rfl

theorem ZqX : Zkr 6 = some six := rfl

theorem ZuI {L : List Int} {k idx r c1 c2 : Nat} {left list : List Int} (e1 : Zb4 ((L.length : Nat) : Int) = some (c1 : Int)) (e2 : Zb4 ((k + 1 : Nat) : Int) = some (c2 : Int)) (h2 : 0 < c2) (hr : c1 / c2 = r) (hr0 : 0 < r) (hr1 : c1 ≤ 1000) (hidx : idx < r * left.length) (hleft : left.length ≤ 6) (hlist : list.length = 6) (hu : 0 ≤ gx L k ∧ gx L k ≤ 5) (hi : idx ≤ 1000) :
  Zb0 L k ((idx : Int), left, list) = some (.next (((idx % r : Nat) : Int), left.take (idx / r) ++ left.drop (idx / r + 1), list.set (gx L k).toNat (gx left (idx / r)))) := by
 have hq : idx / r < left.length := Nat.div_lt_of_lt_mul hidx
 have hq2 : idx / r ≤ idx := Nat.div_le_self _ _
 have hrr : r ≤ c1 := by rw [← hr]; exact Nat.div_le_self _ _
 have er : wr (((c1 / c2 : Nat) : Int)) = (r : Int) := by
  rw [hr]; exact ZO (by omega) (by omega)
 unfold Zb0
 rw [e1, e2]
 simp only [Option.bind_some, er, ZuR, Zsb]
 generalize idx / r = q at hq hq2 ⊢
 have eq1 : wr ((q : Nat) : Int) = (q : Int) := ZO (by omega) (by omega)
 have eq2 : wr ((q : Int) + 1) = ((q + 1 : Nat) : Int) := by rw [ZO (by omega) (by omega)]; simp
 simp only [eq1, eq2, Int.toNat_natCast]
 have ht : ((left.drop 0).take (q - 0)) = left.take q := by simp
 have hd : ((left.drop (q + 1)).take (left.length - (q + 1))) = left.drop (q + 1) := List.take_of_length_le (by simp)
 rw [Za (by omega), Za (by omega), Za ⟨by omega, by omega⟩, Za ⟨hu.1, by omega⟩, Za ⟨by omega, by omega, by omega⟩, Za ⟨by omega, by omega, by omega⟩, ht, hd, Za (by simp; omega), Za (by simp; omega)]
 rfl

theorem Zmr {b : GBlock} (h : Ze b = true) (h3 : (Zy b).length ≤ 3) {i : Nat} (hi : i < chsM (Zy b).length) : Zek b (i : Int) = some (exB (wayM (Zy b) (pkM (ZgJ (Zy b).length) i six)) b, true) := by
 have hp := Zrg h
 have hc : ZfU b = Zy b := by simp [ZfU, h]
 have hu : ∀ k, k < (Zy b).length → 0 ≤ gx (Zy b) k ∧ gx (Zy b) k ≤ 5 := fun k hk => (ZjZ.1 (ZX hk)).1
 have hpk := Zvh hp h3 hi
 have hch := ZiX h3
 have hn0 : ((Zy b).length == 0) = false := by rw [beq_eq_false_iff_ne]; omega
 rw [hn0, cond_false] at hch
 have hcount : Za3 b = some ((chsM (Zy b).length : Nat) : Int) := by
  unfold Za3
  simp only [ZV, h, Option.bind_some, Bool.not_true, cond_false, Zfh, hc, hch]
 have hle : chsM (Zy b).length ≤ 120 := by
  have hn : (Zy b).length = 1 ∨ (Zy b).length = 2 ∨ (Zy b).length = 3 := by omega
  rcases hn with e | e | e <;> rw [e] <;> decide
 have ew : wr (((chsM (Zy b).length : Nat) : Int) - 1) = ((chsM (Zy b).length : Nat) : Int) - 1 := ZO (by omega) (by omega)
 have hin : inR (i : Int) 0 (((chsM (Zy b).length : Nat) : Int) - 1) = true := ZS.2 ⟨by omega, by omega⟩
 have hloop : (lpO (Zb0 (Zy b)) (Zy b).length ((i : Int), six, List.replicate 6 (0 : Int))).map (fun s => s.2.2) = some (wayM (Zy b) (pkM (ZgJ (Zy b).length) i six)) := by
  have hst := fun (k c2 r idx : Nat) (left list : List Int) (q1 : Zb4 ((k + 1 : Nat) : Int) = some (c2 : Int)) (q2 : 0 < c2) (q3 : chsM (Zy b).length / c2 = r) (q4 : 0 < r) (q5 : idx < r * left.length) (q6 : left.length ≤ 6) (q7 : list.length = 6) (q8 : k < (Zy b).length) (q9 : idx ≤ 1000) => ZuI (L := Zy b) (k := k) (idx := idx) (r := r) (c1 := chsM (Zy b).length) (c2 := c2) (left := left) (list := list) hch q1 q2 q3 q4 (by omega) q5 q6 q7 (hu k q8) q9
  have hn : (Zy b).length = 1 ∨ (Zy b).length = 2 ∨ (Zy b).length = 3 := by omega
  generalize hL : Zy b = L at hn hst hi ⊢
  rcases hn with e | e | e
  ·obtain ⟨u, rfl⟩ : ∃ u, L = [u] := by
    match L, e with
    | [u], _ => exact ⟨u, rfl⟩
   have hi6 : i < 6 := hi
   have s0 := hst 0 6 1 i six (List.replicate 6 (0 : Int)) rfl (by omega) (by simp [chsM]) (by omega) (by simp [six]; omega) (by simp [six]) (by simp) (by simp) (by omega)
   unfold lpO
   rw [show ([u] : List Int).length = 0 + 1 from rfl, forO, s0]
   rfl
  ·obtain ⟨u, v, rfl⟩ : ∃ u v, L = [u, v] := by
    match L, e with
    | [u, v], _ => exact ⟨u, v, rfl⟩
   have hi6 : i < 30 := hi
   have s0 := hst 0 6 5 i six (List.replicate 6 (0 : Int)) rfl (by omega) (by simp [chsM]) (by omega) (by simp [six]; omega) (by simp [six]) (by simp) (by simp) (by omega)
   have l1 : (six.take (i / 5) ++ six.drop (i / 5 + 1)).length = 5 := by simp [six]; omega
   have s1 := hst 1 30 1 (i % 5) (six.take (i / 5) ++ six.drop (i / 5 + 1)) ((List.replicate 6 (0 : Int)).set (gx [u, v] 0).toNat (gx six (i / 5))) rfl (by omega) (by simp [chsM]) (by omega) (by rw [l1]; omega) (by rw [l1]; omega) (by simp) (by simp) (by omega)
   unfold lpO
   rw [show ([u, v] : List Int).length = 1 + 1 from rfl, forO, s0]
   simp only [Option.bind_some]
   rw [forO, s1]
   rfl
  ·obtain ⟨u, v, w, rfl⟩ : ∃ u v w, L = [u, v, w] := by
    match L, e with
    | [u, v, w], _ => exact ⟨u, v, w, rfl⟩
   have hi6 : i < 120 := hi
   have s0 := hst 0 6 20 i six (List.replicate 6 (0 : Int)) rfl (by omega) (by simp [chsM]) (by omega) (by simp [six]; omega) (by simp [six]) (by simp) (by simp) (by omega)
   have l1 : (six.take (i / 20) ++ six.drop (i / 20 + 1)).length = 5 := by simp [six]; omega
   have s1 := hst 1 30 4 (i % 20) (six.take (i / 20) ++ six.drop (i / 20 + 1)) ((List.replicate 6 (0 : Int)).set (gx [u, v, w] 0).toNat (gx six (i / 20))) rfl (by omega) (by simp [chsM]) (by omega) (by rw [l1]; omega) (by rw [l1]; omega) (by simp) (by simp) (by omega)
   generalize hl1 : six.take (i / 20) ++ six.drop (i / 20 + 1) = left1 at l1 s0 s1
   have l2 : (left1.take (i % 20 / 4) ++ left1.drop (i % 20 / 4 + 1)).length = 4 := by simp; omega
   have s2 := hst 2 120 1 (i % 20 % 4) (left1.take (i % 20 / 4) ++ left1.drop (i % 20 / 4 + 1)) (((List.replicate 6 (0 : Int)).set (gx [u, v, w] 0).toNat (gx six (i / 20))).set (gx [u, v, w] 1).toNat (gx left1 (i % 20 / 4))) rfl (by omega) (by simp [chsM]) (by omega) (by rw [l2]; omega) (by rw [l2]; omega) (by simp) (by simp) (by omega)
   unfold lpO
   rw [show ([u, v, w] : List Int).length = 2 + 1 from rfl, forO, s0]
   simp only [Option.bind_some]
   rw [forO, s1]
   simp only [Option.bind_some]
   rw [forO, s2]
   subst hl1
   rfl
 cases hl : lpO (Zb0 (Zy b)) (Zy b).length ((i : Int), six, List.replicate 6 (0 : Int)) with
 | none => rw [hl] at hloop; cases hloop
 | some e =>
  rw [hl] at hloop
  have hz : e.2.2 = wayM (Zy b) (pkM (ZgJ (Zy b).length) i six) := Option.some.inj hloop
  have hw := Zt7 (L := Zy b) hpk.2.2
  have hwl := (ZfY hw).1
  unfold Zek
  rw [hcount]
  simp only [Option.bind_some, ZaT, ew, hin, Bool.not_true, cond_false, Zfh, hc, ZqX]
  rw [Za (by omega), hl]
  simp only [Option.bind_some, hz]
  rw [ZhQ (Zdq h).1 (by omega), ZwH h hw]
  rfl

def ZgK (b d : GBlock) : Int := bif Zdr b d && decide ((Zy d).length ≤ 3) then mx 8 (fun k => Zc0 (TM b (Z3 d (k : Int))) (Zy d) []) else 0
theorem Zs8 {L p : List Int} (h : p.length = L.length) : (L.zip p).map Prod.fst = L := by
 rw [List.map_fst_zip (by omega)]
theorem ZrQ {b d : GBlock} (h : Zdr b d = true) {k : Nat} (hk : k < 8) {p : List Int} (hl : p.length = (Zy d).length) (hr : ∀ x ∈ p, 0 ≤ x ∧ x ≤ 5) : ZiH b (Z3 (exB (wayM (Zy d) p) d) (k : Int)) = sumP ((Zy d).zip p) (TM b (Z3 d (k : Int))) := by
 obtain ⟨h1, h2, h3, h4⟩ := Zis h
 have hw := Zt7 (L := Zy d) hr
 rw [ZqK h2 hw hk]
 refine ZqQ (Zml h hk) hw (by rw [Zs8 hl]; exact ZoZ d) (fun i hi s => by rw [Zs8 hl]; exact Zsp h2 hk hi s) ?_
 exact Zug _ _ _ rfl (ZoZ d) fun u hu => (ZjZ.1 hu).1

theorem Zj8 (b d : GBlock) : Zb3 b d = some (ZgK b d) := by
 unfold Zb3 ZgK
 simp only [Zop, ZqO, Option.bind_some]
 cases h : Zdr b d
 ·rfl
 obtain ⟨h1, h2, h3, h4⟩ := Zis h
 have hc : ZfU d = Zy d := by simp [ZfU, h2]
 rw [hc]
 by_cases hn : (Zy d).length ≤ 3
 ·have hd : decide (((Zy d).length : Int) > 3) = false := by simp; omega
  have hd' : decide ((Zy d).length ≤ 3) = true := by simpa using hn
  simp only [hd, hd', Bool.not_true, cond_false, Option.bind_some, Bool.and_self, cond_true]
  rw [ZrA (f := Zcs b d (Zy d)) (fun k => Zc0 (TM b (Z3 d (k : Int))) (Zy d) []) (fun k s hk => by
   have hb := Zkk (T := TM b (Z3 d (k : Int))) (fun u v => Zrq h4 u v) hn (fun u hu => (ZjZ.1 hu).1) (Zy d).length 0 [] (by omega) rfl (by simp)
   simp only [List.drop_zero] at hb
   simp only [Zcs, ZjT, Zn7 (Zml h hk), Option.bind_some]
   rw [show (0 : Int) = ((0 : Nat) : Int) from rfl, show Zcb ((Zy d).length + 1) (Zd4 fun u v => TM b (Z3 d (k : Int)) (u : Int) (v : Int)) (Zy d) ((0 : Nat) : Int) ((0 : Nat) : Int) = _ from hb]
   rfl)]
  rfl
 ·have hd : decide (((Zy d).length : Int) > 3) = true := by simp; omega
  have hd' : decide ((Zy d).length ≤ 3) = false := by simpa using hn
  simp [hd, hd']

theorem Zj9 (b d : GBlock) : Zb5 b d = some (ZgK b d) := by
 unfold Zb5 ZgK
 simp only [Zhh, Zfh, Option.bind_some]
 cases h : Zdr b d
 ·rfl
 obtain ⟨h1, h2, h3, h4⟩ := Zis h
 have hc : ZfU d = Zy d := by simp [ZfU, h2]
 rw [hc]
 by_cases hn : (Zy d).length ≤ 3
 ·have hd : decide (((Zy d).length : Int) > 3) = false := by simp; omega
  have hd' : decide ((Zy d).length ≤ 3) = true := by simpa using hn
  have hp := Zrg h2
  have hch := ZiX hn
  have hn0 : ((Zy d).length == 0) = false := by rw [beq_eq_false_iff_ne]; omega
  rw [hn0, cond_false] at hch
  have hcount : Za3 d = some ((chsM (Zy d).length : Nat) : Int) := by
   unfold Za3
   simp only [ZV, h2, Option.bind_some, Bool.not_true, cond_false, Zfh, hc, hch]
  have hle : chsM (Zy d).length ≤ 120 := by
   have hn : (Zy d).length = 1 ∨ (Zy d).length = 2 ∨ (Zy d).length = 3 := by omega
   rcases hn with e | e | e <;> rw [e] <;> decide
  simp only [hd, hd', Bool.not_true, cond_false, Option.bind_some, Bool.and_self, cond_true, hcount, Int.toNat_natCast]
  rw [Za (by omega), ZrA (f := Zct b d) (fun i => mx 8 fun k => ZiH b (Z3 (exB (wayM (Zy d) (pkM (ZgJ (Zy d).length) i six)) d) (k : Int))) (fun i s hi => by
   have hpr : Zdr b (exB (wayM (Zy d) (pkM (ZgJ (Zy d).length) i six)) d) = true := by
    have := h
    simp only [Zdr, Bool.and_eq_true] at this ⊢
    exact ⟨⟨h1, ZoP h2 _⟩, this.2⟩
   simp only [Zct, Zmr h2 hn hi, ZlQ hpr, Option.bind_some]
   rfl)]
  simp only [Option.bind_some]
  congr 1
  apply Int.le_antisymm
  ·refine Zlm (Zkm _ _) fun i hi => Zlm (Zkm _ _) fun k hk => ?_
   obtain ⟨p1, p2, p3⟩ := Zvh hp hn hi
   rw [ZrQ h hk p1 p3]
   exact Int.le_trans (Zs3 (T := TM b (Z3 d (k : Int))) (Zy d) [] _ p1 p3 p2 (by simp)) (Zrc (g := fun k : Nat => Zc0 (TM b (Z3 d (k : Int))) (Zy d) []) hk)
  ·refine Zlm (Zkm _ _) fun k hk => ?_
   obtain ⟨p, p1, p2, p3, p4, p5⟩ := Zrt (T := TM b (Z3 d (k : Int))) (fun u v => (Zrq h4 u v).1) (Zy d) [] (by simpa using hn)
   obtain ⟨i, hi, hip⟩ := ZvP (p := p) (by omega) (by omega) p2 p3
   rw [p1] at hi hip
   refine Int.le_trans p5 ?_
   rw [← ZrQ h hk p1 p2, ← hip]
   exact Int.le_trans (Zrc (g := fun k : Nat => ZiH b (Z3 (exB (wayM (Zy d) (pkM (ZgJ (Zy d).length) i six)) d) (k : Int))) hk) (Zrc (g := fun i => mx 8 fun k => ZiH b (Z3 (exB (wayM (Zy d) (pkM (ZgJ (Zy d).length) i six)) d) (k : Int))) hi)
 ·have hd : decide (((Zy d).length : Int) > 3) = true := by simp; omega
  have hd' : decide ((Zy d).length ≤ 3) = false := by simpa using hn
  simp [hd, hd']

theorem ZjR : ∀ l : List UInt8, Op.bytesLess l l = false
 | [] => rfl
 | x :: l => by
  have := ZjR l
  simp [Op.bytesLess, this]
theorem ZtD (s : Str) : slt s s = false := ZjR _
def lstM (F : Nat → GBlock) : Nat → GBlock
 | 0 => F 0
 | n + 1 => bif slt (ZdU (F (n + 1))) (ZdU (lstM F n)) then F (n + 1) else lstM F n
def ixM (F : Nat → GBlock) : Nat → Nat
 | 0 => 0
 | k + 1 => bif slt (ZdU (F k)) (ZdU (F (ixM F k))) then k else ixM F k
theorem Zus (F : Nat → GBlock) : ∀ k, F (ixM F (k + 1)) = lstM F k
 | 0 => by
  have : slt (ZdU (F 0)) (ZdU (F 0)) = false := ZtD _
  simp [ixM, lstM, this]
 | k + 1 => by
  have ih := Zus F k
  rw [ixM, lstM, ih]
  cases slt (ZdU (F (k + 1))) (ZdU (lstM F k))
  ·exact ih
  ·rfl
theorem ZrE (F : Nat → GBlock) : ∀ k, ixM F k ≤ k
 | 0 => Nat.le_refl _
 | k + 1 => by
  have := ZrE F k
  unfold ixM
  cases slt (ZdU (F k)) (ZdU (F (ixM F k))) <;> simp <;> omega
theorem ZqI {F G : Nat → GBlock} : ∀ {n : Nat}, (∀ k, k ≤ n → F k = G k) → lstM F n = lstM G n
 | 0, h => h 0 (Nat.le_refl _)
 | n + 1, h => by rw [lstM, lstM, ZqI (n := n) fun k hk => h k (by omega), h (n + 1) (Nat.le_refl _)]
theorem Zrj (F : Nat → GBlock) : ∀ n, ∃ k, k ≤ n ∧ lstM F n = F k
 | 0 => ⟨0, Nat.le_refl _, rfl⟩
 | n + 1 => by
  obtain ⟨k, hk, e⟩ := Zrj F n
  unfold lstM
  cases slt (ZdU (F (n + 1))) (ZdU (lstM F n))
  ·exact ⟨k, by omega, e⟩
  ·exact ⟨n + 1, Nat.le_refl _, rfl⟩

theorem ZhZ {a : Int} (h0 : 0 ≤ a) (h1 : a ≤ 5) : ZcA a = some ⟨[digM a]⟩ := by
 unfold ZcA strconv_Itoa
 rw [Za ⟨h0, by omega⟩]
 rfl

theorem ZjO {c : GCell} (h : Zm c = true) : Zeb c = some ⟨Z9 c⟩ := by
 obtain ⟨h1, h2, h3, h4, h5, h6, h7⟩ := ZaW h
 have hs : c.Split = 0 ∨ c.Split = 1 ∨ c.Split = 2 := by omega
 unfold Zeb Z9
 simp only [ZbC, h, ZhZ h3 h4, ZhZ h5 h6, Option.bind_some, Bool.not_true, cond_false]
 rcases hs with e | e | e <;> rw [e]
 ·rfl
 ·rfl
 ·rfl

theorem ZkM {b : GBlock} (h : Ze b = true) : Zf4 b = some (ZdU b) := by
 obtain ⟨n, hn, h1, h2, hl, hc⟩ := Zs h
 have hnn : n * n ≤ 4 * 4 := Nat.mul_le_mul h2 h2
 unfold Zf4
 simp only [ZV, h, Option.bind_some, Bool.not_true, cond_false]
 rw [Za (by omega), ZaL (f := ZgX b) (s0 := (⟨[]⟩ : Str)) (fun k => (⟨Zej (b.Cells.take k)⟩ : Str)) rfl (fun k hk => by
  have hx := hc _ (ZX hk)
  have hlen := ZlU (b.Cells.take k)
  have hlen2 : (b.Cells.take k).length ≤ 16 := by simp; omega
  have hlen3 := ZjW (gx b.Cells k)
  simp only [ZgX, Option.bind_some, ZjO hx]
  rw [Za (by simp only [List.length_cons, List.length_nil]; omega), Za (by simp only [sadd, List.length_append, List.length_cons, List.length_nil]; omega)]
  rw [List.take_succ_eq_append_getElem hk, ← Zbm hk]
  simp [sadd, Zej])]
 simp [ZdU, h]

theorem ZqM {l : List GBlock} (h0 : 0 < l.length) (hl : l.length ≤ 1000) (hok : ∀ k, k < l.length → Ze (gx l k) = true) : Zh3 l = some (lstM (gx l) (l.length - 1)) := by
 unfold Zh3
 rw [Za h0, Za (by omega), ZaL (f := Zhx l) (s0 := 0) (ixM (gx l)) rfl (fun k hk => by
  have hi := ZrE (gx l) k
  unfold Zhx
  rw [Za (by omega), ZkM (hok k hk), ZkM (hok _ (by omega))]
  simp only [Option.bind_some]
  rfl)]
 have hi : ixM (gx l) l.length < l.length := by
  obtain ⟨n, hn⟩ : ∃ n, l.length = n + 1 := ⟨l.length - 1, by omega⟩
  rw [hn]
  unfold ixM
  have := ZrE (gx l) n
  cases slt (ZdU (gx l n)) (ZdU (gx l (ixM (gx l) n))) <;> simp <;> omega
 simp only [Option.bind_some]
 rw [Za hi]
 obtain ⟨n, hn⟩ : ∃ n, l.length = n + 1 := ⟨l.length - 1, by omega⟩
 rw [hn, Zus (gx l) n]
 rfl

theorem ZtH {b : GBlock} (h : Ze b = true) : Z3 b ((0 : Nat) : Int) = b := by
 unfold Z3
 rw [h]
 rfl
def Zjq (b : GBlock) : GBlock := bif Ze b then lstM (fun k => ZbL (Z3 b (k : Int))) 7 else ⟨0, []⟩
theorem ZsI {b : GBlock} (h : Ze b = true) : Ze (Zjq b) = true ∧ (Zjq b).Size = b.Size := by
 unfold Zjq
 rw [h, cond_true]
 obtain ⟨k, hk, e⟩ := Zrj (fun k => ZbL (Z3 b (k : Int))) 7
 rw [e]
 obtain ⟨v1, v2⟩ := Zjz h (k := k) (by omega)
 obtain ⟨p1, p2⟩ := ZlR v1
 exact ⟨p1, by rw [p2, v2]⟩

theorem ZlD (b : GBlock) : Zcm b = some (Zjq b) := by
 unfold Zcm Zjq
 simp only [Z5, Option.bind_some]
 cases h : Ze b
 ·rfl
 simp only [Bool.not_true, cond_false, cond_true, ZjF h, Option.bind_some]
 rw [ZaL (f := Zdt b) (s0 := ((ZbL b).Size, (ZbL b).Cells)) (fun k => ((lstM (fun k => ZbL (Z3 b (k : Int))) k).Size, (lstM (fun k => ZbL (Z3 b (k : Int))) k).Cells)) (by rw [lstM, ZtH h]) (fun k hk => by
  have hv := (Zjz h (k := k + 1) (by omega)).1
  have hp := (ZlR hv).1
  have hb : Ze (lstM (fun k => ZbL (Z3 b (k : Int))) k) = true := by
   obtain ⟨j, hj, e⟩ := Zrj (fun k => ZbL (Z3 b (k : Int))) k
   rw [e]; exact (ZlR (Zjz h (by omega)).1).1
  simp only [Zdt, ZjT, ZjF hv, ZkW hp, Option.bind_some]
  rw [show Zep (GBlock.mk (lstM (fun k => ZbL (Z3 b (k : Int))) k).Size (lstM (fun k => ZbL (Z3 b (k : Int))) k).Cells) = _ from ZkW hb]
  rfl)]
 rfl

theorem Zlk (b : GBlock) : Zck b = some (Zjq b) := by
 unfold Zck Zjq
 simp only [ZV, Option.bind_some]
 cases h : Ze b
 ·rfl
 simp only [Bool.not_true, cond_false, cond_true, Zl0, Option.bind_some, Zqv]
 rw [Za (by omega), ZbH (f := Zdn (Zk2 b)) (xs := []) (fun k : Nat => ZbL (Z3 b (k : Int))) (fun k s hk hs => by
  unfold Zdn
  rw [Zrp _ hk, ZqT (Zjz h hk).1]
  simp only [Option.bind_some]
  rw [Za (by simp at hs; omega)])]
 have hl : (([] : List GBlock) ++ (List.range 8).map fun k : Nat => ZbL (Z3 b (k : Int))).length = 8 := by simp
 have hg : ∀ k, k < 8 → gx (([] : List GBlock) ++ (List.range 8).map fun k : Nat => ZbL (Z3 b (k : Int))) k = ZbL (Z3 b (k : Int)) := fun k hk => by
  rw [List.nil_append]; exact ZdI _ hk
 simp only [Option.bind_some]
 rw [ZqM (by rw [hl]; omega) (by rw [hl]; omega) (fun k hk => by
  rw [hl] at hk
  rw [hg k hk]; exact (ZlR (Zjz h hk).1).1), hl]
 simp only [Option.bind_some]
 rw [ZqI (G := fun k => ZbL (Z3 b (k : Int))) fun k hk => hg k (by omega)]

def Zgy (b d : GBlock) : Bool := Ze b && Ze d && Zh0 (Zjq b) (Zjq d)

theorem Zj6 (b d : GBlock) : Zcd b d = some (Zgy b d) := by
 unfold Zcd Zgy
 simp only [Z5, ZlD, Option.bind_some]
 cases hb : Ze b
 ·rfl
 cases hd : Ze d
 ·rfl
 simp only [cond_true, Znq (Zdq (ZsI hb).1).1, Option.bind_some, Bool.true_and]

theorem Zj5 (b d : GBlock) : Zb6 b d = some (Zgy b d) := by
 unfold Zb6 Zgy
 simp only [ZV, Zlk, Option.bind_some]
 cases hb : Ze b
 ·rfl
 cases hd : Ze d
 ·rfl
 simp only [cond_true, Zns (Zdq (ZsI hb).1).1, Option.bind_some, Bool.true_and]

def Zeq (e f : GEntry) : Int := bif !ZfI e || !ZfI f || e.Block.Size != f.Block.Size then 0 else bif Zgy e.Block f.Block then 3 else bif decide (wr (10 * ZgK e.Block f.Block) ≥ wr (36 * (e.Block.Cells.length : Int))) then 2 else 1
theorem ZqS (e f : GEntry) : Zeq e f = 0 ∨ Zeq e f = 1 ∨ Zeq e f = 2 ∨ Zeq e f = 3 := by
 unfold Zeq
 cases !ZfI e || !ZfI f || e.Block.Size != f.Block.Size
 ·cases Zgy e.Block f.Block
  ·cases decide (wr (10 * ZgK e.Block f.Block) ≥ wr (36 * (e.Block.Cells.length : Int))) <;> simp
  ·simp
 ·simp

theorem Znh (e f : GEntry) : Ze2 e f = some (Zeq e f) := by
 unfold Ze2 Zeq
 simp only [Zoo, Zj6, Zj8, Option.bind_some]
 cases ZfI e
 ·rfl
 cases ZfI f
 ·rfl
 cases e.Block.Size != f.Block.Size
 ·simp only [Bool.not_true, cond_false, Option.bind_some, Bool.or_self]
  cases Zgy e.Block f.Block
  ·cases decide (wr (10 * ZgK e.Block f.Block) ≥ wr (36 * (e.Block.Cells.length : Int))) <;> rfl
  ·rfl
 ·rfl

theorem ZnA (e f : GEntry) : ZeF e f = some (Zeq e f) := by
 unfold ZeF Zeq
 simp only [Zn5, Zj5, Zj9, Option.bind_some]
 cases ZfI e
 ·rfl
 cases ZfI f
 ·rfl
 cases e.Block.Size != f.Block.Size
 ·simp only [Bool.not_true, cond_false, Option.bind_some, Bool.or_self]
  cases Zgy e.Block f.Block
  ·cases decide (wr (10 * ZgK e.Block f.Block) ≥ wr (36 * (e.Block.Cells.length : Int))) <;> rfl
  ·rfl
 ·rfl

def Zfe (e f : GEntry) : Bool := (e.Owner != f.Owner) && decide (e.Day > f.Day) && decide (Zeq e f ≥ 2)

theorem Zqf (e f : GEntry) : Zhs e f = some (Zfe e f) := by
 unfold Zhs Zfe
 simp only [Znh, Option.bind_some]
 rcases ZqS e f with h | h | h | h <;> rw [h] <;> cases e.Owner != f.Owner <;> cases decide (e.Day > f.Day) <;> rfl

theorem Zqa (e f : GEntry) : Zf0 e f = some (Zfe e f) := by
 unfold Zf0 Zfe
 simp only [ZnA, Option.bind_some]
 cases e.Owner != f.Owner <;> cases decide (e.Day > f.Day) <;> simp

def Zj3 (g : GGuild) (n d : Int) (b : GBlock) (w : GGuild × Bool) : Prop := (∀ k, k < g.Entries.length → Zfe ⟨n, d, b⟩ (gx g.Entries k) = false) ∧ w = ((⟨g.Members, g.Stock, g.Entries ++ [⟨n, d, b⟩], g.Books, g.Round, g.Year⟩ : GGuild), true) ∧ Zn w.1 = true
theorem ZqF (g : GGuild) (n d : Int) (b : GBlock) (h : Sm.ok g) (hb : Sm.ok b) : ∃ w, Zf2 g n d b = some w ∧ Zhl g n d b = some w ∧ Sm.ok w.1 ∧ (w = (g, false) ∨ Zj3 g n d b w) := by
 have hgl := Zei h
 have hel : g.Entries.length ≤ 1048576 := h.2.2.1.1
 have hn : GL (⟨g.Members, g.Stock, g.Entries ++ [⟨n, d, b⟩], g.Books, g.Round, g.Year⟩ : GGuild) := ⟨hgl.1, hgl.2.1, by simp only [List.length_append, List.length_cons, List.length_nil]; omega, hgl.2.2.2⟩
 have hloop : ∀ f : Nat → Unit → Option (Res Unit (GGuild × Bool)), (∀ k, k < g.Entries.length → f k () = some (bif Zfe ⟨n, d, b⟩ (gx g.Entries k) then .ret (g, false) else .next ())) → forO f g.Entries.length 0 () = some (bif (List.range g.Entries.length).all (fun k => !Zfe ⟨n, d, b⟩ (gx g.Entries k)) then .inl () else .inr (g, false)) := fun f hf =>
  Zbg (f := f) (fun k => !Zfe ⟨n, d, b⟩ (gx g.Entries k)) fun k hk => by
   rw [hf k hk]
   cases Zfe ⟨n, d, b⟩ (gx g.Entries k) <;> rfl
 unfold Zf2 Zhl
 simp only [ZcW h, Zkc hb, Zau h, Zh2 hb, Zaq g hgl, ZbG g hgl, Option.bind_some]
 cases hg : Zn g
 ·exact ⟨(g, false), rfl, rfl, h, .inl rfl⟩
 simp only [Bool.not_true, cond_false]
 rw [Za (p := g.Entries.length ≤ 4611686018427387904) (by omega), Za (p := g.Entries.length ≤ 4611686018427387904) (by omega), hloop (ZgR g n d g b) (fun k hk => by
  simp only [ZgR, Zqf, Option.bind_some]
  cases Zfe ⟨n, d, b⟩ (gx g.Entries k) <;> rfl), hloop (ZgU g n d g b) (fun k hk => by
  have e : Zf0 ⟨n, d, b⟩ ⟨(gx g.Entries k).Owner, (gx g.Entries k).Day, (gx g.Entries k).Block⟩ = some (Zfe ⟨n, d, b⟩ (gx g.Entries k)) := Zqa _ _
  simp only [ZgU, e, Option.bind_some]
  cases Zfe ⟨n, d, b⟩ (gx g.Entries k) <;> rfl)]
 cases hall : (List.range g.Entries.length).all fun k => !Zfe ⟨n, d, b⟩ (gx g.Entries k)
 ·exact ⟨(g, false), rfl, rfl, h, .inl rfl⟩
 simp only [cond_true, ZdR]
 rw [Za (by omega), Za (by omega)]
 simp only [Zaq _ hn, Zgr h hn, hg, Option.bind_some]
 cases hx : Zn (⟨g.Members, g.Stock, g.Entries ++ [⟨n, d, b⟩], g.Books, g.Round, g.Year⟩ : GGuild)
 ·exact ⟨(g, false), rfl, rfl, h, .inl rfl⟩
 ·refine ⟨_, rfl, rfl, ZcQ hx, .inr ⟨fun k hk => ?_, rfl, hx⟩⟩
  rw [List.all_eq_true] at hall
  have := hall k (by simpa using hk)
  simpa using this

def ZM (a : GAct) : Bool := bif a.Kind == 1 then inR a.A 1 999 && (a.B == 0) else bif a.Kind == 2 then inR a.A 1 999 && inR a.B 0 9 else bif a.Kind == 3 || a.Kind == 6 then inR a.A 0 9 && (a.B == 0) else bif a.Kind == 4 || a.Kind == 5 then (a.A == 0) && (a.B == 0) else false

theorem Zl2 (a : GAct) : Zjf a = some (ZM a) := by
 unfold Zjf ZM
 simp only [Zbn, Option.bind_some]
 cases a.Kind == 1
 ·cases a.Kind == 2
  ·cases a.Kind == 3 || a.Kind == 6
   ·cases a.Kind == 4 || a.Kind == 5 <;> rfl
   ·cases inR a.A 0 9 <;> rfl
  ·cases inR a.A 1 999 <;> rfl
 ·cases inR a.A 1 999 <;> rfl

theorem ZlW (a : GAct) : ZgV a = some (ZM a) := by
 unfold ZgV ZM
 simp only [ZaT, Option.bind_some]
 cases a.Kind == 1
 ·cases a.Kind == 2
  ·cases a.Kind == 3 || a.Kind == 6
   ·cases a.Kind == 4 <;> cases a.Kind == 5 <;> rfl
   ·cases inR a.A 0 9 <;> rfl
  ·cases inR a.A 1 999 <;> rfl
 ·cases inR a.A 1 999 <;> rfl

def Zg7 (st need : List Int) : List Int := tab6 fun a => if gx need a - gx st a > 0 then gx need a - gx st a else 0

theorem Zp4 {st need : List Int} (h1 : Zac st = true) (h2 : Zac need = true) : ZkG st need = some (Zg7 st need) := by
 obtain ⟨l1, b1⟩ := Ze7 h1
 obtain ⟨l2, b2⟩ := Ze7 h2
 unfold ZkG
 rw [ZbH (f := Zix st need) (xs := []) (fun a : Nat => if gx need a - gx st a > 0 then gx need a - gx st a else 0) (fun k s hk hs => by
  have c1 := b1 k hk
  have c2 := b2 k hk
  simp only [Zix, Zeg st (show st.length ≤ 4611686018427387904 by omega), Zeg need (show need.length ≤ 4611686018427387904 by omega), h1, h2, Option.bind_some, cond_true]
  rw [Za (by omega), Za (by omega), Za (by simp at hs; omega), ZO (by omega) (by omega)])]
 rfl

theorem ZpT {st need : List Int} (h1 : Zac st = true) (h2 : Zac need = true) : Zhr st need = some (Zg7 st need) := by
 obtain ⟨l1, b1⟩ := Ze7 h1
 obtain ⟨l2, b2⟩ := Ze7 h2
 unfold Zhr
 simp only [Zgh st (show st.length ≤ 4611686018427387904 by omega), Zgh need (show need.length ≤ 4611686018427387904 by omega), h1, h2, Option.bind_some, Bool.not_true, cond_false]
 rw [Za (by omega), l1, ZbH (f := Zhb st need) (xs := []) (fun a : Nat => if gx need a - gx st a > 0 then gx need a - gx st a else 0) (fun k s hk hs => by
  have c1 := b1 k hk
  have c2 := b2 k hk
  unfold Zhb
  rw [Za (by omega), Za (by simp at hs; omega), ZO (by omega) (by omega)]
  congr 4
  by_cases hx : gx need k - gx st k > 0
  ·have : ¬ 0 > gx need k - gx st k := by omega
   rw [if_pos hx, if_neg this]
  ·by_cases hy : 0 > gx need k - gx st k
   ·rw [if_neg hx, if_pos hy]
   ·rw [if_neg hx, if_neg hy]
    omega)]
 rfl

theorem ZrZ {st : List Int} (h1 : Zac st = true) {b : GBlock} {f : Nat → Int → Option (Res Int Empty)} (hf : ∀ k s, f k s = some (.next (wr (s + gx (Zg7 st (tab6 fun a => Zaf b a)) k)))) : lpO f (Zg7 st (tab6 fun a => Zaf b a)).length 0 = some (sumN 6 fun a => gx (Zg7 st (tab6 fun a => Zaf b a)) a) := by
 obtain ⟨l1, b1⟩ := Ze7 h1
 have hb : ∀ a, a < 6 → 0 ≤ gx (Zg7 st (tab6 fun a => Zaf b a)) a ∧ gx (Zg7 st (tab6 fun a => Zaf b a)) a ≤ 64 := fun a ha => by
  have c1 := b1 a ha
  have c2 := Zlr b (a : Int)
  unfold Zg7
  rw [ZeW _ ha, ZeW _ ha]
  split <;> omega
 have hl : (Zg7 st (tab6 fun a => Zaf b a)).length = 6 := ZdG _
 rw [hl, Zla (f := f) (fun a => gx (Zg7 st (tab6 fun a => Zaf b a)) a) (s0 := 0) (B := 64) (fun k s hk h0 h2 => by
  have := hb k hk
  rw [hf, ZO (by omega) (by omega)]) (fun k hk => hb k hk) (by omega) (by omega) (by omega)]
 simp [sumN]

def DoTo (g : GGuild) (a : GAct) (w : GGuild × Int) : Prop :=
 (w.1 = g ∧ (w.2 = 1 → a.Kind = 6)) ∨ (a.Kind = 1 ∧ w.2 = 1 ∧ Zk9 g a.A (w.1, true)) ∨ (a.Kind = 2 ∧ w.2 = 1 ∧ ∃ d b, Zj3 g a.A d b (w.1, true)) ∨ (a.Kind = 3 ∧ w.2 = 1 ∧ Zq7 g a.A (w.1, true)) ∨ (a.Kind = 4 ∧ w.2 = 1 ∧ w.1 = (⟨g.Members, g.Stock, g.Entries, g.Books, wr (g.Round + 1), g.Year⟩ : GGuild) ∧ Zn w.1 = true) ∨ (a.Kind = 5 ∧ w.2 = 1 ∧ w.1 = (⟨g.Members, g.Stock, g.Entries, g.Books, 0, wr (g.Year + 1)⟩ : GGuild) ∧ Zn w.1 = true)
theorem ZuQ (g : GGuild) (a : GAct) (h : Sm.ok g) : ∃ w, Zh1 g a = some w ∧ ZcP g a = some w ∧ Sm.ok w.1 ∧ DoTo g a w := by
 have hgl := Zei h
 unfold Zh1 ZcP
 simp only [ZcW h, Zau h, Zaq g hgl, ZbG g hgl, Zl2, ZlW, Option.bind_some]
 cases hg : Zn g
 ·exact ⟨(g, -1), rfl, rfl, h, .inl ⟨rfl, fun e => by simp at e⟩⟩
 cases ha : ZM a
 ·exact ⟨(g, -1), rfl, rfl, h, .inl ⟨rfl, fun e => by simp at e⟩⟩
 simp only [Bool.not_true, cond_false, Option.bind_some]
 have fin : ∀ (P : GGuild × Bool → Prop) (w : GGuild × Bool), Sm.ok w.1 → (w = (g, false) ∨ P w) → (∀ w, P w → w.2 = true ∧ DoTo g a (w.1, 1)) → ∃ v : GGuild × Int, ((ZjS w.2).bind fun v12 => some (w.1, v12)) = some v ∧ (bif w.2 then some (w.1, (1 : Int)) else some (w.1, (0 : Int))) = some v ∧ Sm.ok v.1 ∧ DoTo g a v := fun P w hw hor hP => by
  unfold ZjS
  rcases hor with rfl | hp
  ·exact ⟨(g, 0), rfl, rfl, hw, .inl ⟨rfl, fun e => by simp at e⟩⟩
  ·obtain ⟨p1, p2⟩ := hP w hp
   rw [p1]
   exact ⟨(w.1, 1), rfl, rfl, hw, p2⟩
 have kk : ∀ n : Int, (a.Kind == n) = true → a.Kind = n := fun n e => by simpa using e
 cases k1 : a.Kind == 1
 ·cases k2 : a.Kind == 2
  ·cases k3 : a.Kind == 3
   ·cases k4 : a.Kind == 4
    ·cases k5 : a.Kind == 5
     ·cases k6 : a.Kind == 6
      ·exfalso
       unfold ZM at ha
       rw [k1, k2, k3, k4, k5, k6] at ha
       cases ha
      ·have hA : 0 ≤ a.A ∧ a.A ≤ 9 := by
        unfold ZM at ha
        rw [k1, k2, k3, k6] at ha
        simp only [cond_false, Bool.or_true, cond_true, Bool.and_eq_true, ZS] at ha
        exact ha.1
       obtain ⟨_, hst, _, hel, hbo⟩ := Zeo hg
       have ew : wr ((g.Entries.length : Int) - 1) = (g.Entries.length : Int) - 1 := ZO (by omega) (by omega)
       simp only [cond_false, cond_true, ZhP, ZaT, ew, Option.bind_some]
       by_cases hlt : a.A < (g.Entries.length : Int)
       ·have hd : decide (a.A < (g.Entries.length : Int)) = true := by simpa using hlt
        have hin : inR a.A 0 ((g.Entries.length : Int) - 1) = true := ZS.2 ⟨by omega, by omega⟩
        have hb := hbo a.A.toNat (by omega)
        simp only [hd, hin, Bool.not_true, cond_false, cond_true, Zjd, Zjc, Zk7, hb, Option.bind_some]
        generalize (gx g.Entries a.A.toNat).Block = b at hb
        have hts : Zac (tab6 fun x => Zaf b x) = true := Zkb fun x _ => by have := Zlr b (x : Int); omega
        rw [Za ⟨by omega, by omega⟩, Za ⟨by omega, by omega⟩, Zp4 hst hts, ZpT hst hts]
        simp only [Option.bind_some]
        have hl : (Zg7 g.Stock (tab6 fun x => Zaf b x)).length = 6 := ZdG _
        rw [Za (by omega), Za (by omega), ZrZ hst (f := ZlT (Zg7 g.Stock (tab6 fun x => Zaf b x))) (fun k s => rfl), ZrZ hst (f := Zj0 (Zg7 g.Stock (tab6 fun x => Zaf b x))) (fun k s => rfl)]
        exact ⟨_, rfl, rfl, h, .inl ⟨rfl, fun _ => kk 6 k6⟩⟩
       ·have hd : decide (a.A < (g.Entries.length : Int)) = false := by simpa using hlt
        have hin : inR a.A 0 ((g.Entries.length : Int) - 1) = false := Zp7.2 (by omega)
        simp only [hd, hin, Bool.not_false, cond_false, cond_true, Option.bind_some]
        exact ⟨(g, 0), rfl, rfl, h, .inl ⟨rfl, fun e => by simp at e⟩⟩
     ·obtain ⟨w, s1, s2, s3, s4⟩ := Ztd g h
      simp only [cond_false, cond_true, s1, s2, Option.bind_some, ZdR]
      exact fin (fun w => w = ((⟨g.Members, g.Stock, g.Entries, g.Books, 0, wr (g.Year + 1)⟩ : GGuild), true) ∧ Zn w.1 = true) w s3 s4 fun w hp => ⟨by rw [hp.1], .inr (.inr (.inr (.inr (.inr ⟨kk 5 k5, rfl, by rw [hp.1], hp.2⟩))))⟩
    ·obtain ⟨w, s1, s2, s3, s4⟩ := Zmm g h
     simp only [cond_false, cond_true, s1, s2, Option.bind_some, ZdR]
     exact fin (fun w => w = ((⟨g.Members, g.Stock, g.Entries, g.Books, wr (g.Round + 1), g.Year⟩ : GGuild), true) ∧ Zn w.1 = true) w s3 s4 fun w hp => ⟨by rw [hp.1], .inr (.inr (.inr (.inr (.inl ⟨kk 4 k4, rfl, by rw [hp.1], hp.2⟩))))⟩
   ·obtain ⟨w, s1, s2, s3, s4⟩ := Zsq g a.A h
    simp only [cond_false, cond_true, s1, s2, Option.bind_some, ZdR]
    exact fin (Zq7 g a.A) w s3 s4 fun w hp => by
     have hw : w = (w.1, true) := by obtain ⟨s, _, _, _, e, _⟩ := hp; rw [e]
     exact ⟨by rw [hw], .inr (.inr (.inr (.inl ⟨kk 3 k3, rfl, by rw [← hw]; exact hp⟩)))⟩
  ·have hel : g.Entries.length ≤ 1048576 := h.2.2.1.1
   have hday : ∃ d : Int, (bif decide ((g.Entries.length : Int) > 0) then gd (0 ≤ wr ((g.Entries.length : Int) - 1) ∧ wr ((g.Entries.length : Int) - 1) < (g.Entries.length : Int)) (some (wr ((gx g.Entries (wr ((g.Entries.length : Int) - 1)).toNat).Day + 1))) else some 0) = some d := by
    cases hd : decide ((g.Entries.length : Int) > 0)
    ·exact ⟨0, rfl⟩
    ·have hd' : (g.Entries.length : Int) > 0 := by simpa using hd
     have e : wr ((g.Entries.length : Int) - 1) = (g.Entries.length : Int) - 1 := ZO (by omega) (by omega)
     rw [e]
     exact ⟨_, by rw [cond_true, Za ⟨by omega, by omega⟩]⟩
   obtain ⟨d, hd⟩ := hday
   obtain ⟨b, t1, t2, t3⟩ := ZpU a.B
   obtain ⟨w, s1, s2, s3, s4⟩ := ZqF g a.A d b h t3
   simp only [cond_false, cond_true, hd, t1, t2, s1, s2, Option.bind_some, ZdR]
   exact fin (Zj3 g a.A d b) w s3 s4 fun w hp => by
    have hw : w = (w.1, true) := by rw [hp.2.1]
    exact ⟨by rw [hw], .inr (.inr (.inl ⟨kk 2 k2, rfl, d, b, by rw [← hw]; exact hp⟩))⟩
 ·obtain ⟨w, s1, s2, s3, s4⟩ := Zlw g a.A h
  simp only [cond_true, s1, s2, Option.bind_some, ZdR]
  exact fin (Zk9 g a.A) w s3 s4 fun w hp => by
   have hw : w = (w.1, true) := by obtain ⟨r, d, _, _, _, _, e, _⟩ := hp; rw [e]
   exact ⟨by rw [hw], .inr (.inl ⟨kk 1 k1, rfl, by rw [← hw]; exact hp⟩)⟩

theorem Zve (g : GGuild) (a : GAct) (h : Sm.ok g) : ∃ w, Zh1 g a = some w ∧ ZcP g a = some w ∧ Sm.ok w.1 :=
 have ⟨w, a, b, c, _⟩ := ZuQ g a h
 ⟨w, a, b, c⟩

def DoM (g : GGuild) (a : GAct) : GGuild × Int := (Zh1 g a).getD (g, 0)
theorem Zqn {g : GGuild} (h : Sm.ok g) (a : GAct) : Zh1 g a = some (DoM g a) ∧ ZcP g a = some (DoM g a) ∧ Sm.ok (DoM g a).1 := by
 obtain ⟨w, h1, h2, h3⟩ := Zve g a h
 have e : DoM g a = w := by simp [DoM, h1]
 rw [e]
 exact ⟨h1, h2, h3⟩
def runM (g : GGuild) (acts : List GAct) : Nat → List Int × GGuild
 | 0 => ([], g)
 | k + 1 => ((runM g acts k).1 ++ [(DoM (runM g acts k).2 (gx acts k)).2], (DoM (runM g acts k).2 (gx acts k)).1)
theorem ZmQ {g : GGuild} (h : Sm.ok g) (acts : List GAct) : ∀ k, Sm.ok (runM g acts k).2 ∧ (runM g acts k).1.length = k
 | 0 => ⟨h, rfl⟩
 | k + 1 => by
  obtain ⟨h1, h2⟩ := ZmQ h acts k
  exact ⟨(Zqn h1 _).2.2, by simp [runM, h2]⟩
def tupG (s : List Int × GGuild) : (List Int) × (List GMember) × (List Int) × (List GEntry) × (List GBooking) × Int × Int := (s.1, s.2.Members, s.2.Stock, s.2.Entries, s.2.Books, s.2.Round, s.2.Year)
def RunM (g : GGuild) (acts : List GAct) : GGuild × List Int := bif !Zn g || decide ((acts.length : Int) > 40) then (g, []) else ((runM g acts acts.length).2, (runM g acts acts.length).1)
theorem Zp9 {g : GGuild} (h : Sm.ok g) (acts : List GAct) : Sm.ok (RunM g acts).1 ∧ Sm.ok (RunM g acts).2 := by
 unfold RunM
 cases hc : !Zn g || decide ((acts.length : Int) > 40)
 ·have hl : acts.length ≤ 40 := by
   simp only [Bool.or_eq_false_iff] at hc
   have := hc.2
   simp at this; omega
  obtain ⟨h1, h2⟩ := ZmQ h acts acts.length
  exact ⟨h1, ZpV (by simp only [cond_false]; omega)⟩
 ·exact ⟨h, ZpV (by simp)⟩

theorem Zkf {g : GGuild} (h : Sm.ok g) (acts : List GAct) : ZeJ g acts = some (RunM g acts) := by
 have hgl := Zei h
 unfold ZeJ RunM
 simp only [Zau h, ZbG g hgl, Option.bind_some]
 cases Zn g
 ·rfl
 cases hd : decide ((acts.length : Int) > 40)
 ·have hl : acts.length ≤ 40 := by simp at hd; omega
  simp only [Bool.not_true, cond_false, Bool.or_self]
  rw [Za (by omega), ZaL (f := Zgp acts) (s0 := (([] : List Int), g.Members, g.Stock, g.Entries, g.Books, g.Round, g.Year)) (fun k => tupG (runM g acts k)) rfl (fun k hk => by
   obtain ⟨h1, h2⟩ := ZmQ h acts k
   have e : ZcP ⟨(tupG (runM g acts k)).2.1, (tupG (runM g acts k)).2.2.1, (tupG (runM g acts k)).2.2.2.1, (tupG (runM g acts k)).2.2.2.2.1, (tupG (runM g acts k)).2.2.2.2.2.1, (tupG (runM g acts k)).2.2.2.2.2.2⟩ (gx acts k) = some (DoM (runM g acts k).2 (gx acts k)) := (Zqn h1 _).2.1
   unfold Zgp
   rw [e]
   simp only [Option.bind_some]
   rw [Za (by show (runM g acts k).1.length + 1 ≤ _; omega)]
   rfl)]
  rfl
 ·rfl

def nof : List Bool := List.replicate 6 false
def secB (a b : Nat) : Nat := bif decide (b < a) then b else b + 1
def u3 (i : Nat) : List Bool := nof.set (i / 20) true
def s3 (i : Nat) : Nat := secB (i / 20) (i % 20 / 4)
def v3 (i : Nat) : List Bool := (u3 i).set (s3 i) true
def t3 (i : Nat) : Nat := (pkM [20, 4, 1] i six)[2]!.toNat
theorem Zrk {S C : Type} {f : Nat → S → Option (Res S C)} (I : S → Prop) : ∀ (m k : Nat) (s : S), I s → (∀ j s, k ≤ j → j < k + m → I s → ∃ s', I s' ∧ (f j s = some (.next s') ∨ f j s = some (.brk s'))) → ∃ s', I s' ∧ forO f m k s = some (.inl s')
 | 0, _, s, hs, _ => ⟨s, hs, rfl⟩
 | m + 1, k, s, hs, h => by
  obtain ⟨s', hs', h1 | h1⟩ := h k s (Nat.le_refl _) (by omega) hs
  ·obtain ⟨s2, h2, e2⟩ := Zrk I m (k + 1) s' hs' fun j s hj hj2 => h j s (by omega) (by omega)
   exact ⟨s2, h2, by rw [forO, h1]; exact e2⟩
  ·exact ⟨s', hs', by rw [forO, h1]; rfl⟩
theorem ZvU {S : Type} {f : Nat → S → Option (Res S Empty)} (I : S → Prop) {N : Nat} {s0 : S} (h0 : I s0) (h : ∀ j s, j < N → I s → ∃ s', I s' ∧ (f j s = some (.next s') ∨ f j s = some (.brk s'))) : ∃ s', I s' ∧ lpO f N s0 = some s' := by
 obtain ⟨s', h1, h2⟩ := Zrk I N 0 s0 h0 fun j s _ hj => h j s (by omega)
 exact ⟨s', h1, by unfold lpO; rw [h2]; rfl⟩

def Zbw (c : List UInt8) (i : Int) : Prop := c.length ≤ 1048576 ∧ 0 ≤ i ∧ i ≤ c.length
theorem Zlv (x : Int) : 0 ≤ andI x 255 ∧ andI x 255 ≤ 255 := by
 have h : (BitVec.ofInt 64 x &&& BitVec.ofInt 64 255).toNat ≤ 255 := by
  rw [BitVec.toNat_and]
  exact Nat.le_trans Nat.and_le_right (by decide)
 unfold andI
 rw [ZO (by omega) (by omega)]
 omega
theorem Zu7 {c : List UInt8} (h : c.length ≤ 1048576) : ∃ g, Zhq c = some (0, g) ∧ Zbw c 0 := by
 obtain ⟨g, _, e⟩ := ZvU (f := Zhf c) (N := c.length) (s0 := wr (33041 + ((c.length : Nat) : Int))) (fun _ => True) trivial fun j s _ _ => by
  unfold Zhf
  cases decide (((j : Nat) : Int) < 4000)
  ·exact ⟨s, trivial, .inr rfl⟩
  ·exact ⟨_, trivial, .inl rfl⟩
 refine ⟨g, ?_, h, by omega, by omega⟩
 unfold Zhq
 rw [Za (by omega), e]
 rfl

theorem ZiS {c : List UInt8} {i g : Int} (h : Zbw c i) : ∃ x i' g', Zca c i g = some (x, i', g') ∧ Zbw c i' ∧ 0 ≤ x ∧ x ≤ 255 := by
 obtain ⟨h0, h1, h2⟩ := h
 unfold Zca
 by_cases hi : i < c.length
 ·have e : decide (i < ((c.length : Nat) : Int)) = true := decide_eq_true hi
  simp only [e, cond_true]
  rw [Za ⟨h1, hi⟩]
  have ew : wr (i + 1) = i + 1 := ZO (by omega) (by omega)
  refine ⟨_, _, _, rfl, ⟨h0, ?_, ?_⟩, (Zlv _).1, (Zlv _).2⟩ <;> simp only [ew] <;> omega
 ·have e : decide (i < ((c.length : Nat) : Int)) = false := decide_eq_false hi
  simp only [e, cond_false]
  exact ⟨_, _, _, rfl, ⟨h0, h1, h2⟩, (Zlv _).1, (Zlv _).2⟩

theorem Zap {c : List UInt8} {i g n : Int} (h : Zbw c i) (hn : n ≤ 1048576) : ∃ x i' g', ZN c i g n = some (x, i', g') ∧ Zbw c i' ∧ 0 ≤ x ∧ (0 < n → x < n) ∧ (n ≤ 0 → x = 0) := by
 unfold ZN
 by_cases h0 : n ≤ 0
 ·rw [decide_eq_true h0, cond_true]
  exact ⟨0, i, g, rfl, h, by omega, by omega, fun _ => rfl⟩
 rw [decide_eq_false h0, cond_false]
 by_cases h1 : n ≤ 256
 ·obtain ⟨x, i1, g1, e, hc, x0, x1⟩ := ZiS (g := g) h
  rw [decide_eq_true h1, cond_true, e]
  simp only [Option.bind_some]
  rw [Za (by omega)]
  have hr := Int.tmod_lt_of_pos x (show 0 < n by omega)
  have hr0 := Int.tmod_nonneg n x0
  exact ⟨_, _, _, rfl, hc, hr0, fun _ => hr, fun hh => absurd hh (by omega)⟩
 ·obtain ⟨x, i1, g1, e1, c1, x0, x1⟩ := ZiS (g := g) h
  obtain ⟨y, i2, g2, e2, c2, y0, y1⟩ := ZiS (g := g1) c1
  obtain ⟨z, i3, g3, e3, c3, z0, z1⟩ := ZiS (g := g2) c2
  obtain ⟨u, i4, g4, e4, c4, u0, u1⟩ := ZiS (g := g3) c3
  rw [decide_eq_false h1, cond_false, e1]
  simp only [Option.bind_some, e2, e3, e4]
  rw [Za (by omega)]
  have w1 : wr (x * 16777216) = x * 16777216 := ZO (by omega) (by omega)
  have w2 : wr (y * 65536) = y * 65536 := ZO (by omega) (by omega)
  have w3 : wr (z * 256) = z * 256 := ZO (by omega) (by omega)
  have w4 : wr (x * 16777216 + y * 65536) = x * 16777216 + y * 65536 := ZO (by omega) (by omega)
  have w5 : wr (x * 16777216 + y * 65536 + z * 256) = x * 16777216 + y * 65536 + z * 256 := ZO (by omega) (by omega)
  have w6 : wr (x * 16777216 + y * 65536 + z * 256 + u) = x * 16777216 + y * 65536 + z * 256 + u := ZO (by omega) (by omega)
  have hr := Int.tmod_lt_of_pos (x * 16777216 + y * 65536 + z * 256 + u) (show 0 < n by omega)
  have hr0 := Int.tmod_nonneg n (show 0 ≤ x * 16777216 + y * 65536 + z * 256 + u by omega)
  refine ⟨_, _, _, rfl, c4, ?_, fun _ => ?_, fun hh => absurd hh (by omega)⟩
  ·simp only [w1, w2, w3, w4, w5, w6]; exact hr0
  ·simp only [w1, w2, w3, w4, w5, w6]; exact hr

theorem ZrL {S C : Type} {f : Nat → S → Option (Res S C)} (I : Nat → S → Prop) : ∀ (m k : Nat) (s : S), I k s → (∀ j s, k ≤ j → j < k + m → I j s → ∃ s', I (j + 1) s' ∧ f j s = some (.next s')) → ∃ s', I (k + m) s' ∧ forO f m k s = some (.inl s')
 | 0, _, s, hs, _ => ⟨s, hs, rfl⟩
 | m + 1, k, s, hs, h => by
  obtain ⟨s', hs', h1⟩ := h k s (Nat.le_refl _) (by omega) hs
  obtain ⟨s2, h2, e2⟩ := ZrL I m (k + 1) s' hs' fun j s hj hj2 => h j s (by omega) (by omega)
  exact ⟨s2, by rw [show k + (m + 1) = k + 1 + m by omega]; exact h2, by rw [forO, h1]; exact e2⟩
theorem ZlB {S : Type} {f : Nat → S → Option (Res S Empty)} (I : Nat → S → Prop) {N : Nat} {s0 : S} (h0 : I 0 s0) (h : ∀ j s, j < N → I j s → ∃ s', I (j + 1) s' ∧ f j s = some (.next s')) : ∃ s', I N s' ∧ lpO f N s0 = some s' := by
 obtain ⟨s', h1, h2⟩ := ZrL I N 0 s0 h0 fun j s _ hj => h j s (by omega)
 exact ⟨s', by rw [Nat.zero_add] at h1; exact h1, by unfold lpO; rw [h2]; rfl⟩

theorem ZtE {c : List UInt8} {i g : Int} (h : Zbw c i) : ∃ x i' g', ZgB c i g = some (x, i', g') ∧ Zbw c i' ∧ Zm x = true := by
 obtain ⟨x, i1, g1, e1, c1, _⟩ := Zap (g := g) (n := 3) h (by omega)
 obtain ⟨y, i2, g2, e2, c2, _⟩ := Zap (g := g1) (n := 3) c1 (by omega)
 obtain ⟨z, i3, g3, e3, c3, _⟩ := Zap (g := g2) (n := 3) c2 (by omega)
 unfold ZgB
 rw [e1]
 simp only [Option.bind_some, e2, e3, Zjb]
 exact ⟨_, _, _, rfl, c3, ZmO _ _ _⟩

theorem ZrX {S C : Type} {f : S → Option (Res S C)} (I : S → Prop) (ct : S → Nat) (h : ∀ s, I s → (∃ s', I s' ∧ ct s' < ct s ∧ f s = some (.next s')) ∨ ∃ s', I s' ∧ f s = some (.brk s')) : ∀ (n fuel : Nat) (s : S), I s → ct s ≤ n → n < fuel → ∃ s', I s' ∧ whO f fuel s = some (.inl s')
 | _, 0, _, _, _, hf => absurd hf (by omega)
 | n, fuel + 1, s, hs, hn, hf => by
  rcases h s hs with ⟨s', h1, h2, h3⟩ | ⟨s', h1, h3⟩
  ·cases n with
   | zero => omega
   | succ n =>
    obtain ⟨s2, k1, k2⟩ := ZrX I ct h n fuel s' h1 (by omega) (by omega)
    exact ⟨s2, k1, by rw [whO, h3]; exact k2⟩
  ·exact ⟨s', h1, by rw [whO, h3]; rfl⟩

theorem Zt8 {xs : List GBooking} {b : GBooking} (h : (Zc2 xs b).2 = true) : (Zc2 xs b).1 = xs ++ [b] := by
 unfold Zc2 at h ⊢
 cases hc : Zax xs && Zax (xs ++ [b])
 ·rw [hc] at h; cases h
 ·rfl

theorem ZvO {α : Type} [Rep α] (l : List α) (x : α) : gx (l ++ [x]) l.length = x := by
 have := Zuj l [] x rfl
 simpa using this

def Zxa (xs : List GEntry) : Prop := ∀ k, k < xs.length → ∀ m, m < k → Zfe (gx xs k) (gx xs m) = false
def Hist (g : GGuild) : Prop := Zn g = true ∧ Zxa g.Entries ∧ ∀ b ∈ g.Books, b.From = 0 ∧ b.To = 1 ∧ b.Sum = 20
theorem ZsC {g x : GGuild} (h : Hist g) (he : x.Entries = g.Entries) (hb : x.Books = g.Books) (ok : Zn x = true) : Hist x := ⟨ok, by rw [he]; exact h.2.1, by rw [hb]; exact h.2.2⟩

theorem Zst {g : GGuild} {s : List Int} (h : Zn g = true) (hs : Zac s = true) : Zn (⟨g.Members, s, g.Entries, g.Books, g.Round, g.Year⟩ : GGuild) = true := by
 simp only [Zn, Bool.and_eq_true] at h ⊢
 obtain ⟨⟨⟨⟨⟨⟨a, _⟩, c⟩, d⟩, e⟩, f⟩, i⟩ := h
 exact ⟨⟨⟨⟨⟨⟨a, hs⟩, c⟩, d⟩, e⟩, f⟩, i⟩

theorem Zpc {g : GGuild} {n : Int} {w : GGuild × Bool} (h : Hist g) (hw : w = (g, false) ∨ Zk9 g n w) : Hist w.1 := by
 rcases hw with rfl | ⟨r, d, _, _, _, hb, rfl, hok⟩
 ·exact h
 ·refine ⟨hok, h.2.1, fun b hbm => ?_⟩
  have hbm' : b ∈ (Zc2 g.Books ⟨d, 0, 1, 20⟩).1 := hbm
  rw [Zt8 hb, List.mem_append, List.mem_singleton] at hbm'
  rcases hbm' with hh | rfl
  ·exact h.2.2 b hh
  ·exact ⟨rfl, rfl, rfl⟩

theorem Zsj {g : GGuild} {n d : Int} {b : GBlock} {w : GGuild × Bool} (h : Hist g) (hw : w = (g, false) ∨ Zj3 g n d b w) : Hist w.1 := by
 rcases hw with rfl | ⟨hno, rfl, hok⟩
 ·exact h
 ·refine ⟨hok, fun k hk m hm => ?_, h.2.2⟩
  simp only [List.length_append, List.length_cons, List.length_nil] at hk
  show Zfe (gx (g.Entries ++ [⟨n, d, b⟩]) k) (gx (g.Entries ++ [⟨n, d, b⟩]) m) = false
  by_cases hkl : k < g.Entries.length
  ·rw [ZbX hkl, ZbX (show m < g.Entries.length by omega)]
   exact h.2.1 k hkl m hm
  ·have e : k = g.Entries.length := by omega
   subst e
   rw [ZvO, ZbX hm]
   exact hno m hm

theorem Zt2 {y : Int} (h1 : 1900 ≤ y) (h2 : y ≤ 2999) : Zcr y = some ((⟨[], [1000, 1000, 1000, 1000, 1000, 1000], [], [], 0, y⟩ : GGuild), true) ∧ Hist (⟨[], [1000, 1000, 1000, 1000, 1000, 1000], [], [], 0, y⟩ : GGuild) := by
 have hg : GL (⟨[], [1000, 1000, 1000, 1000, 1000, 1000], [], [], 0, y⟩ : GGuild) := ⟨by simp, by simp, by simp, by simp⟩
 have hl : lpO Zfp 6 ([] : List Int) = some [1000, 1000, 1000, 1000, 1000, 1000] := rfl
 have hk : Zn (⟨[], [1000, 1000, 1000, 1000, 1000, 1000], [], [], 0, y⟩ : GGuild) = true := by
  simp [Zn, Zbu, Zgu, Zac, ZE, Zax, inR, h1, h2]
 refine ⟨?_, hk, fun k hk => by simp at hk, fun b hb => by simp at hb⟩
 unfold Zcr
 rw [hl]
 simp only [Option.bind_some, Zaq _ hg, hk]
 rfl

theorem Zsh : ∃ w, ZbQ = some w ∧ Hist w := by
 obtain ⟨n1, n3⟩ := Zt2 (y := 2020) (by omega) (by omega)
 obtain ⟨s, s1, s2⟩ := ZlB (f := Zcw) (N := 3) (s0 := (([] : List GMember), [1000, 1000, 1000, 1000, 1000, 1000], ([] : List GEntry), ([] : List GBooking), 0, 2020)) (fun _ s => Hist ⟨s.1, s.2.1, s.2.2.1, s.2.2.2.1, s.2.2.2.2.1, s.2.2.2.2.2⟩) n3 fun k s hk hs => by
  obtain ⟨v, v1, _, _, v4⟩ := Zlw ⟨s.1, s.2.1, s.2.2.1, s.2.2.2.1, s.2.2.2.2.1, s.2.2.2.2.2⟩ ((k + 1 : Nat) : Int) (ZcQ hs.1)
  unfold Zcw
  rw [v1]
  have hv : Hist v.1 := Zpc hs v4
  exact ⟨(v.1.Members, v.1.Stock, v.1.Entries, v.1.Books, v.1.Round, v.1.Year), hv, rfl⟩
 unfold ZbQ
 rw [n1]
 simp only [Option.bind_some]
 rw [s2]
 exact ⟨_, rfl, s1⟩

theorem ZoM {S : Type} {f : S → Option (Res S Empty)} (I : S → Prop) (ct : S → Nat) (h : ∀ s, I s → (∃ s', I s' ∧ ct s' < ct s ∧ f s = some (.next s')) ∨ ∃ s', I s' ∧ f s = some (.brk s')) {fuel : Nat} {s : S} (hs : I s) (hf : ct s < fuel) : ∃ s', I s' ∧ wlO f fuel s = some s' := by
 obtain ⟨s', h1, h2⟩ := ZrX I ct h (ct s) fuel s hs (Nat.le_refl _) hf
 exact ⟨s', h1, by unfold wlO; rw [h2]; rfl⟩

theorem Zv3 {xs : List GMember} {n : Int} {x : GMember} (h : x ∈ (PayM xs n).1) : ∃ y ∈ xs, x.Number = y.Number := by
 unfold PayM at h
 cases hc : ZE xs && xs.any (fun m => m.Number == n) && ZE (xs.map (dueM n))
 ·rw [hc] at h
  exact ⟨x, h, rfl⟩
 ·rw [hc, cond_true] at h
  obtain ⟨y, hy, rfl⟩ := List.mem_map.1 h
  refine ⟨y, hy, ?_⟩
  unfold dueM
  cases y.Number == n <;> rfl
def Few (g : GGuild) (m : Int) : Prop := (∀ x ∈ g.Members, x.Number ≤ 8) ∧ (g.Members.length : Int) ≤ m ∧ (g.Books.length : Int) ≤ m ∧ g.Year ≤ 2100 ∧ ∀ e ∈ g.Entries, e.Day ≤ 100
theorem ZtY {g : GGuild} {n m : Int} {w : GGuild × Bool} (hs : Sm.ok g) (h : Few g m) (hn : n ≤ 8) (hw : w = (g, false) ∨ Zk9 g n w) : Few w.1 (m + 1) := by
 obtain ⟨f1, f2, f3, f4, f5⟩ := h
 rcases hw with rfl | ⟨r, d, e1, _, _, _, rfl, _⟩
 ·exact ⟨f1, by simp only; omega, by simp only; omega, f4, f5⟩
 ·obtain ⟨r', _, _, q1, q2, _, q3, _⟩ := ZsO g.Members n g.Year hs.1.1
  rw [e1] at q2
  cases q2
  have pl := ZsQ r.1 n
  have bl := Zr6 g.Books ⟨d, 0, 1, 20⟩
  refine ⟨fun x hx => ?_, ?_, ?_, f4, f5⟩
  ·obtain ⟨y, hy, e⟩ := Zv3 hx
   rw [e]
   rcases q3 y hy with h | h
   ·exact f1 y h
   ·omega
  ·show (((PayM r.1 n).1.length : Nat) : Int) ≤ m + 1
   omega
  ·show (((Zc2 g.Books ⟨d, 0, 1, 20⟩).1.length : Nat) : Int) ≤ m + 1
   omega
theorem Ztf {g : GGuild} {n d m : Int} {b : GBlock} {w : GGuild × Bool} (h : Few g m) (hd : d ≤ 100) (hw : w = (g, false) ∨ Zj3 g n d b w) : Few w.1 m := by
 obtain ⟨f1, f2, f3, f4, f5⟩ := h
 rcases hw with rfl | ⟨_, rfl, _⟩
 ·exact ⟨f1, f2, f3, f4, f5⟩
 ·refine ⟨f1, f2, f3, f4, fun e he => ?_⟩
  rcases List.mem_append.1 he with he | he
  ·exact f5 e he
  ·rw [List.mem_singleton.1 he]; exact hd

theorem Ztv {c : List UInt8} {i g : Int} (h : Zbw c i) : ∃ l i' g', ZfS c i g 60 = some (l, i', g') ∧ Zbw c i' ∧ Zac l = true := by
 obtain ⟨s, ⟨s1, s2, s3⟩, es⟩ := ZlB (f := Zft c 60) (N := 6) (s0 := (([] : List Int), i, g)) (fun k s => s.1.length = k ∧ Zbw c s.2.1 ∧ ∀ x ∈ s.1, inR x 0 1000000 = true) ⟨rfl, h, by simp⟩ fun k s hk hs => by
  obtain ⟨s1, s2, s3⟩ := hs
  obtain ⟨x, i1, g1, e1, c1, x0, x1, _⟩ := Zap (g := s.2.2) (n := 60) s2 (by omega)
  have x2 := x1 (by omega)
  unfold Zft
  rw [e1]
  simp only [Option.bind_some]
  rw [Za (by omega)]
  refine ⟨_, ⟨by simp [s1], c1, fun z hz => ?_⟩, rfl⟩
  rcases List.mem_append.1 hz with hz | hz
  ·exact s3 z hz
  ·rw [List.mem_singleton.1 hz]; exact ZS.2 ⟨x0, by omega⟩
 unfold ZfS
 rw [es]
 refine ⟨_, _, _, rfl, s2, ?_⟩
 simp only [Zac, Bool.and_eq_true, List.all_eq_true, beq_iff_eq]
 exact ⟨s3, by omega⟩

def g8 (t : (List GMember) × (List Int) × (List GEntry) × (List GBooking) × Int × Int) : GGuild := ⟨t.1, t.2.1, t.2.2.1, t.2.2.2.1, t.2.2.2.2.1, t.2.2.2.2.2⟩
theorem Zso {c : List UInt8} {k i g : Int} {t : (List GMember) × (List Int) × (List GEntry) × (List GBooking) × Int × Int} (h : Zbw c i) (k0 : 0 ≤ k) (k1 : k ≤ 4) (ht : Hist (g8 t)) (hf : Few (g8 t) (4 - k)) : ∃ s, wlO (ZdO c) 18446744073709551616 (k, i, g, t) = some s ∧ Zbw c s.2.1 ∧ Hist (g8 s.2.2.2) ∧ Few (g8 s.2.2.2) 4 := by
 obtain ⟨s, ⟨s1, s2, s3, _, s5⟩, es⟩ := ZoM (f := ZdO c) (fun s => Zbw c s.2.1 ∧ Hist (g8 s.2.2.2) ∧ 0 ≤ s.1 ∧ s.1 ≤ 4 ∧ Few (g8 s.2.2.2) (4 - s.1)) (fun s => s.1.toNat) (fun s hs => by
  obtain ⟨s1, s2, s3, s4, s5⟩ := hs
  unfold ZdO
  by_cases hp : s.1 > 0
  ·left
   obtain ⟨x, i1, g1, e1, c1, x0, x1, _⟩ := Zap (g := s.2.2.1) (n := 8) s1 (by omega)
   have ew : wr (s.1 - 1) = s.1 - 1 := ZO (by omega) (by omega)
   obtain ⟨v, v1, _, _, v4⟩ := Zlw (g8 s.2.2.2) (wr (1 + x)) (ZcQ s2.1)
   rw [decide_eq_true hp, cond_true, e1]
   simp only [Option.bind_some]
   unfold g8 at v1
   rw [v1]
   have hv : Hist v.1 := Zpc s2 v4
   have x2 := x1 (by omega)
   have hq : Few v.1 (4 - s.1 + 1) := ZtY (ZcQ s2.1) s5 (by rw [ZO (by omega) (by omega)]; omega) v4
   refine ⟨(wr (s.1 - 1), i1, g1, v.1.Members, v.1.Stock, v.1.Entries, v.1.Books, v.1.Round, v.1.Year), ⟨c1, hv, by simp only [ew]; omega, by simp only [ew]; omega, by simp only [ew]; rw [show 4 - (s.1 - 1) = 4 - s.1 + 1 by omega]; exact hq⟩, by simp only [ew]; omega, rfl⟩
  ·right
   rw [decide_eq_false hp, cond_false]
   exact ⟨s, ⟨s1, s2, s3, s4, s5⟩, rfl⟩) (s := (k, i, g, t)) (fuel := 18446744073709551616) ⟨h, ht, k0, k1, hf⟩ (by simp only; omega)
 exact ⟨s, es, s1, s2, s5.1, by have := s5.2.1; omega, by have := s5.2.2.1; omega, s5.2.2.2⟩

theorem Zsz {c : List UInt8} {i g : Int} (h : Zbw c i) : ∃ s, lpO (ZdQ c) 4 (([] : List GCell), i, g) = some s ∧ Zbw c s.2.1 ∧ s.1.length = 4 ∧ ∀ x ∈ s.1, Zm x = true := by
 obtain ⟨s, ⟨s1, s2, s3⟩, es⟩ := ZlB (f := ZdQ c) (N := 4) (s0 := (([] : List GCell), i, g)) (fun k s => s.1.length = k ∧ Zbw c s.2.1 ∧ ∀ x ∈ s.1, Zm x = true) ⟨rfl, h, by simp⟩ fun k s hk hs => by
  obtain ⟨s1, s2, s3⟩ := hs
  obtain ⟨y, i3, g3, e3, c3, hy⟩ := ZtE (g := s.2.2) s2
  unfold ZdQ
  rw [e3]
  simp only [Option.bind_some]
  rw [Za (by omega)]
  refine ⟨_, ⟨by simp [s1], c3, fun z hz => ?_⟩, rfl⟩
  rcases List.mem_append.1 hz with hz | hz
  ·exact s3 z hz
  ·rw [List.mem_singleton.1 hz]; exact hy
 exact ⟨s, es, s2, s1, s3⟩

theorem ZrG {c : List UInt8} {d k i g : Int} {t : (List GMember) × (List Int) × (List GEntry) × (List GBooking) × Int × Int} (h : Zbw c i) (k0 : 0 ≤ k) (k1 : k ≤ 3) (ht : Hist (g8 t)) (hf : Few (g8 t) 4) (d0 : 0 ≤ d) (dk : d + 2 * k ≤ 6) : ∃ s, wlO (ZdL c) 18446744073709551616 (d, k, i, g, t) = some s ∧ Zbw c s.2.2.1 ∧ Hist (g8 s.2.2.2.2) ∧ Few (g8 s.2.2.2.2) 4 := by
 obtain ⟨s, ⟨s1, s2, _, _, s5, _⟩, es⟩ := ZoM (f := ZdL c) (fun s => Zbw c s.2.2.1 ∧ Hist (g8 s.2.2.2.2) ∧ 0 ≤ s.2.1 ∧ s.2.1 ≤ 3 ∧ Few (g8 s.2.2.2.2) 4 ∧ 0 ≤ s.1 ∧ s.1 + 2 * s.2.1 ≤ 6) (fun s => s.2.1.toNat) (fun s hs => by
  obtain ⟨s1, s2, s3, s4, s5, s6, s7⟩ := hs
  unfold ZdL
  by_cases hp : s.2.1 > 0
  ·by_cases hm : ((s.2.2.2.2.1.length : Nat) : Int) > 0
   ·left
    have hml : s.2.2.2.2.1.length ≤ 40 := ZhT (Zeo s2.1).1
    obtain ⟨x, i1, g1, e1, c1, x0, x1, _⟩ := Zap (g := s.2.2.2.1) (n := 3) s1 (by omega)
    obtain ⟨q, e2, c2, q1, _⟩ := Zsz (g := g1) c1
    obtain ⟨y, i3, g3, e3, c3, y0, y1, _⟩ := Zap (g := q.2.2) (n := ((s.2.2.2.2.1.length : Nat) : Int)) c2 (by omega)
    have y2 := y1 (by omega)
    have ew : wr (s.2.1 - 1) = s.2.1 - 1 := ZO (by omega) (by omega)
    obtain ⟨v, v1, _, _, v4⟩ := ZqF (g8 s.2.2.2.2) (gx s.2.2.2.2.1 y.toNat).Number (wr (s.1 + x)) ⟨2, q.1⟩ (ZcQ s2.1) ⟨by simp only; omega, fun _ _ => trivial⟩
    rw [decide_eq_true hp, decide_eq_true hm, Bool.and_self, cond_true, e1]
    simp only [Option.bind_some]
    rw [e2]
    simp only [Option.bind_some]
    rw [e3]
    simp only [Option.bind_some]
    rw [Za ⟨y0, y2⟩]
    unfold g8 at v1
    rw [v1]
    have hv : Hist v.1 := Zsj s2 v4
    have x2 := x1 (by omega)
    have ex : wr (s.1 + x) = s.1 + x := ZO (by omega) (by omega)
    have hq : Few v.1 4 := Ztf s5 (by omega) v4
    refine ⟨(wr (s.1 + x), wr (s.2.1 - 1), i3, g3, v.1.Members, v.1.Stock, v.1.Entries, v.1.Books, v.1.Round, v.1.Year), ⟨c3, hv, by simp only [ew]; omega, by simp only [ew]; omega, hq, by simp only [ex]; omega, by simp only [ew, ex]; omega⟩, by simp only [ew]; omega, rfl⟩
   ·right
    rw [decide_eq_false hm, Bool.and_false, cond_false]
    exact ⟨s, ⟨s1, s2, s3, s4, s5, s6, s7⟩, rfl⟩
  ·right
   rw [decide_eq_false hp, Bool.false_and, cond_false]
   exact ⟨s, ⟨s1, s2, s3, s4, s5, s6, s7⟩, rfl⟩) (s := (d, k, i, g, t)) (fuel := 18446744073709551616) ⟨h, ht, k0, k1, hf, d0, dk⟩ (by simp only; omega)
 exact ⟨s, es, s1, s2, s5⟩

theorem Zsv {k : Int} {t : (List GMember) × (List Int) × (List GEntry) × (List GBooking) × Int × Int} (k0 : 0 ≤ k) (k1 : k ≤ 3) (ht : Hist (g8 t)) (hf : Few (g8 t) 4) : ∃ s, wlO ZdF 18446744073709551616 (k, t) = some s ∧ Hist (g8 s.2) ∧ Few (g8 s.2) 4 := by
 obtain ⟨s, ⟨s2, _, _, s5⟩, es⟩ := ZoM (f := ZdF) (fun s => Hist (g8 s.2) ∧ 0 ≤ s.1 ∧ s.1 ≤ 3 ∧ Few (g8 s.2) 4) (fun s => s.1.toNat) (fun s hs => by
  obtain ⟨s2, s3, s4, s5⟩ := hs
  unfold ZdF
  by_cases hp : s.1 > 0
  ·left
   have ew : wr (s.1 - 1) = s.1 - 1 := ZO (by omega) (by omega)
   obtain ⟨v, v1, _, _, v4⟩ := Zmm (g8 s.2) (ZcQ s2.1)
   have hv : Hist v.1 := by
    rcases v4 with rfl | ⟨rfl, ok⟩
    ·exact s2
    ·exact ZsC s2 rfl rfl ok
   have hq : Few v.1 4 := by
    rcases v4 with rfl | ⟨rfl, ok⟩
    ·exact s5
    ·exact s5
   rw [decide_eq_true hp, cond_true]
   unfold g8 at v1
   rw [v1]
   refine ⟨(wr (s.1 - 1), v.1.Members, v.1.Stock, v.1.Entries, v.1.Books, v.1.Round, v.1.Year), ⟨hv, by simp only [ew]; omega, by simp only [ew]; omega, hq⟩, by simp only [ew]; omega, rfl⟩
  ·right
   rw [decide_eq_false hp, cond_false]
   exact ⟨s, ⟨s2, s3, s4, s5⟩, rfl⟩) (s := (k, t)) (fuel := 18446744073709551616) ⟨ht, k0, k1, hf⟩ (by simp only; omega)
 exact ⟨s, es, s2, s5⟩

theorem ZtA {c : List UInt8} {i g : Int} (h : Zbw c i) : ∃ q i' g', ZfB c i g = some (q, i', g') ∧ Zbw c i' ∧ Hist q ∧ Few q 4 := by
 obtain ⟨x1, i1, g1, e1, c1, a1, b1, _⟩ := Zap (g := g) (n := 20) h (by omega)
 have b1' := b1 (by omega)
 obtain ⟨n1, n2⟩ := Zt2 (y := wr (2000 + x1)) (by rw [ZO (by omega) (by omega)]; omega) (by rw [ZO (by omega) (by omega)]; omega)
 obtain ⟨x2, i2, g2, e2, c2, a2, b2, _⟩ := Zap (g := g1) (n := 5) c1 (by omega)
 have b2' := b2 (by omega)
 have nf : Few (g8 (([] : List GMember), [1000, 1000, 1000, 1000, 1000, 1000], ([] : List GEntry), ([] : List GBooking), 0, wr (2000 + x1))) (4 - x2) := ⟨fun x hx => (by cases hx), (by show ((0 : Nat) : Int) ≤ _; omega), (by show ((0 : Nat) : Int) ≤ _; omega), (by show wr (2000 + x1) ≤ 2100; rw [ZO (by omega) (by omega)]; omega), fun e he => (by cases he)⟩
 obtain ⟨s1, e3, c3, h3, f3⟩ := Zso (g := g2) (t := (([] : List GMember), [1000, 1000, 1000, 1000, 1000, 1000], ([] : List GEntry), ([] : List GBooking), 0, wr (2000 + x1))) c2 a2 (by omega) n2 nf
 obtain ⟨x4, i4, g4, e4, c4, a4, b4, _⟩ := Zap (g := s1.2.2.1) (n := 4) c3 (by omega)
 have b4' := b4 (by omega)
 obtain ⟨s2, e5, c5, h5, f5⟩ := ZrG (d := 0) (g := g4) (t := s1.2.2.2) c4 a4 (by omega) h3 f3 (by omega) (by omega)
 obtain ⟨x6, i6, g6, e6, c6, a6, b6, _⟩ := Zap (g := s2.2.2.2.1) (n := 4) c5 (by omega)
 have b6' := b6 (by omega)
 obtain ⟨s3, e7, h7, f7⟩ := Zsv (k := x6) (t := s2.2.2.2.2) a6 (by omega) h5 f5
 obtain ⟨x8, i8, g8', e8, c8, _⟩ := Zap (g := g6) (n := 3) c6 (by omega)
 unfold ZfB
 rw [e1]
 simp only [Option.bind_some]
 rw [n1]
 simp only [Option.bind_some]
 rw [e2]
 simp only [Option.bind_some]
 rw [e3]
 simp only [Option.bind_some]
 rw [e4]
 simp only [Option.bind_some]
 rw [e5]
 simp only [Option.bind_some]
 rw [e6]
 simp only [Option.bind_some]
 rw [e7]
 simp only [Option.bind_some]
 unfold ZeZ
 rw [e8]
 simp only [Option.bind_some]
 cases hx : x8 == 0
 ·simp only [cond_false, Option.bind_some]
  exact ⟨_, _, _, rfl, c8, h7, f7⟩
 ·obtain ⟨l, i9, g9, e9, c9, hl⟩ := Ztv (g := g8') c8
  simp only [cond_true, e9, Option.bind_some]
  exact ⟨_, _, _, rfl, c9, ZsC h7 rfl rfl (Zst h7.1 hl), f7⟩

theorem ZuS {c : List UInt8} {i g : Int} (h : Zbw c i) : ∃ a i' g', Zhn c i g = some (a, i', g') ∧ Zbw c i' ∧ ZM a = true := by
 obtain ⟨x, i1, g1, e1, c1, _⟩ := Zap (g := g) (n := 8) h (by omega)
 unfold Zhn
 rw [e1]
 simp only [Option.bind_some]
 cases x == 0
 ·cases x == 1 || x == 2
  ·cases x == 3
   ·cases x == 4 || x == 5
    ·cases x == 6
     ·obtain ⟨y, i2, g2, e2, c2, y0, y1, _⟩ := Zap (g := g1) (n := 4) c1 (by omega)
      have y2 := y1 (by omega)
      simp only [cond_false, e2, Option.bind_some]
      exact ⟨_, _, _, rfl, c2, by unfold ZM; simp [inR]; omega⟩
     ·exact ⟨_, _, _, rfl, c1, by decide⟩
    ·exact ⟨_, _, _, rfl, c1, by decide⟩
   ·obtain ⟨y, i2, g2, e2, c2, y0, y1, _⟩ := Zap (g := g1) (n := 4) c1 (by omega)
    have y2 := y1 (by omega)
    simp only [cond_false, cond_true, e2, Option.bind_some]
    exact ⟨_, _, _, rfl, c2, by unfold ZM; simp [inR]; omega⟩
  ·obtain ⟨y, i2, g2, e2, c2, y0, y1, _⟩ := Zap (g := g1) (n := 5) c1 (by omega)
   have y2 := y1 (by omega)
   obtain ⟨z, i3, g3, e3, c3, z0, z1, _⟩ := Zap (g := g2) (n := 10) c2 (by omega)
   have z2 := z1 (by omega)
   have ew : wr (1 + y) = 1 + y := ZO (by omega) (by omega)
   simp only [cond_false, cond_true, e2, e3, ew, Option.bind_some]
   exact ⟨_, _, _, rfl, c3, by unfold ZM; simp [inR]; omega⟩
 ·obtain ⟨y, i2, g2, e2, c2, y0, y1, _⟩ := Zap (g := g1) (n := 8) c1 (by omega)
  have y2 := y1 (by omega)
  have ew : wr (1 + y) = 1 + y := ZO (by omega) (by omega)
  simp only [cond_true, e2, ew, Option.bind_some]
  exact ⟨_, _, _, rfl, c2, by unfold ZM; simp [inR]; omega⟩

theorem Zr7 {c : List UInt8} {i g : Int} (h : Zbw c i) : ∃ l i' g', ZgM c i g = some (l, i', g') ∧ Zbw c i' ∧ l.length ≤ 13 ∧ ∀ a ∈ l, ZM a = true := by
 obtain ⟨x, i1, g1, e1, c1, x0, x1, _⟩ := Zap (g := g) (n := 14) h (by omega)
 have x2 := x1 (by omega)
 obtain ⟨s, ⟨s1, s2, s3⟩, es⟩ := ZlB (f := Zgj c) (N := x.toNat) (s0 := (([] : List GAct), i1, g1)) (fun k s => s.1.length = k ∧ Zbw c s.2.1 ∧ ∀ x ∈ s.1, ZM x = true) ⟨rfl, c1, by simp⟩ fun k s hk hs => by
  obtain ⟨s1, s2, s3⟩ := hs
  obtain ⟨y, i3, g3, e3, c3, hy⟩ := ZuS (g := s.2.2) s2
  unfold Zgj
  rw [e3]
  simp only [Option.bind_some]
  rw [Za (by omega)]
  refine ⟨_, ⟨by simp [s1], c3, fun z hz => ?_⟩, rfl⟩
  rcases List.mem_append.1 hz with hz | hz
  ·exact s3 z hz
  ·rw [List.mem_singleton.1 hz]; exact hy
 unfold ZgM
 rw [e1]
 simp only [Option.bind_some]
 rw [Za (by omega), es]
 exact ⟨_, _, _, rfl, s2, by omega, s3⟩

theorem Zuc {c : List UInt8} (h : c.length ≤ 1048576) : ∃ q l, ZfE c = some (q, l) ∧ Hist q ∧ l.length ≤ 13 ∧ ∀ a ∈ l, ZM a = true := by
 obtain ⟨g0, e0, c0⟩ := Zu7 h
 obtain ⟨x, i1, g1, e1, c1, _⟩ := Zap (g := g0) (n := 2) c0 (by omega)
 obtain ⟨w, ew, hw⟩ := Zsh
 obtain ⟨q, i2, g2, e2, c2, hq, _⟩ := ZtA (g := g1) c1
 have hg : ∃ q i' g', ZfG c 0 g0 = some (q, i', g') ∧ Zbw c i' ∧ Hist q := by
  unfold ZfG ZeZ
  rw [e1]
  simp only [Option.bind_some]
  cases x == 0
  ·simp only [cond_false, e2, Option.bind_some]
   exact ⟨_, _, _, rfl, c2, hq⟩
  ·simp only [cond_true, ew, Option.bind_some]
   exact ⟨_, _, _, rfl, c1, hw⟩
 obtain ⟨q, i3, g3, e3, c3, hq⟩ := hg
 obtain ⟨l, i4, g4, e4, c4, l1, l2⟩ := Zr7 (g := g3) c3
 unfold ZfE
 rw [e0]
 simp only [Option.bind_some]
 rw [e3]
 simp only [Option.bind_some]
 rw [e4]
 exact ⟨_, _, rfl, hq, l1, l2⟩

theorem Zsi {g : GGuild} (h : Zn g = true) : 0 ≤ g.Round ∧ g.Round ≤ Zbu g := by
 simp only [Zn, Bool.and_eq_true] at h
 exact ZS.1 h.2

theorem ZrT (g : GGuild) : 0 ≤ Zbu g ∧ Zbu g ≤ 9 := by
 unfold Zbu
 cases h : inR ((Zgu g.Members g.Year).length : Int) 2 10
 ·simp
 ·have := ZS.1 h
  simp only [cond_true]; omega
theorem Zto {g : GGuild} (h : Zn g = true) : 1900 ≤ g.Year ∧ g.Year ≤ 2999 := by
 simp only [Zn, Bool.and_eq_true] at h
 exact ZS.1 h.1.1.2

theorem ZoH (s : Str) : seq s s = true := by unfold seq; simp

theorem Zm1 : ∀ (k u : Nat), u < 10 ^ (k + 1) → (Lib.decDigits u).length ≤ k + 1
 | 0, u, h => by rw [Lib.decDigits, dif_pos (by simpa using h)]; simp
 | k + 1, u, h => by
  by_cases hu : u < 10
  ·rw [Lib.decDigits, dif_pos hu]; simp
  ·rw [Nat.pow_succ] at h
   rw [Lib.decDigits, dif_neg hu, List.length_append]
   have := Zm1 k (u / 10) (by omega)
   simp; omega
theorem ZgG {n : Int} (h0 : 0 ≤ n) : Lib.itoa n = Lib.decDigits n.toNat := by
 unfold Lib.itoa
 rw [if_neg (by omega)]
theorem Za6 {n : Int} (h0 : 0 ≤ n) (h1 : n ≤ 1000000000) : (Lib.itoa n).length ≤ 10 := by
 rw [ZgG h0]
 have h2 : (10 : Nat) ^ (9 + 1) = 10000000000 := by decide
 exact Zm1 9 _ (by omega)

theorem Zbh {n : Int} (h0 : 0 ≤ n) (h1 : n ≤ 1000000000) : Zae n = some ⟨Lib.itoa n⟩ := by
 unfold Zae ZeY
 rw [Za ⟨by omega, by omega⟩]
 rfl

theorem Zsr {m : Nat} (h : m < 10) : Ze3 ((m : Nat) : Int) = some (UInt8.ofNat (48 + m)) := by
 unfold Ze3 u8of
 rw [decide_eq_true (show ((m : Nat) : Int) < 10 by omega), cond_true, ZO (by omega) (by omega)]
 have : ((48 + (m : Int)) % 256).toNat = 48 + m := by omega
 rw [this]
theorem ZnK : ∀ (k m : Nat), m ≤ k → 0 < m → m ≤ 1000000000 → ∀ (s : Str) (fuel : Nat), s.b.length + m ≤ 2000000000 → m + 1 < fuel → whO Za1 fuel ((m : Int), s) = some (.inl (0, ⟨Lib.decDigits m ++ s.b⟩))
 | 0, m, hk, hm, _, _, _, _, _ => absurd hm (by omega)
 | k + 1, m, hk, hm, hb, s, fuel, hs, hf => by
  obtain ⟨fuel, rfl⟩ : ∃ q, fuel = q + 1 := ⟨fuel - 1, by omega⟩
  have hstep : Za1 ((m : Int), s) = some (.next (((m / 10 : Nat) : Int), ⟨UInt8.ofNat (48 + m % 10) :: s.b⟩)) := by
   unfold Za1
   have h1 : (((m : Int) != 0)) = true := by simp; omega
   have h2 : (m : Int).tmod 10 = ((m % 10 : Nat) : Int) := rfl
   have h3 : (m : Int).tdiv 10 = ((m / 10 : Nat) : Int) := rfl
   simp only [h1, cond_true, h2, h3]
   rw [decide_eq_false (show ¬ ((m % 10 : Nat) : Int) < 0 by omega), cond_false, Zsr (by omega)]
   simp only [Option.bind_some, List.length_cons, List.length_nil]
   rw [Za (by omega), ZO (by omega) (by omega)]
   rfl
  rw [whO, hstep]
  simp only [Option.bind_some]
  by_cases h10 : m < 10
  ·obtain ⟨fuel, rfl⟩ : ∃ q, fuel = q + 1 := ⟨fuel - 1, by omega⟩
   have e0 : m / 10 = 0 := by omega
   have e1 : m % 10 = m := by omega
   rw [e0, e1, Lib.decDigits, dif_pos h10, whO]
   rfl
  ·rw [ZnK k (m / 10) (by omega) (by omega) (by omega) _ fuel (by simp only [List.length_cons]; omega) (by omega)]
   rw [show Lib.decDigits m = Lib.decDigits (m / 10) ++ [UInt8.ofNat (48 + m % 10)] by rw [Lib.decDigits, dif_neg h10]]
   simp
theorem Zay {n : Int} (h0 : 0 ≤ n) (h1 : n ≤ 1000000000) : ZJ n = some ⟨Lib.itoa n⟩ := by
 obtain ⟨m, rfl⟩ := Int.eq_ofNat_of_zero_le h0
 rw [ZgG h0, Int.toNat_natCast]
 unfold ZJ
 by_cases hz : m = 0
 ·subst hz
  rw [Lib.decDigits]
  rfl
 ·have hb : (((m : Nat) : Int) == 0) = false := by simpa using hz
  rw [hb, cond_false]
  have := ZnK m m (Nat.le_refl _) (by omega) (by omega) ⟨[]⟩ 18446744073709551616 (by simp only [List.length_nil]; omega) (by omega)
  unfold wlO
  rw [this]
  simp only [Option.map_some, lpk, Option.bind_some]
  rw [decide_eq_false (show ¬ ((m : Nat) : Int) < 0 by omega)]
  simp

def ZiD (ns : List Int) : List UInt8 := (ns.map fun n => 32 :: Lib.itoa n).flatten
def ZbB (word : List UInt8) (ns : List Int) : List UInt8 := word ++ ZiD ns
theorem ZmE : ∀ {ns : List Int}, (∀ n ∈ ns, 0 ≤ n ∧ n ≤ 1000000000) → (ZiD ns).length ≤ 11 * ns.length
 | [], _ => by simp [ZiD]
 | n :: ns, h => by
  have h1 := ZmE (ns := ns) fun x hx => h x (by simp [hx])
  have h2 := Za6 (h n (by simp)).1 (h n (by simp)).2
  unfold ZiD at h1 ⊢
  simp only [List.map_cons, List.flatten_cons, List.length_append, List.length_cons]
  omega
theorem ZhV {word : List UInt8} {ns : List Int} (hw : word.length ≤ 100) (h : ∀ n ∈ ns, 0 ≤ n ∧ n ≤ 1000000000) (hl : ns.length ≤ 100) : (ZbB word ns).length ≤ 1200 := by
 have := ZmE h
 unfold ZbB
 rw [List.length_append]; omega

theorem ZcI {word : Str} {ns : List Int} (hw : word.b.length ≤ 100) (h : ∀ n ∈ ns, 0 ≤ n ∧ n ≤ 1000000000) (hl : ns.length ≤ 100) : ZbM word ns = some ⟨ZbB word.b ns⟩ := by
 have hlen := ZhV hw h hl
 unfold ZbM
 rw [Za (by omega), ZbH (f := Zg3 ns) (xs := [word]) (fun k => (⟨Lib.itoa (gx ns k)⟩ : Str)) (fun k s hk hs => by
  have hn := h _ (ZX hk)
  unfold Zg3
  rw [Zbh hn.1 hn.2]
  simp only [Option.bind_some]
  rw [Za (by simp at hs; omega)])]
 simp only [Option.bind_some]
 rw [ZcR (fun n => (⟨Lib.itoa n⟩ : Str)) ns]
 have hj : Lib.join ((([word] : List Str) ++ ns.map fun n => (⟨Lib.itoa n⟩ : Str)).map Str.b) [32] = ZbB word.b ns := by
  rw [List.singleton_append, List.map_cons, List.map_map, Lib.join_cons]
  unfold ZbB ZiD Lib.joinTail
  rw [List.map_map]
  rfl
 unfold strings_Join
 simp only [hj]
 rw [Za ⟨by simp; omega, by omega⟩]
 rfl

theorem ZmY {f : Nat → Str → Option (Res Str Empty)} {N : Nat} {x : Nat → Int} (word : Str) (hw : word.b.length ≤ 100) (hx : ∀ k, k < N → 0 ≤ x k ∧ x k ≤ 1000000000) (hN : N ≤ 100) (h : ∀ k s, k < N → s.b.length ≤ 1200 → f k s = some (.next (sadd (sadd s ⟨[32]⟩) ⟨Lib.itoa (x k)⟩))) : lpO f N word = some ⟨ZbB word.b ((List.range N).map x)⟩ :=
 ZaL (fun k => (⟨ZbB word.b ((List.range k).map x)⟩ : Str)) (by simp [ZbB, ZiD]) fun k hk => by
  have hlen : (ZbB word.b ((List.range k).map x)).length ≤ 1200 := ZhV hw (fun n hn => by
   obtain ⟨j, hj, rfl⟩ := List.mem_map.1 hn
   have hj' : j < k := by simpa using hj
   exact hx j (by omega)) (by simp; omega)
  rw [h k ⟨ZbB word.b ((List.range k).map x)⟩ hk hlen]
  simp [List.range_succ, ZbB, ZiD, sadd]

def ZaA (k : Int) : List UInt8 := bif k == 1 then [97, 100, 109, 105, 116] else bif k == 2 then [115, 117, 98, 109, 105, 116] else bif k == 3 then [115, 101, 119] else bif k == 6 then [108, 97, 99, 107] else bif k == 4 then [114, 111, 117, 110, 100] else [121, 101, 97, 114]
def Zat (a : GAct) : List Int := bif a.Kind == 2 then [a.A, a.B] else bif a.Kind == 4 || a.Kind == 5 then [] else [a.A]
def actL (a : GAct) : Str := ⟨ZbB (ZaA a.Kind) (Zat a)⟩
def Ze6 (a : GAct) : Str × Bool := bif ZM a then (actL a, true) else (⟨[]⟩, false)
theorem Zbb {a : GAct} (h : ZM a = true) : (a.Kind = 1 ∨ a.Kind = 2 ∨ a.Kind = 3 ∨ a.Kind = 4 ∨ a.Kind = 5 ∨ a.Kind = 6) ∧ 0 ≤ a.A ∧ a.A ≤ 999 ∧ 0 ≤ a.B ∧ a.B ≤ 9 := by
 unfold ZM at h
 cases k1 : a.Kind == 1
 ·cases k2 : a.Kind == 2
  ·cases k3 : a.Kind == 3
   ·cases k6 : a.Kind == 6
    ·cases k4 : a.Kind == 4
     ·cases k5 : a.Kind == 5
      ·rw [k1, k2, k3, k4, k5, k6] at h; cases h
      ·rw [k1, k2, k3, k4, k5, k6] at h
       simp at h k5
       exact ⟨by omega, by omega, by omega, by omega, by omega⟩
     ·rw [k1, k2, k3, k4, k6] at h
      simp at h k4
      exact ⟨by omega, by omega, by omega, by omega, by omega⟩
    ·rw [k1, k2, k3, k6] at h
     simp [inR] at h k6
     exact ⟨by omega, by omega, by omega, by omega, by omega⟩
   ·rw [k1, k2, k3] at h
    simp [inR] at h k3
    exact ⟨by omega, by omega, by omega, by omega, by omega⟩
  ·rw [k1, k2] at h
   simp [inR] at h k2
   exact ⟨by omega, by omega, by omega, by omega, by omega⟩
 ·rw [k1] at h
  simp [inR] at h k1
  exact ⟨by omega, by omega, by omega, by omega, by omega⟩

theorem Zja (a : GAct) : ZcC a = some (Ze6 a) := by
 unfold ZcC Ze6
 rw [ZlW]
 simp only [Option.bind_some]
 cases h : ZM a
 ·rfl
 obtain ⟨hk, a0, a1, b0, b1⟩ := Zbb h
 have one : ∀ n ∈ ([a.A] : List Int), 0 ≤ n ∧ n ≤ 1000000000 := fun n hn => by
  rw [List.mem_singleton.1 hn]; omega
 have two : ∀ n ∈ ([a.A, a.B] : List Int), 0 ≤ n ∧ n ≤ 1000000000 := fun n hn => by
  simp only [List.mem_cons, List.not_mem_nil, or_false] at hn
  rcases hn with rfl | rfl <;> omega
 simp only [Bool.not_true, cond_false, cond_true]
 rw [ZcI (by simp) one (by simp), ZcI (by simp) two (by simp), ZcI (by simp) one (by simp), ZcI (by simp) one (by simp)]
 unfold actL ZaA Zat
 rcases hk with k | k | k | k | k | k <;> rw [k] <;> rfl

theorem ZnE (a : GAct) : Zip a = some (Ze6 a) := by
 unfold Zip Ze6
 rw [Zl2]
 simp only [Option.bind_some]
 cases h : ZM a
 ·rfl
 obtain ⟨hk, a0, a1, b0, b1⟩ := Zbb h
 have hx : ∀ k : Nat, k < 2 → 0 ≤ gx ([a.A, a.B] : List Int) k ∧ gx ([a.A, a.B] : List Int) k ≤ 1000000000 := fun k hk => by
  have h2 : k = 0 ∨ k = 1 := by omega
  rcases h2 with rfl | rfl
  ·show 0 ≤ a.A ∧ a.A ≤ 1000000000; omega
  ·show 0 ≤ a.B ∧ a.B ≤ 1000000000; omega
 have lp : ∀ (N : Nat) (word : Str), N ≤ 2 → word.b.length ≤ 100 → lpO (Zhj a) N word = some ⟨ZbB word.b ((List.range N).map fun k => gx ([a.A, a.B] : List Int) k)⟩ := fun N word hN hw => ZmY word hw (fun k hk => hx k (by omega)) (by omega) fun k s hk hs => by
  have h1 := hx k (by omega)
  have h2 := Za6 h1.1 h1.2
  unfold Zhj
  rw [Za (by simp only [List.length_cons, List.length_nil]; omega), Za (by simp only [List.length_cons, List.length_nil]; omega), Zay h1.1 h1.2]
  simp only [Option.bind_some, sadd, List.length_append, List.length_cons, List.length_nil]
  rw [Za (by omega)]
 simp only [Bool.not_true, cond_false, cond_true]
 have hkr : 1 ≤ a.Kind ∧ a.Kind ≤ 6 := by omega
 rw [Za ⟨by omega, by simp only [List.length_cons, List.length_nil]; omega⟩, Za ⟨by omega, by simp only [List.length_cons, List.length_nil]; omega⟩]
 unfold actL ZaA Zat
 rcases hk with k | k | k | k | k | k <;> rw [k]
 ·rw [show (gx ([0, 1, 2, 1, 0, 0, 1] : List Int) (1 : Int).toNat).toNat = 1 from rfl, Za (by omega), lp 1 _ (by omega) (by decide)]; rfl
 ·rw [show (gx ([0, 1, 2, 1, 0, 0, 1] : List Int) (2 : Int).toNat).toNat = 2 from rfl, Za (by omega), lp 2 _ (by omega) (by decide)]; rfl
 ·rw [show (gx ([0, 1, 2, 1, 0, 0, 1] : List Int) (3 : Int).toNat).toNat = 1 from rfl, Za (by omega), lp 1 _ (by omega) (by decide)]; rfl
 ·rw [show (gx ([0, 1, 2, 1, 0, 0, 1] : List Int) (4 : Int).toNat).toNat = 0 from rfl, Za (by omega), lp 0 _ (by omega) (by decide)]; rfl
 ·rw [show (gx ([0, 1, 2, 1, 0, 0, 1] : List Int) (5 : Int).toNat).toNat = 0 from rfl, Za (by omega), lp 0 _ (by omega) (by decide)]; rfl
 ·rw [show (gx ([0, 1, 2, 1, 0, 0, 1] : List Int) (6 : Int).toNat).toNat = 1 from rfl, Za (by omega), lp 1 _ (by omega) (by decide)]; rfl

theorem Zhm (c : GCell) : (Z9 c).length ≤ 3 := by
 unfold Z9
 cases c.Split == 1
 ·cases c.Split == 2 <;> simp
 ·simp
def blkT (c : Nat → List UInt8) (n : Nat) : Nat → List UInt8
 | 0 => []
 | k + 1 => blkT c n k ++ ((bif decide (k > 0) && (k % n == 0) then [59] else bif decide (k > 0) then [44] else []) ++ c k)
theorem ZnV {c : Nat → List UInt8} {n : Nat} (h : ∀ k, (c k).length ≤ 3) : ∀ k, (blkT c n k).length ≤ 4 * k
 | 0 => by simp [blkT]
 | k + 1 => by
  have h1 := ZnV (n := n) h k
  have h2 := h k
  unfold blkT
  cases decide (k > 0) && (k % n == 0)
  ·cases decide (k > 0)
   ·simp; omega
   ·simp; omega
  ·simp; omega
theorem ZuZ (c : Nat → List UInt8) {n : Nat} (h1 : 1 ≤ n) (h4 : n ≤ 4) : Lib.join ((List.range n).map fun y => Lib.join ((List.range n).map fun x => c (y * n + x)) [44]) [59] = blkT c n (n * n) := by
 have hn : n = 1 ∨ n = 2 ∨ n = 3 ∨ n = 4 := by omega
 rcases hn with rfl | rfl | rfl | rfl <;> simp [blkT, List.range, List.range.loop, Lib.join_cons, Lib.joinTail]
def Zfn (b : GBlock) : List UInt8 := bif Ze b then blkT (fun k => Z9 (gx b.Cells k)) b.Size.toNat b.Cells.length else []
theorem Zi9 (b : GBlock) : (Zfn b).length ≤ 64 := by
 unfold Zfn
 cases h : Ze b
 ·simp
 ·obtain ⟨n, hn, n1, n4, hl, _⟩ := Zs h
  have hnn : n * n ≤ 4 * 4 := Nat.mul_le_mul n4 n4
  have := ZnV (c := fun k => Z9 (gx b.Cells k)) (n := b.Size.toNat) (fun k => Zhm _) b.Cells.length
  rw [cond_true]; omega

theorem ZnB {b : GBlock} (hlen : b.Cells.length ≤ 1048576) : ZiB b = some ⟨Zfn b⟩ := by
 unfold ZiB Zfn
 rw [Za (by omega)]
 cases h : Ze b
 ·rcases Nat.eq_zero_or_pos b.Cells.length with e | e
  ·rw [e]; rfl
  ·unfold lpO
   rw [ZlE (f := Zdh b) (fun _ => (⟨[]⟩ : Str)) rfl 0 e (fun k hk => by omega) (s' := ⟨[]⟩) (by
    simp only [Zdh, Z5, h, Option.bind_some, cond_false])]
   rfl
 ·obtain ⟨n, hn, n1, n4, hl, hc⟩ := Zs h
  have hnn : n * n ≤ 4 * 4 := Nat.mul_le_mul n4 n4
  rw [ZaL (f := Zdh b) (s0 := (⟨[]⟩ : Str)) (fun k => (⟨blkT (fun k => Z9 (gx b.Cells k)) b.Size.toNat k⟩ : Str)) rfl (fun k hk => by
   have hbl := ZnV (c := fun k => Z9 (gx b.Cells k)) (n := b.Size.toNat) (fun k => Zhm _) k
   have hcl := Zhm (gx b.Cells k)
   have hck := hc _ (ZX hk)
   have hbn : b.Size.toNat = n := by omega
   simp only [Zdh, Z5, h, Option.bind_some, cond_true, ZjH hck, blkT]
   have hm : (((k : Nat) : Int).tmod b.Size == 0) = (k % b.Size.toNat == 0) := by
    rw [hn, Zsb, Int.toNat_natCast]
    exact ZkD _ 0
   have hd : decide (((k : Nat) : Int) > 0) = decide (k > 0) := by
    rw [Bool.eq_iff_iff, decide_eq_true_iff, decide_eq_true_iff]; omega
   rw [hm, hd]
   cases hk0 : decide (k > 0)
   ·simp only [cond_false, Option.bind_some, Bool.false_and]
    rw [Za (by omega)]
    rfl
   ·simp only [cond_true, Bool.true_and]
    rw [Za (by omega)]
    simp only [Option.bind_some]
    cases k % b.Size.toNat == 0
    ·simp only [cond_false]
     rw [Za (by simp only [List.length_cons, List.length_nil]; omega)]
     simp only [Option.bind_some]
     rw [Za (by simp only [sadd, List.length_append, List.length_cons, List.length_nil]; omega)]
     simp [sadd]
    ·simp only [cond_true]
     rw [Za (by simp only [List.length_cons, List.length_nil]; omega)]
     simp only [Option.bind_some]
     rw [Za (by simp only [sadd, List.length_append, List.length_cons, List.length_nil]; omega)]
     simp [sadd])]
  rfl

theorem Zp1 (sep : List UInt8) : ∀ (xs : List (List UInt8)) (B : Nat), (∀ x ∈ xs, x.length ≤ B) → sep.length ≤ 1 → (Lib.join xs sep).length ≤ (B + 1) * xs.length
 | [], _, _, _ => by simp [Lib.join_nil]
 | x :: r, B, h, hs => by
  have hx := h x (by simp)
  have ht : ∀ r : List (List UInt8), (∀ x ∈ r, x.length ≤ B) → (Lib.joinTail sep r).length ≤ (B + 1) * r.length := fun r => by
   induction r with
   | nil => intro _; simp [Lib.joinTail]
   | cons y r ih =>
    intro hr
    have h1 := ih fun z hz => hr z (by simp [hz])
    have h2 := hr y (by simp)
    unfold Lib.joinTail at h1 ⊢
    simp only [List.map_cons, List.flatten_cons, List.length_append, List.length_cons] at h1 ⊢
    rw [Nat.mul_add]; omega
  have h2 := ht r fun y hy => h y (by simp [hy])
  rw [Lib.join_cons, List.length_append, List.length_cons, Nat.mul_add]
  omega
theorem ZnI (b : GBlock) : ZeO b = some ⟨Zfn b⟩ := by
 unfold ZeO Zfn
 rw [ZV]
 simp only [Option.bind_some]
 cases h : Ze b
 ·rfl
 ·obtain ⟨n, hn, n1, n4, hl, hc⟩ := Zs h
  have hnn : n * n ≤ 4 * 4 := Nat.mul_le_mul n4 n4
  have row : ∀ y, y < n → lpO (Zdc b y) n ([] : List Str) = some ((List.range n).map fun x => (⟨Z9 (gx b.Cells (y * n + x))⟩ : Str)) := fun y hy => by
   rw [ZbH (f := Zdc b y) (xs := []) (fun x => (⟨Z9 (gx b.Cells (y * n + x))⟩ : Str)) (fun x s hx hs => by
    have hi := ZiR hy hx
    simp only [Zdc, Zhe, Option.bind_some]
    rw [ZiE h hn hx hy, ZjO (hc _ (ZX (by omega)))]
    simp only [Option.bind_some]
    rw [Za (by simp at hs; omega)])]
   rfl
  have rowj : ∀ y, y < n → strings_Join ((List.range n).map fun x => (⟨Z9 (gx b.Cells (y * n + x))⟩ : Str)) ⟨[44]⟩ = some ⟨Lib.join ((List.range n).map fun x => Z9 (gx b.Cells (y * n + x))) [44]⟩ := fun y hy => by
   have e : ((List.range n).map fun x => (⟨Z9 (gx b.Cells (y * n + x))⟩ : Str)).map Str.b = (List.range n).map fun x => Z9 (gx b.Cells (y * n + x)) := by rw [List.map_map]; rfl
   have hle := Zp1 [44] ((List.range n).map fun x => Z9 (gx b.Cells (y * n + x))) 3 (fun z hz => by
    obtain ⟨x, _, rfl⟩ := List.mem_map.1 hz
    exact Zhm _) (by simp)
   simp only [List.length_map, List.length_range] at hle
   unfold strings_Join
   rw [e, Za ⟨by simp; omega, by simp only; omega⟩]
  have hrl : ∀ y, (Lib.join ((List.range n).map fun x => Z9 (gx b.Cells (y * n + x))) [44]).length ≤ 16 := fun y => by
   have hle := Zp1 [44] ((List.range n).map fun x => Z9 (gx b.Cells (y * n + x))) 3 (fun z hz => by
    obtain ⟨x, _, rfl⟩ := List.mem_map.1 hz
    exact Zhm _) (by simp)
   simp only [List.length_map, List.length_range] at hle
   omega
  simp only [Bool.not_true, cond_false, cond_true, hn, Int.toNat_natCast]
  rw [Za (by omega), ZbH (f := ZeA b) (xs := []) (fun y => (⟨Lib.join ((List.range n).map fun x => Z9 (gx b.Cells (y * n + x))) [44]⟩ : Str)) (fun y s hy hs => by
   unfold ZeA
   rw [hn, Int.toNat_natCast, row y hy]
   simp only [Option.bind_some]
   rw [rowj y hy]
   simp only [Option.bind_some]
   rw [Za (by simp at hs; omega)])]
  have e : (([] : List Str) ++ (List.range n).map fun y => (⟨Lib.join ((List.range n).map fun x => Z9 (gx b.Cells (y * n + x))) [44]⟩ : Str)).map Str.b = (List.range n).map fun y => Lib.join ((List.range n).map fun x => Z9 (gx b.Cells (y * n + x))) [44] := by rw [List.nil_append, List.map_map]; rfl
  have hle := Zp1 [59] ((List.range n).map fun y => Lib.join ((List.range n).map fun x => Z9 (gx b.Cells (y * n + x))) [44]) 16 (fun z hz => by
   obtain ⟨y, _, rfl⟩ := List.mem_map.1 hz
   exact hrl y) (by simp)
  simp only [List.length_map, List.length_range] at hle
  simp only [Option.bind_some]
  unfold strings_Join
  rw [e, Za ⟨by simp; omega, by simp only; omega⟩]
  simp only [Option.bind_some]
  rw [ZuZ (fun k => Z9 (gx b.Cells k)) n1 n4, hl]

def entL (e : GEntry) : Str := ⟨((Lib.itoa e.Owner ++ [32]) ++ Lib.itoa e.Day) ++ [32] ++ Zfn e.Block⟩
def Zrn (g : GGuild) : Str := ⟨([114, 111, 117, 110, 100, 32] ++ Lib.itoa g.Round) ++ [47] ++ Lib.itoa (Zbu g)⟩
def Zic (g : GGuild) : List Str := [⟨ZbB [109, 101, 109, 98, 101, 114, 115] (g.Members.map fun m => m.Number)⟩, ⟨ZbB [115, 116, 111, 99, 107] g.Stock⟩]
def ZaE (g : GGuild) : List Str := bif Zn g then Zic g ++ g.Entries.map entL ++ [Zrn g, ⟨ZbB [121, 101, 97, 114] [g.Year]⟩] else []
theorem Zlh {g : GGuild} (h : Zn g = true) : g.Members.length ≤ 40 ∧ g.Stock.length = 6 ∧ g.Entries.length ≤ 10 ∧ (∀ n ∈ g.Members.map (fun m => m.Number), 0 ≤ n ∧ n ≤ 1000000000) ∧ (∀ n ∈ g.Stock, 0 ≤ n ∧ n ≤ 1000000000) ∧ (∀ k, k < g.Entries.length → (0 ≤ (gx g.Entries k).Owner ∧ (gx g.Entries k).Owner ≤ 1000000000) ∧ (0 ≤ (gx g.Entries k).Day ∧ (gx g.Entries k).Day ≤ 1000000000)) ∧ (0 ≤ g.Round ∧ g.Round ≤ 1000000000) ∧ (0 ≤ Zbu g ∧ Zbu g ≤ 1000000000) ∧ 0 ≤ g.Year ∧ g.Year ≤ 1000000000 := by
 obtain ⟨m1, m2, m3, m4, m5⟩ := Zeo h
 obtain ⟨sl, sb⟩ := Ze7 m2
 have rb := ZrT g
 have gr := Zsi h
 have gy := Zto h
 refine ⟨ZhT m1, sl, m4, fun n hn => ?_, fun n hn => ?_, fun k hk => ?_, by omega, by omega, by omega⟩
 ·obtain ⟨m, hm, rfl⟩ := List.mem_map.1 hn
  simp only [ZE, Bool.and_eq_true, List.all_eq_true, List.mem_range] at m1
  obtain ⟨k, hk, rfl⟩ := List.getElem_of_mem hm
  have := m1.1 k hk
  rw [← Zbm hk]
  simp only [memP, Bool.and_eq_true] at this
  have := ZS.1 this.1.1.1
  omega
 ·obtain ⟨k, hk, rfl⟩ := List.getElem_of_mem hn
  have := sb k (by omega)
  rw [← Zbm hk]
  omega
 ·simp only [Zn, Bool.and_eq_true, List.all_eq_true, List.mem_range] at h
  have := h.1.2 k hk
  simp only [entP, Zc5, Bool.and_eq_true] at this
  have o := ZS.1 this.1.1.1.1
  have d := ZS.1 this.1.1.1.2
  omega

theorem ZdT {g : GGuild} (hg : GL g) : ZbO g = some (ZaE g) := by
 unfold ZbO ZaE
 rw [ZbG g hg]
 simp only [Option.bind_some]
 cases h : Zn g
 ·rfl
 obtain ⟨ml, sl, el, hm, hs, he, ⟨r0, r1⟩, ⟨q0, q1⟩, y0, y1⟩ := Zlh h
 have i1 := Za6 r0 r1
 have i2 := Za6 q0 q1
 simp only [Bool.not_true, cond_false, cond_true]
 rw [Za (by omega), ZbH (f := ZdY g) (xs := []) (fun k => (gx g.Members k).Number) (fun k s hk hs => by
  unfold ZdY
  rw [Za (by simp at hs; omega)]), ZcR (fun m : GMember => m.Number) g.Members, List.nil_append]
 simp only [Option.bind_some]
 rw [ZcI (by simp) hm (by simp; omega)]
 simp only [Option.bind_some]
 rw [ZcI (by simp) hs (by omega)]
 simp only [Option.bind_some]
 rw [show ([(⟨ZbB [109, 101, 109, 98, 101, 114, 115] (g.Members.map fun m => m.Number)⟩ : Str), ⟨ZbB [115, 116, 111, 99, 107] g.Stock⟩] : List Str) = Zic g from rfl]
 rw [Za (by omega), ZbH (f := ZdX g) (xs := Zic g) (fun k => entL (gx g.Entries k)) (fun k s hk hs => by
  obtain ⟨⟨o0, o1⟩, d0, d1⟩ := he k hk
  have a1 := Za6 o0 o1
  have a2 := Za6 d0 d1
  have a3 := Zi9 (gx g.Entries k).Block
  have hsl : s.length ≤ 12 := by simp [Zic] at hs; omega
  unfold ZdX
  rw [Zbh o0 o1]
  simp only [Option.bind_some]
  rw [Za (by simp only [List.length_cons, List.length_nil]; omega), Zbh d0 d1]
  simp only [Option.bind_some]
  rw [Za (by simp only [sadd, List.length_append, List.length_cons, List.length_nil]; omega), Za (by simp only [sadd, List.length_append, List.length_cons, List.length_nil]; omega), ZnI]
  simp only [Option.bind_some]
  rw [Za (by simp only [sadd, List.length_append, List.length_cons, List.length_nil]; omega), Za (by omega)]
  rfl), ZcR entL g.Entries]
 simp only [Option.bind_some]
 rw [Zbh r0 r1]
 simp only [Option.bind_some]
 rw [Za (by simp only [List.length_cons, List.length_nil]; omega), Za (by simp only [sadd, List.length_append, List.length_cons, List.length_nil]; omega), ZgL g hg.1]
 simp only [Option.bind_some]
 rw [Zbh q0 q1]
 simp only [Option.bind_some]
 rw [Za (by simp only [sadd, List.length_append, List.length_cons, List.length_nil]; omega), ZcI (by simp) (fun n hn => by rw [List.mem_singleton.1 hn]; exact ⟨y0, y1⟩) (by simp)]
 simp only [Option.bind_some]
 rw [Za (by simp [Zic]; omega)]
 rfl

theorem Zmd {g : GGuild} (hg : GL g) : ZhM g = some (ZaE g) := by
 unfold ZhM ZaE
 rw [Zaq g hg]
 simp only [Option.bind_some]
 cases h : Zn g
 ·rfl
 obtain ⟨ml, sl, el, hm, hs, he, ⟨r0, r1⟩, ⟨q0, q1⟩, y0, y1⟩ := Zlh h
 have i1 := Za6 r0 r1
 have i2 := Za6 q0 q1
 have i3 := Za6 y0 y1
 have hmk : ∀ k, k < g.Members.length → 0 ≤ (gx g.Members k).Number ∧ (gx g.Members k).Number ≤ 1000000000 := fun k hk => hm _ (List.mem_map.2 ⟨_, ZX hk, rfl⟩)
 have hsk : ∀ k, k < g.Stock.length → 0 ≤ gx g.Stock k ∧ gx g.Stock k ≤ 1000000000 := fun k hk => hs _ (ZX hk)
 simp only [Bool.not_true, cond_false, cond_true]
 rw [Za (by omega), ZmY (f := Zf9 g) (x := fun k => (gx g.Members k).Number) _ (by simp) hmk (by omega) (fun k s hk hs => by
  obtain ⟨h1, h2⟩ := hmk k hk
  have h3 := Za6 h1 h2
  unfold Zf9
  rw [Za (by simp only [List.length_cons, List.length_nil]; omega), Zay h1 h2]
  simp only [Option.bind_some, sadd, List.length_append, List.length_cons, List.length_nil]
  rw [Za (by omega)]), ZcR (fun m : GMember => m.Number) g.Members]
 simp only [Option.bind_some]
 rw [Za (by omega), ZmY (f := Zf7 g) (x := fun k => gx g.Stock k) _ (by simp) hsk (by omega) (fun k s hk hs => by
  obtain ⟨h1, h2⟩ := hsk k hk
  have h3 := Za6 h1 h2
  unfold Zf7
  rw [Za (by simp only [List.length_cons, List.length_nil]; omega), Zay h1 h2]
  simp only [Option.bind_some, sadd, List.length_append, List.length_cons, List.length_nil]
  rw [Za (by omega)])]
 have hst : (List.range g.Stock.length).map (fun k => gx g.Stock k) = g.Stock := by
  have := ZcR id g.Stock
  simpa using this
 rw [hst]
 simp only [Option.bind_some]
 rw [show ([(⟨ZbB [109, 101, 109, 98, 101, 114, 115] (g.Members.map fun m => m.Number)⟩ : Str), ⟨ZbB [115, 116, 111, 99, 107] g.Stock⟩] : List Str) = Zic g from rfl]
 rw [Za (by omega), ZbH (f := Zga g) (xs := Zic g) (fun k => entL (gx g.Entries k)) (fun k s hk hs => by
  obtain ⟨⟨o0, o1⟩, d0, d1⟩ := he k hk
  have a1 := Za6 o0 o1
  have a2 := Za6 d0 d1
  have a3 := Zi9 (gx g.Entries k).Block
  have hb := Zb7 (Zdq ((Zeo h).2.2.2.2 k hk))
  have hsl : s.length ≤ 12 := by simp [Zic] at hs; omega
  unfold Zga
  rw [Zay o0 o1]
  simp only [Option.bind_some]
  rw [Za (by simp only [List.length_cons, List.length_nil]; omega), Zay d0 d1]
  simp only [Option.bind_some]
  rw [Za (by simp only [sadd, List.length_append, List.length_cons, List.length_nil]; omega), Za (by simp only [sadd, List.length_append, List.length_cons, List.length_nil]; omega), ZnB hb]
  simp only [Option.bind_some]
  rw [Za (by simp only [sadd, List.length_append, List.length_cons, List.length_nil]; omega), Za (by omega)]
  rfl), ZcR entL g.Entries]
 simp only [Option.bind_some]
 rw [Zay r0 r1]
 simp only [Option.bind_some]
 rw [Za (by simp only [List.length_cons, List.length_nil]; omega), Za (by simp only [sadd, List.length_append, List.length_cons, List.length_nil]; omega), Zgw g hg.1]
 simp only [Option.bind_some]
 rw [Zay q0 q1]
 simp only [Option.bind_some]
 rw [Za (by simp only [sadd, List.length_append, List.length_cons, List.length_nil]; omega), Zay y0 y1]
 simp only [Option.bind_some]
 rw [Za (by simp only [List.length_cons, List.length_nil]; omega), Za (by simp [Zic]; omega)]
 simp [Zrn, sadd, ZbB, ZiD]

theorem Zkl {g : GGuild} (h : Zn g = true) : (ZaE g).length = g.Entries.length + 4 := by
 unfold ZaE Zic
 rw [h]
 simp

theorem Zni {g : GGuild} (h : Zn g = true) : ∀ x ∈ ZaE g, x.b.length ≤ 1048576 := fun x hx => by
 obtain ⟨ml, sl, el, hm, hs, he, ⟨r0, r1⟩, ⟨q0, q1⟩, y0, y1⟩ := Zlh h
 have i1 := Za6 r0 r1
 have i2 := Za6 q0 q1
 unfold ZaE Zic at hx
 rw [h, cond_true] at hx
 simp only [List.mem_append, List.mem_cons, List.not_mem_nil, or_false, List.mem_map] at hx
 rcases hx with ((rfl | rfl) | ⟨e, hme, rfl⟩) | rfl | rfl
 ·have := ZhV (word := [109, 101, 109, 98, 101, 114, 115]) (by simp) hm (by simp; omega)
  show (ZbB _ _).length ≤ _
  omega
 ·have := ZhV (word := [115, 116, 111, 99, 107]) (by simp) hs (by omega)
  show (ZbB _ _).length ≤ _
  omega
 ·obtain ⟨k, hk, rfl⟩ := List.getElem_of_mem hme
  obtain ⟨⟨o0, o1⟩, d0, d1⟩ := he k hk
  rw [← Zbm hk]
  have a1 := Za6 o0 o1
  have a2 := Za6 d0 d1
  have a3 := Zi9 (gx g.Entries k).Block
  simp only [entL, List.length_append, List.length_cons, List.length_nil]
  omega
 ·simp only [Zrn, List.length_append, List.length_cons, List.length_nil]
  omega
 ·have := ZhV (word := [121, 101, 97, 114]) (ns := [g.Year]) (by simp) (fun n hn => by rw [List.mem_singleton.1 hn]; exact ⟨y0, y1⟩) (by simp)
  show (ZbB _ _).length ≤ _
  omega

theorem Zot (g : GGuild) (h : Sm.ok g) : ∃ w, ZhM g = some w ∧ ZbO g = some w ∧ Sm.ok w := by
 have hg := Zei h
 refine ⟨_, Zmd hg, ZdT hg, ?_⟩
 cases hk : Zn g
 ·have : ZaE g = [] := by unfold ZaE; rw [hk]; rfl
  rw [this]
  exact ⟨by simp, fun _ hx => by cases hx⟩
 ·have h1 := Zkl hk
  have h2 := (Zeo hk).2.2.2.1
  exact ⟨by omega, fun x hx => Zni hk x hx⟩

theorem Zmg {a : List Str} (ha : a.length ≤ 1048576) : ZeX a a = some true := by
 unfold ZeX
 rw [bne_self_eq_false, cond_false, Za (by omega), ZjC (f := ZeD a a) (C := Bool) (s0 := ()) (fun _ => ()) rfl (fun k hk => by
  unfold ZeD
  rw [Za hk, ZoH]; rfl)]
 rfl
theorem Zrx {a : GAct} (h : ZM a = true) : (actL a).b.length ≤ 1200 := by
 obtain ⟨hk, a0, a1, b0, b1⟩ := Zbb h
 have one : ∀ n ∈ Zat a, 0 ≤ n ∧ n ≤ 1000000000 := fun n hn => by
  unfold Zat at hn
  cases h2 : a.Kind == 2
  ·cases h4 : a.Kind == 4 || a.Kind == 5
   ·rw [h2, h4] at hn
    rw [List.mem_singleton.1 hn]; omega
   ·rw [h2, h4] at hn; cases hn
  ·rw [h2] at hn
   simp only [cond_true, List.mem_cons, List.not_mem_nil, or_false] at hn
   rcases hn with rfl | rfl <;> omega
 have hl : (Zat a).length ≤ 100 := by
  unfold Zat
  cases a.Kind == 2
  ·cases a.Kind == 4 || a.Kind == 5 <;> simp
  ·simp
 have hw : (ZaA a.Kind).length ≤ 100 := by
  unfold ZaA
  rcases hk with k | k | k | k | k | k <;> rw [k] <;> decide
 exact ZhV hw one hl
def scrT (acts : List GAct) : Nat → List UInt8
 | 0 => []
 | k + 1 => scrT acts k ++ ((actL (gx acts k)).b ++ [10])
theorem ZoI {acts : List GAct} : ∀ k, (∀ j, j < k → ZM (gx acts j) = true) → (scrT acts k).length ≤ 1201 * k
 | 0, _ => by simp [scrT]
 | k + 1, h => by
  have h1 := ZoI k fun j hj => h j (by omega)
  have h2 := Zrx (h k (by omega))
  simp only [scrT, List.length_append, List.length_cons, List.length_nil]
  omega
def Znb (acts : List GAct) : Str × Bool := bif decide ((acts.length : Int) > 40) then (⟨[]⟩, false) else bif (List.range acts.length).all (fun k => ZM (gx acts k)) then (⟨scrT acts acts.length⟩, true) else (⟨[]⟩, false)

theorem ZmH (acts : List GAct) : Zee acts = some (Znb acts) := by
 unfold Zee Znb
 cases hd : decide ((acts.length : Int) > 40)
 ·have hl : acts.length ≤ 40 := by simp at hd; omega
  simp only [cond_false]
  rw [Za (by omega), ZlA (f := Zel acts) (N := acts.length) (s0 := (⟨[]⟩ : Str)) (c := ((⟨[]⟩ : Str), false)) (fun k => ZM (gx acts k)) (fun k => (⟨scrT acts k⟩ : Str)) rfl (fun k hk hp => by
   unfold Zel
   rw [Zja]
   unfold Ze6
   cases h : ZM (gx acts k)
   ·rfl
   ·have h1 := Zrx h
    have h2 := ZoI k hp
    simp only [cond_true, Option.bind_some, Bool.not_true, cond_false]
    rw [Za (by simp only [List.length_cons, List.length_nil]; omega), Za (by simp only [sadd, List.length_append, List.length_cons, List.length_nil]; omega)]
    rfl)]
  cases (List.range acts.length).all (fun k => ZM (gx acts k)) <;> rfl
 ·rfl

theorem ZmP {l : List UInt8} {b : UInt8} {n d : Nat} (h : Lib.decFrom 0 l = some n) (hd : Lib.digitVal b = some d) : Lib.decFrom 0 (l ++ [b]) = some (n * 10 + d) := by
 have := Lib.decFrom_take (l ++ [b]) l.length 0 n b d (by simpa using h) (by simp) hd
 rwa [List.take_of_length_le (by simp)] at this
theorem Zqb {m : Nat} (h : m < 10) : (UInt8.ofNat (48 + m)).toNat = 48 + m := by
 rw [UInt8.toNat_ofNat']
 omega
theorem ZsY {m : Nat} (h : m < 10) : Lib.digitVal (UInt8.ofNat (48 + m)) = some m := by
 unfold Lib.digitVal
 rw [Zqb h, if_pos (by omega)]
 congr 1; omega
theorem ZpX : ∀ (k m : Nat), m ≤ k → Lib.decFrom 0 (Lib.decDigits m) = some m
 | 0, m, h => by
  have e : m = 0 := by omega
  subst e
  rw [Lib.decDigits, dif_pos (by omega)]; rfl
 | k + 1, m, h => by
  by_cases h10 : m < 10
  ·rw [Lib.decDigits, dif_pos h10]
   have := ZmP (l := []) (n := 0) rfl (ZsY h10)
   simpa using this
  ·rw [Lib.decDigits, dif_neg h10, ZmP (ZpX k (m / 10) (by omega)) (ZsY (by omega))]
   congr 1; omega
theorem ZqB {m : Nat} {b : UInt8} (hb : b ∈ Lib.decDigits m) : 48 ≤ b.toNat ∧ b.toNat ≤ 57 := by
 obtain ⟨i, hi⟩ := List.mem_iff_getElem?.1 hb
 obtain ⟨d, hd⟩ := Lib.digit_of_decFrom _ _ _ (ZpX m m (Nat.le_refl _)) i b hi
 have := Lib.digitVal_eq hd
 omega
theorem Zub {m : Nat} : Lib.decDigits m ≠ [] := by
 rw [Lib.decDigits]
 split <;> simp
theorem Zon (m : Nat) : Lib.atoi (Lib.decDigits m) = some (m : Int) := by
 have hv := ZpX m m (Nat.le_refl _)
 cases hd : Lib.decDigits m with
 | nil => exact absurd hd Zub
 | cons b r =>
  have hb := ZqB (m := m) (b := b) (by rw [hd]; simp)
  rw [hd] at hv
  have h1 : (b == 45) = false := by
   rw [beq_eq_false_iff_ne]
   intro e; subst e
   have : (45 : UInt8).toNat = 45 := rfl
   omega
  have h2 : (b == 43) = false := by
   rw [beq_eq_false_iff_ne]
   intro e; subst e
   have : (43 : UInt8).toNat = 43 := rfl
   omega
  simp [Lib.atoi, h1, h2, Lib.decNat, hv]
theorem Zov {n m : Int} (h0 : 0 ≤ n) (h1 : 0 ≤ m) (h : Lib.itoa n = Lib.itoa m) : n = m := by
 rw [ZgG h0, ZgG h1] at h
 have a := Zon n.toNat
 have b := Zon m.toNat
 rw [h, b] at a
 have := Option.some.inj a
 omega
theorem Zjl {n : Int} (h0 : 0 ≤ n) {b : UInt8} (hb : b ∈ Lib.itoa n) : 48 ≤ b.toNat ∧ b.toNat ≤ 57 := by
 rw [ZgG h0] at hb
 exact ZqB hb
theorem ZsM {n : Int} (h0 : 0 ≤ n) : Lib.itoa n ≠ [] := by
 rw [ZgG h0]
 exact Zub

theorem Zi6 (n a b : Int) : Zq n a b = some (decide (n ≥ a) && decide (n ≤ b)) := rfl
theorem ZiT {n : Int} (h0 : 0 ≤ n) (h1 : n ≤ 1000000000) : ZbT ⟨Lib.itoa n⟩ = some (n, true) := by
 have hl := Za6 h0 h1
 unfold ZbT
 rw [decide_eq_false (show ¬ (((Lib.itoa n).length : Nat) : Int) > 10 by omega), cond_false]
 unfold strconv_Atoi
 rw [Za (show (Lib.itoa n).length ≤ 18 by omega)]
 have ha : Lib.atoi (Lib.itoa n) = some n := by
  rw [ZgG h0, Zon]
  congr 1; omega
 simp only [ha, Option.bind_some, Zi6, cond_false]
 rw [decide_eq_true (show n ≥ 0 from h0), decide_eq_true (show n ≤ 1000000000 from h1)]
 simp only [Bool.and_self, Bool.not_true, cond_false]
 rw [Zbh h0 h1]
 simp only [Option.bind_some, ZoH, Bool.not_true, cond_false]
theorem Znp {s : Str} (h : ∀ n : Int, 0 ≤ n → n ≤ 1000000000 → s.b ≠ Lib.itoa n) : ZbT s = some (0, false) := by
 unfold ZbT
 cases hd : decide (((s.b.length : Nat) : Int) > 10)
 ·have hl : s.b.length ≤ 10 := by simp at hd; omega
  simp only [cond_false]
  unfold strconv_Atoi
  rw [Za (show s.b.length ≤ 18 by omega)]
  cases ha : Lib.atoi s.b with
  | none => simp only [Option.bind_some, cond_true]
  | some n =>
   simp only [Option.bind_some, Zi6, cond_false]
   cases hw : decide (n ≥ 0) && decide (n ≤ 1000000000)
   ·simp only [Bool.not_false, cond_true, Option.bind_some]
   ·simp only [Bool.and_eq_true, decide_eq_true_eq] at hw
    simp only [Bool.not_true, cond_false]
    rw [Zbh hw.1 hw.2]
    have hs : seq ⟨Lib.itoa n⟩ s = false := by
     unfold seq
     rw [beq_eq_false_iff_ne]
     exact fun e => h n hw.1 hw.2 e.symm
    simp only [Option.bind_some, hs, Bool.not_false, cond_true]
 ·simp only [cond_true]

def dval : List UInt8 → Nat → Nat
 | [], n => n
 | b :: r, n => dval r (10 * n + (b.toNat - 48))
theorem ZiV : ∀ (l : List UInt8) (b : UInt8) (n : Nat), dval (l ++ [b]) n = 10 * dval l n + (b.toNat - 48)
 | [], _, _ => rfl
 | _ :: r, b, _ => ZiV r b _
theorem Zrv : ∀ (k m : Nat), m ≤ k → dval (Lib.decDigits m) 0 = m
 | 0, m, h => by
  have e : m = 0 := by omega
  subst e
  rw [Lib.decDigits, dif_pos (by omega)]; rfl
 | k + 1, m, h => by
  by_cases h10 : m < 10
  ·rw [Lib.decDigits, dif_pos h10]
   have := ZiV [] (UInt8.ofNat (48 + m)) 0
   rw [List.nil_append] at this
   rw [this, Zqb h10]
   show 10 * 0 + (48 + m - 48) = m
   omega
  ·rw [Lib.decDigits, dif_neg h10, ZiV, Zrv k (m / 10) (by omega), Zqb (by omega)]
   omega
def isDg (b : UInt8) : Bool := !(decide ((b.toNat : Int) < 48) || decide ((b.toNat : Int) > 57))
theorem Zow {b : UInt8} : isDg b = true ↔ 48 ≤ b.toNat ∧ b.toNat ≤ 57 := by
 unfold isDg
 simp
 omega
theorem ZmT {l : List UInt8} : ∀ k, k ≤ l.length → (∀ j, j < k → isDg (l.getD j 0) = true) → dval (l.take k) 0 < 10 ^ k
 | 0, _, _ => by simp [dval]
 | k + 1, hk, h => by
  have h1 := ZmT k (by omega) fun j hj => h j (by omega)
  have h2 := Zow.1 (h k (by omega))
  have hx : l[k]? = some l[k] := List.getElem?_eq_getElem (by omega)
  have hg : l.getD k 0 = l[k] := by simp [List.getD, hx]
  rw [hg] at h2
  rw [List.take_add_one, hx]
  simp only [Option.toList]
  rw [ZiV, Nat.pow_succ]
  omega

theorem Zio {s : Str} (hl : s.b.length ≤ 10) : forO (Zey s) s.b.length 0 0 = some (bif (List.range s.b.length).all (fun k => isDg (s.b.getD k 0)) then .inl ((dval s.b 0 : Nat) : Int) else .inr ((0 : Int), false)) := by
 rw [ZlA (f := Zey s) (N := s.b.length) (s0 := 0) (c := ((0 : Int), false)) (fun k => isDg (s.b.getD k 0)) (fun k => ((dval (s.b.take k) 0 : Nat) : Int)) (by simp [dval]) (fun k hk hp => by
  unfold Zey sat_
  have hlt := ZmT (l := s.b) k (by omega) hp
  have hpw : (10 : Nat) ^ k ≤ 10 ^ 10 := Nat.pow_le_pow_right (by decide) (by omega)
  have e10 : (10 : Nat) ^ 10 = 10000000000 := by decide
  have hx : s.b[k]? = some s.b[k] := List.getElem?_eq_getElem (by omega)
  have hg : s.b.getD k 0 = s.b[k] := by simp [List.getD, hx]
  have hb := s.b[k].toNat_lt
  rw [hg]
  cases hd : isDg s.b[k]
  ·have : (decide ((s.b[k].toNat : Int) < 48) || decide ((s.b[k].toNat : Int) > 57)) = true := by simpa only [isDg, Bool.not_eq_eq_eq_not, Bool.not_false] using hd
   rw [this]; rfl
  ·have : (decide ((s.b[k].toNat : Int) < 48) || decide ((s.b[k].toNat : Int) > 57)) = false := by simpa only [isDg, Bool.not_eq_eq_eq_not, Bool.not_true] using hd
   rw [this, cond_false, cond_true]
   have h2 := Zow.1 hd
   rw [List.take_add_one, hx]
   simp only [Option.toList]
   rw [ZiV, ZO (n := 10 * _) (by omega) (by omega), ZO (n := _ + _) (by omega) (by omega), ZO (by omega) (by omega)]
   congr 2; omega)]
 simp
theorem ZiU {n : Int} (h0 : 0 ≤ n) (h1 : n ≤ 1000000000) : ZcK ⟨Lib.itoa n⟩ = some (n, true) := by
 have hl := Za6 h0 h1
 unfold ZcK
 rw [decide_eq_false (show ¬ (((Lib.itoa n).length : Nat) : Int) > 10 by omega), cond_false, Za (show (Lib.itoa n).length ≤ 4611686018427387904 by omega), Zio (s := ⟨Lib.itoa n⟩) hl]
 have ha : (List.range (Lib.itoa n).length).all (fun k => isDg ((Lib.itoa n).getD k 0)) = true := by
  rw [List.all_eq_true]
  intro k hk
  have hk' : k < (Lib.itoa n).length := by simpa using hk
  have hg : (Lib.itoa n).getD k 0 = (Lib.itoa n)[k] := by simp [List.getD, hk']
  rw [hg]
  exact Zow.2 (Zjl h0 (List.getElem_mem hk'))
 have hv : ((dval (Lib.itoa n) 0 : Nat) : Int) = n := by
  rw [ZgG h0, Zrv _ _ (Nat.le_refl _)]; omega
 simp only [ha, cond_true, ZdR, hv]
 rw [decide_eq_false (show ¬ n > 1000000000 by omega), cond_false, Zay h0 h1]
 simp only [Option.bind_some, ZoH, Bool.not_true, cond_false]
theorem ZnF {s : Str} (h : ∀ n : Int, 0 ≤ n → n ≤ 1000000000 → s.b ≠ Lib.itoa n) : ZcK s = some (0, false) := by
 unfold ZcK
 cases hd : decide (((s.b.length : Nat) : Int) > 10)
 ·have hl : s.b.length ≤ 10 := by simp at hd; omega
  simp only [cond_false]
  rw [Za (by omega), Zio hl]
  cases (List.range s.b.length).all (fun k => isDg (s.b.getD k 0))
  ·rfl
  ·simp only [cond_true, ZdR]
   generalize dval s.b 0 = m
   cases hm : decide (((m : Nat) : Int) > 1000000000)
   ·have hm' : ((m : Nat) : Int) ≤ 1000000000 := by simp at hm; omega
    simp only [cond_false]
    rw [Zay (by omega) hm']
    have hs : seq ⟨Lib.itoa ((m : Nat) : Int)⟩ s = false := by
     unfold seq
     rw [beq_eq_false_iff_ne]
     exact fun e => h _ (by omega) hm' e.symm
    simp only [Option.bind_some, hs, Bool.not_false, cond_true]
   ·simp only [cond_true, Option.bind_some]
 ·simp only [cond_true]

theorem ZvS (s : Str) : (∃ n : Int, 0 ≤ n ∧ n ≤ 1000000000 ∧ s = ⟨Lib.itoa n⟩) ∨ ∀ n : Int, 0 ≤ n → n ≤ 1000000000 → s.b ≠ Lib.itoa n := by
 rcases Classical.em (∃ n : Int, 0 ≤ n ∧ n ≤ 1000000000 ∧ s.b = Lib.itoa n) with ⟨n, a, b, c⟩ | h
 ·exact .inl ⟨n, a, b, by cases s; simp at c; rw [c]⟩
 ·exact .inr fun n a b c => h ⟨n, a, b, c⟩
theorem Zh4 (s : Str) : ∃ r : Int × Bool, ZcK s = some r ∧ ZbT s = some r := by
 rcases ZvS s with ⟨n, a, b, rfl⟩ | h
 ·exact ⟨_, ZiU a b, ZiT a b⟩
 ·exact ⟨_, ZnF h, Znp h⟩

def okB (b : UInt8) : Bool := !(decide ((b.toNat : Int) < 32) || decide ((b.toNat : Int) > 126))
def endF (c : List UInt8) : List Str := bif c.isEmpty then [] else [⟨c⟩]
def fldF : List UInt8 → List UInt8 → List Str
 | [], c => endF c
 | x :: r, c => bif x == 32 then endF c ++ fldF r [] else fldF r (c ++ [x])
def ZA (l : Str) : List Str × Bool := bif decide (((l.b.length : Nat) : Int) > 600) then ([], false) else bif l.b.all okB then (bif decide ((((fldF l.b []).length : Nat) : Int) > 24) then ([], false) else (fldF l.b [], true)) else ([], false)
theorem ZvD (x : UInt8) : ((x.toNat : Int) != 32) = !(x == 32) := by
 by_cases h : x = 32
 ·subst h; rfl
 ·have e : (32 : UInt8).toNat = 32 := rfl
  have h1 : (x == 32) = false := by rw [beq_eq_false_iff_ne]; exact h
  have h2 : x.toNat ≠ (32 : UInt8).toNat := fun e => h (UInt8.toNat_inj.1 e)
  rw [h1]
  simp only [Bool.not_false, bne_iff_ne, ne_eq]
  omega
theorem Zx3 (x : UInt8) : ((x.toNat : Int) == 32) = (x == 32) := by
 have := ZvD x
 unfold bne at this
 cases h : ((x.toNat : Int) == 32) <;> rw [h] at this <;> simpa using this
theorem Zpr {l : List UInt8} {k : Nat} (h : k < l.length) : l.drop k = sat_ ⟨l⟩ k :: l.drop (k + 1) := by
 rw [List.drop_eq_getElem_cons h]
 congr 1
 simp [sat_, List.getD, h]
theorem ZqD {l : List UInt8} {b k : Nat} {c : List UInt8} (h : k < l.length) (hb : b + c.length = k) (hc : (l.drop b).take c.length = c) : (l.drop b).take (c ++ [sat_ ⟨l⟩ k]).length = c ++ [sat_ ⟨l⟩ k] := by
 rw [List.length_append, List.length_singleton, List.take_add_one, hc]
 congr 1
 rw [List.getElem?_drop, hb]
 simp [sat_, List.getD, h]

theorem Zi8 (l : Str) (hl : l.b.length ≤ 600) : ∀ (m k b : Nat) (d : List Str) (c : List UInt8), k + m = l.b.length + 1 → b + c.length = k → (l.b.drop b).take c.length = c → d.length ≤ k → k ≤ l.b.length →
  forO (ZbK l) m k (d, (b : Int)) = some (bif (l.b.drop k).all okB then .inl (d ++ fldF (l.b.drop k) c, ((l.b.length + 1 : Nat) : Int)) else .inr (([] : List Str), false))
 | 0, k, b, d, c, hk, _, _, _, hle => by omega
 | m + 1, k, b, d, c, hk, hb, hc, hd, hle => by
  have hsub : ssub l b k = ⟨c⟩ := by unfold ssub; rw [show k - b = c.length by omega, hc]
  have fin : (bif decide ((b : Int) < ((k : Nat) : Int)) then gd (0 ≤ (b : Int) ∧ ((b : Int)).toNat ≤ k ∧ k ≤ l.b.length) <| gd (d.length + 1 ≤ 1099511627776) <| some (d ++ [ssub l (((b : Int)).toNat) k]) else some d) = some (d ++ endF c) := by
   cases c with
   | nil =>
    have e : b = k := by simpa using hb
    rw [decide_eq_false (by omega)]
    simp [endF]
   | cons y r =>
    have e : b < k := by simp at hb; omega
    rw [decide_eq_true (by omega), cond_true, Za ⟨by omega, by omega, hle⟩, Za (by omega), Int.toNat_natCast, hsub]
    rfl
  rw [forO]
  rcases Nat.lt_or_ge k l.b.length with hlt | hge
  ·have hk1 : decide (((k : Nat) : Int) < ((l.b.length : Nat) : Int)) = true := decide_eq_true (by omega)
   have step : ZbK l k (d, (b : Int)) = some (bif okB (sat_ l k) then (bif sat_ l k == 32 then .next (d ++ endF c, ((k + 1 : Nat) : Int)) else .next (d, (b : Int))) else .ret (([] : List Str), false)) := by
    unfold ZbK okB
    simp only [hk1, cond_true, Za hlt, fin, ZvD, Option.bind_some]
    cases h1 : decide (((sat_ l k).toNat : Int) < 32)
    ·cases h2 : decide (((sat_ l k).toNat : Int) > 126)
     ·cases h3 : sat_ l k == 32 <;> rfl
     ·rfl
    ·rfl
   rw [step, Zpr hlt]
   simp only [Option.bind_some, List.all_cons, fldF]
   have hsat : sat_ (⟨l.b⟩ : Str) k = sat_ l k := rfl
   rw [hsat]
   cases ho : okB (sat_ l k)
   ·simp only [cond_false, Bool.false_and]
   ·simp only [cond_true, Bool.true_and]
    cases h3 : sat_ l k == 32
    ·simp only [cond_false]
     exact Zi8 l hl m (k + 1) b d (c ++ [sat_ l k]) (by omega) (by rw [List.length_append, List.length_singleton]; omega) (ZqD hlt hb hc) (by omega) (by omega)
    ·simp only [cond_true]
     have hel : (endF c).length ≤ 1 := by unfold endF; cases c.isEmpty <;> simp
     rw [Zi8 l hl m (k + 1) (k + 1) (d ++ endF c) [] (by omega) (by simp) (by simp) (by rw [List.length_append]; omega) (by omega), List.append_assoc]
  ·have e : k = l.b.length := by omega
   subst e
   have hk1 : decide (((l.b.length : Nat) : Int) < ((l.b.length : Nat) : Int)) = false := decide_eq_false (by omega)
   have step : ZbK l l.b.length (d, (b : Int)) = some (.next (d ++ endF c, ((l.b.length + 1 : Nat) : Int))) := by
    unfold ZbK
    simp only [hk1, cond_false, fin, Option.bind_some]
   have e0 : m = 0 := by omega
   subst e0
   rw [step, List.drop_length]
   rfl

theorem Zmh (l : Str) : ZhE l = some (ZA l) := by
 unfold ZhE ZA
 cases hd : decide (((l.b.length : Nat) : Int) > 600)
 ·have hl : l.b.length ≤ 600 := by simp at hd; omega
  simp only [cond_false]
  have := Zi8 l hl (l.b.length + 1) 0 0 [] [] (by omega) rfl (by simp) (by simp) (by omega)
  rw [List.drop_zero, List.nil_append] at this
  rw [Za (by omega), show ((0 : Int)) = ((0 : Nat) : Int) from rfl, this]
  cases l.b.all okB
  ·rfl
  ·simp only [cond_true, ZdR]
   cases decide ((((fldF l.b []).length : Nat) : Int) > 24) <;> rfl
 ·rfl

def ZcX (c : List UInt8) (b : Nat) : Int := bif c.isEmpty then -1 else (b : Int)
theorem Zi4 (l : Str) (hl : l.b.length ≤ 600) : ∀ (m k b : Nat) (d : List Str) (c : List UInt8), k + m = l.b.length → b + c.length = k → (l.b.drop b).take c.length = c → d.length ≤ k →
  ((l.b.drop k).all okB = false → forO (ZbJ l) m k (d, ZcX c b) = some (.inr (([] : List Str), false))) ∧
  ((l.b.drop k).all okB = true → ∃ (d' : List Str) (c' : List UInt8) (b' : Nat), forO (ZbJ l) m k (d, ZcX c b) = some (.inl (d', ZcX c' b')) ∧ b' + c'.length = l.b.length ∧ (l.b.drop b').take c'.length = c' ∧ d'.length ≤ l.b.length ∧ d' ++ endF c' = d ++ fldF (l.b.drop k) c)
 | 0, k, b, d, c, hk, hb, hc, hd => by
  have e : k = l.b.length := by omega
  subst e
  rw [List.drop_length]
  exact ⟨fun h => by simp at h, fun _ => ⟨d, c, b, rfl, hb, hc, hd, rfl⟩⟩
 | m + 1, k, b, d, c, hk, hb, hc, hd => by
  have hlt : k < l.b.length := by omega
  have hsub : ssub l b k = ⟨c⟩ := by unfold ssub; rw [show k - b = c.length by omega, hc]
  have step : ZbJ l k (d, ZcX c b) = some (bif okB (sat_ l k) then (bif sat_ l k == 32 then .next (d ++ endF c, ZcX [] (k + 1)) else .next (d, ZcX (c ++ [sat_ l k]) b)) else .ret (([] : List Str), false)) := by
   unfold ZbJ okB
   cases h0 : (decide (((sat_ l k).toNat : Int) < 32) || decide (((sat_ l k).toNat : Int) > 126))
   ·simp only [cond_false, Bool.not_false, cond_true, Zx3]
    cases h3 : sat_ l k == 32
    ·simp only [cond_false]
     cases c with
     | nil =>
      have e : b = k := by simpa using hb
      have e1 : ZcX ([] : List UInt8) b = -1 := rfl
      have e2 : ZcX ([] ++ [sat_ l k]) b = (b : Int) := rfl
      rw [e1, e2, e]
      rfl
     | cons y r =>
      have e1 : ZcX (y :: r) b = (b : Int) := rfl
      have e2 : ZcX ((y :: r) ++ [sat_ l k]) b = (b : Int) := rfl
      rw [e1, e2, decide_eq_false (show ¬ (b : Int) < 0 by omega)]
      rfl
    ·simp only [cond_true]
     cases c with
     | nil =>
      have e1 : ZcX ([] : List UInt8) b = -1 := rfl
      rw [e1, decide_eq_false (show ¬ (-1 : Int) ≥ 0 by omega)]
      simp only [cond_false, Option.bind_some]
      simp [endF, ZcX]
     | cons y r =>
      have e1 : ZcX (y :: r) b = (b : Int) := rfl
      rw [e1, decide_eq_true (show (b : Int) ≥ 0 by omega)]
      simp only [cond_true]
      rw [Za ⟨by omega, by omega, by omega⟩, Za (by omega), Int.toNat_natCast, hsub]
      rfl
   ·rfl
  rw [forO, step, Zpr hlt]
  have hsat : sat_ (⟨l.b⟩ : Str) k = sat_ l k := rfl
  simp only [Option.bind_some, List.all_cons, fldF, hsat]
  cases ho : okB (sat_ l k)
  ·simp only [cond_false, Bool.false_and]
   exact ⟨fun _ => trivial, fun h => by cases h⟩
  ·simp only [cond_true, Bool.true_and]
   cases h3 : sat_ l k == 32
   ·simp only [cond_false]
    exact Zi4 l hl m (k + 1) b d (c ++ [sat_ l k]) (by omega) (by rw [List.length_append, List.length_singleton]; omega) (ZqD hlt hb hc) (by omega)
   ·simp only [cond_true]
    have hel : (endF c).length ≤ 1 := by unfold endF; cases c.isEmpty <;> simp
    have ih := Zi4 l hl m (k + 1) (k + 1) (d ++ endF c) [] (by omega) (by simp) (by simp) (by rw [List.length_append]; omega)
    rw [List.append_assoc] at ih
    exact ih

theorem Zin (l : Str) : ZcE l = some (ZA l) := by
 unfold ZcE ZA
 cases hd : decide (((l.b.length : Nat) : Int) > 600)
 ·have hl : l.b.length ≤ 600 := by simp at hd; omega
  simp only [cond_false]
  obtain ⟨g1, g2⟩ := Zi4 l hl l.b.length 0 0 [] [] (by omega) rfl (by simp) (by simp)
  rw [List.drop_zero, List.nil_append] at g2
  rw [List.drop_zero] at g1
  rw [Za (by omega), show ((-1 : Int)) = ZcX [] 0 from rfl]
  cases ha : l.b.all okB
  ·rw [g1 ha]; rfl
  ·obtain ⟨d', c', b', e1, e2, e3, e4, e5⟩ := g2 ha
   rw [e1, ← e5]
   simp only [ZdR, cond_true]
   have hsub : ssub l b' l.b.length = ⟨c'⟩ := by unfold ssub; rw [show l.b.length - b' = c'.length by omega, e3]
   have fin : (bif decide (ZcX c' b' ≥ 0) then gd (0 ≤ ZcX c' b' ∧ (ZcX c' b').toNat ≤ l.b.length ∧ l.b.length ≤ l.b.length) <| gd (d'.length + 1 ≤ 1099511627776) <| some (d' ++ [ssub l ((ZcX c' b').toNat) l.b.length]) else some d') = some (d' ++ endF c') := by
    cases c' with
    | nil =>
     have q : ZcX ([] : List UInt8) b' = -1 := rfl
     rw [q, decide_eq_false (show ¬ (-1 : Int) ≥ 0 by omega)]
     simp [endF]
    | cons y r =>
     have q : ZcX (y :: r) b' = (b' : Int) := rfl
     rw [q, decide_eq_true (show (b' : Int) ≥ 0 by omega), cond_true, Za ⟨by omega, by omega, by omega⟩, Za (by omega), Int.toNat_natCast, hsub]
     rfl
   rw [fin]
   simp only [Option.bind_some]
   cases decide ((((d' ++ endF c').length : Nat) : Int) > 24) <;> rfl
 ·rfl

def Word (c : List UInt8) : Prop := c ≠ [] ∧ ∀ x ∈ c, (x == 32) = false
theorem ZmG {c : List UInt8} (h : c ≠ []) : endF c = [⟨c⟩] := by
 cases c with
 | nil => exact absurd rfl h
 | cons _ _ => rfl
theorem Zlq : ∀ (w r c : List UInt8), (∀ x ∈ w, (x == 32) = false) → fldF (w ++ r) c = fldF r (c ++ w)
 | [], r, c, _ => by simp
 | x :: w, r, c, h => by
  rw [List.cons_append, fldF, h x (by simp), cond_false, Zlq w r (c ++ [x]) fun y hy => h y (by simp [hy])]
  simp
theorem ZmU : ∀ (r c : List UInt8), (∀ x ∈ c, (x == 32) = false) → ∀ f ∈ fldF r c, Word f.b ∧ f.b.length ≤ r.length + c.length
 | [], c, hc, f, hf => by
  cases c with
  | nil => cases hf
  | cons y t =>
   have e : f = ⟨y :: t⟩ := by simpa [fldF, endF] using hf
   rw [e]
   exact ⟨⟨by simp, hc⟩, by simp⟩
 | x :: r, c, hc, f, hf => by
  unfold fldF at hf
  cases h : x == 32
  ·rw [h, cond_false] at hf
   have := ZmU r (c ++ [x]) (fun y hy => by
    rcases List.mem_append.1 hy with h' | h'
    ·exact hc y h'
    ·rw [List.mem_singleton.1 h']; exact h) f hf
   refine ⟨this.1, ?_⟩
   have h2 := this.2
   simp only [List.length_append, List.length_cons, List.length_nil] at h2 ⊢
   omega
  ·rw [h, cond_true] at hf
   rcases List.mem_append.1 hf with h' | h'
   ·cases c with
    | nil => cases h'
    | cons y t =>
     have e : f = ⟨y :: t⟩ := by simpa [endF] using h'
     rw [e]
     exact ⟨⟨by simp, hc⟩, by simp⟩
   ·have := ZmU r [] (by simp) f h'
    refine ⟨this.1, ?_⟩
    have h2 := this.2
    simp only [List.length_cons, List.length_nil] at h2 ⊢
    omega
def Zem (p : List Str) : List UInt8 := (p.map fun f => 32 :: f.b).flatten
theorem Zou (z : List UInt8) (hz : ∀ c, fldF z c = endF c) : ∀ (p : List Str) (c : List UInt8), (∀ f ∈ p, Word f.b) → fldF (Zem p ++ z) c = endF c ++ p
 | [], c, _ => by simpa [Zem] using hz c
 | f :: p, c, h => by
  have hf := h f (by simp)
  have e : Zem (f :: p) ++ z = 32 :: (f.b ++ (Zem p ++ z)) := by simp [Zem]
  rw [e, fldF]
  have h32 : ((32 : UInt8) == 32) = true := rfl
  rw [h32, cond_true, Zlq f.b _ [] hf.2, List.nil_append, Zou z hz p f.b fun g hg => h g (by simp [hg]), ZmG hf.1]
  rfl
theorem ZpS (c : List UInt8) : fldF [] c = endF c := rfl
theorem Zw2 (c : List UInt8) : fldF [32] c = endF c := by
 have h32 : ((32 : UInt8) == 32) = true := rfl
 rw [fldF, h32, cond_true, ZpS]
 simp [endF]
theorem Zsa {w : List UInt8} {q : List Str} (hw : Word w) (hq : ∀ f ∈ q, Word f.b) : fldF (w ++ Zem q) [] = ⟨w⟩ :: q := by
 rw [Zlq w _ [] hw.2, List.nil_append]
 have := Zou [] ZpS q w hq
 rw [List.append_nil] at this
 rw [this, ZmG hw.1]
 rfl
def Zbt : List Str → List UInt8
 | [] => []
 | f :: p => f.b ++ Zem p
theorem ZtG {p : List Str} (h : ∀ f ∈ p, Word f.b) : fldF (Zbt p) [] = p := by
 cases p with
 | nil => rfl
 | cons f p =>
  have := Zsa (h f (by simp)) fun g hg => h g (List.mem_cons_of_mem _ hg)
  rw [Zbt, this]
theorem Zvb (p : List Str) : Lib.join (p.map Str.b) [32] = Zbt p := by
 cases p with
 | nil => rfl
 | cons f p =>
  rw [List.map_cons, Lib.join_cons]
  unfold Zbt Zem Lib.joinTail
  rw [List.map_map]
  rfl

def ZbN (a : GAct) : List Str := (Zat a).map fun n => ⟨Lib.itoa n⟩
theorem ZtC (ns : List Int) : ZiD ns = Zem (ns.map fun n => (⟨Lib.itoa n⟩ : Str)) := by
 unfold ZiD Zem
 rw [List.map_map]
 rfl
theorem ZhC {a : GAct} (h : ZM a = true) : ∀ n ∈ Zat a, 0 ≤ n ∧ n ≤ 1000000000 := by
 obtain ⟨hk, a0, a1, b0, b1⟩ := Zbb h
 intro n hn
 unfold Zat at hn
 cases h2 : a.Kind == 2
 ·cases h4 : a.Kind == 4 || a.Kind == 5
  ·rw [h2, h4] at hn
   rw [List.mem_singleton.1 hn]; omega
  ·rw [h2, h4] at hn; cases hn
 ·rw [h2] at hn
  simp only [cond_true, List.mem_cons, List.not_mem_nil, or_false] at hn
  rcases hn with rfl | rfl <;> omega
theorem Zn8 {a : GAct} (h : ZM a = true) : Word (ZaA a.Kind) := by
 obtain ⟨hk, _⟩ := Zbb h
 unfold ZaA Word
 rcases hk with k | k | k | k | k | k <;> rw [k] <;> decide
theorem Zqz {a : GAct} (h : ZM a = true) : ∀ f ∈ ZbN a, Word f.b := by
 intro f hf
 obtain ⟨n, hn, rfl⟩ := List.mem_map.1 hf
 have h0 := (ZhC h n hn).1
 refine ⟨ZsM h0, fun x hx => ?_⟩
 have := Zjl h0 hx
 rw [beq_eq_false_iff_ne]
 intro e
 subst e
 have e2 : (32 : UInt8).toNat = 32 := rfl
 omega
theorem Zli (a : GAct) : (actL a).b = ZaA a.Kind ++ Zem (ZbN a) := by
 unfold actL ZbB ZbN
 rw [ZtC]
theorem Zlt {a : GAct} (h : ZM a = true) : fldF (actL a).b [] = ⟨ZaA a.Kind⟩ :: ZbN a := by
 rw [Zli]
 exact Zsa (Zn8 h) (Zqz h)
theorem Zkw {a : GAct} (h : ZM a = true) {p : List Str} (hp : ∀ f ∈ p, Word f.b) (hj : Zbt p = (actL a).b) : p = ⟨ZaA a.Kind⟩ :: ZbN a := by
 rw [← ZtG hp, hj, Zlt h]
theorem ZuP {i j : Int} (hi : i = 1 ∨ i = 2 ∨ i = 3 ∨ i = 4 ∨ i = 5 ∨ i = 6) (hj : j = 1 ∨ j = 2 ∨ j = 3 ∨ j = 4 ∨ j = 5 ∨ j = 6) (h : ZaA i = ZaA j) : i = j := by
 rcases hi with rfl | rfl | rfl | rfl | rfl | rfl <;> rcases hj with rfl | rfl | rfl | rfl | rfl | rfl <;> first | rfl | (exfalso; revert h; decide)
theorem Zls {a : GAct} (h : ZM a = true) : (a.Kind ≠ 2 → a.B = 0) ∧ (a.Kind = 4 ∨ a.Kind = 5 → a.A = 0) := by
 obtain ⟨hk, _⟩ := Zbb h
 unfold ZM at h
 rcases hk with k | k | k | k | k | k <;> rw [k] at h ⊢ <;> simp [inR] at h ⊢ <;> omega
theorem ZvR {a a' : GAct} (h : ZM a = true) (h' : ZM a' = true) (e : (actL a).b = (actL a').b) : a = a' := by
 have h1 := Zlt h
 rw [e, Zlt h'] at h1
 injection h1 with h2 h3
 have h4 : ZaA a'.Kind = ZaA a.Kind := congrArg Str.b h2
 have hk := ZuP (Zbb h').1 (Zbb h).1 h4
 obtain ⟨p1, p2⟩ := Zls h
 obtain ⟨q1, q2⟩ := Zls h'
 have hn := ZhC h
 have hn' := ZhC h'
 unfold ZbN Zat at h3
 unfold Zat at hn hn'
 rw [hk] at h3 q1 q2 hn'
 obtain ⟨ak, aA, aB⟩ := a
 obtain ⟨ak', aA', aB'⟩ := a'
 simp only at hk h3 p1 p2 q1 q2 hn hn'
 subst hk
 cases e2 : ak' == 2
 ·have n2 : ak' ≠ 2 := by simpa using e2
  have b1 := p1 n2
  have b2 := q1 n2
  cases e4 : ak' == 4 || ak' == 5
  ·rw [e2, e4] at h3 hn hn'
   simp only [cond_false, List.map_cons, List.map_nil, List.cons.injEq, and_true, List.mem_singleton] at h3 hn hn'
   have := Zov (hn' _ rfl).1 (hn _ rfl).1 (congrArg Str.b h3)
   subst this
   rw [b1, b2]
  ·have hk4 : ak' = 4 ∨ ak' = 5 := by
    simp only [Bool.or_eq_true, beq_iff_eq] at e4
    exact e4
   rw [p2 hk4, q2 hk4, b1, b2]
 ·rw [e2] at h3 hn hn'
  simp only [cond_true, List.map_cons, List.map_nil, List.cons.injEq, and_true, List.mem_cons, List.not_mem_nil, or_false] at h3 hn hn'
  have i1 := Zov (hn' _ (.inl rfl)).1 (hn _ (.inl rfl)).1 (congrArg Str.b h3.1)
  have i2 := Zov (hn' _ (.inr rfl)).1 (hn _ (.inr rfl)).1 (congrArg Str.b h3.2)
  rw [i1, i2]

theorem ZiN {l : Str} (h : (ZA l).2 = true) : l.b.length ≤ 600 ∧ (ZA l).1 = fldF l.b [] ∧ ∀ f ∈ (ZA l).1, Word f.b ∧ f.b.length ≤ 600 := by
 unfold ZA at h ⊢
 cases hd : decide (((l.b.length : Nat) : Int) > 600)
 ·rw [hd] at h
  simp only [cond_false] at h ⊢
  cases ha : l.b.all okB
  ·rw [ha] at h; cases h
  ·rw [ha] at h
   simp only [cond_true] at h ⊢
   cases hc : decide ((((fldF l.b []).length : Nat) : Int) > 24)
   ·refine ⟨by simp at hd; omega, rfl, fun f hf => ?_⟩
    have := ZmU l.b [] (by simp) f hf
    refine ⟨this.1, ?_⟩
    have h2 := this.2
    simp only [List.length_nil] at h2
    simp at hd
    omega
   ·rw [hc] at h; cases h
 ·rw [hd] at h; cases h
def Zgb (l : Str) (a : GAct) : Prop := ZM a = true ∧ (ZA l).2 = true ∧ 1 ≤ (ZA l).1.length ∧ (ZA l).1.length ≤ 3 ∧ Zbt (ZA l).1 = (actL a).b
theorem Zuz {l : Str} {a a' : GAct} (h : Zgb l a) (h' : Zgb l a') : a = a' := ZvR h.1 h'.1 (by rw [← h.2.2.2.2, ← h'.2.2.2.2])
theorem len3 {α : Type} {p : List α} (h1 : 1 ≤ p.length) (h3 : p.length ≤ 3) : (∃ x, p = [x]) ∨ (∃ x y, p = [x, y]) ∨ ∃ x y z, p = [x, y, z] := by
 match p, h1, h3 with
 | [x], _, _ => exact .inl ⟨x, rfl⟩
 | [x, y], _, _ => exact .inr (.inl ⟨x, y, rfl⟩)
 | [x, y, z], _, _ => exact .inr (.inr ⟨x, y, z, rfl⟩)
 | _ :: _ :: _ :: _ :: _, _, h => exact absurd h (by simp)

def numM (s : Str) : Int := (ZdE s).getD 0
theorem ZrH (s : Str) : ZdE s = some (numM s) := by
 have key : ∃ n, ZdE s = some n := by
  unfold ZdE
  obtain ⟨r1, e1, _⟩ := Zh4 s
  obtain ⟨r2, e2, _⟩ := Zh4 (ssub s 1 s.b.length)
  cases hd : decide (((s.b.length : Nat) : Int) > 1)
  ·simp only [cond_false, Option.bind_some, e1]
   exact ⟨_, rfl⟩
  ·have h1 : 1 < s.b.length := by simp at hd; omega
   simp only [cond_true]
   rw [Za (show 0 < s.b.length by omega)]
   simp only [Option.bind_some]
   cases ((sat_ s 0).toNat : Int) == 45
   ·simp only [cond_false, e1, Option.bind_some]
    exact ⟨_, rfl⟩
   ·simp only [cond_true]
    rw [Za ⟨by omega, by omega⟩, e2]
    exact ⟨_, rfl⟩
 obtain ⟨n, hn⟩ := key
 unfold numM
 rw [hn]; rfl
theorem Zvf {n : Int} (h0 : 0 ≤ n) (h1 : n ≤ 1000000000) : numM ⟨Lib.itoa n⟩ = n := by
 have hs := ZrH ⟨Lib.itoa n⟩
 unfold ZdE at hs
 rw [ZiU h0 h1] at hs
 have h45 : (sat_ ⟨Lib.itoa n⟩ 0).toNat ≠ 45 := by
  cases hi : Lib.itoa n with
  | nil => exact absurd hi (ZsM h0)
  | cons b r =>
   have := Zjl h0 (b := b) (by rw [hi]; simp)
   show b.toNat ≠ 45
   omega
 have hb : (((sat_ ⟨Lib.itoa n⟩ 0).toNat : Int) == 45) = false := by
  rw [beq_eq_false_iff_ne]
  omega
 rw [hb] at hs
 cases hd : decide ((((Lib.itoa n).length : Nat) : Int) > 1)
 ·rw [hd] at hs
  simp only [cond_false, Option.bind_some, Option.some.injEq] at hs
  exact hs.symm
 ·have h1 : 1 < (Lib.itoa n).length := by simp at hd; omega
  rw [hd] at hs
  simp only [cond_true] at hs
  rw [Za (show 0 < (Lib.itoa n).length by omega)] at hs
  simp only [cond_false, Option.bind_some, Option.some.injEq] at hs
  exact hs.symm
def nthN (p : List Str) (k : Nat) : Int := gx (((p.drop 1).map numM) ++ [0, 0]) k

theorem Zq3 {p : List Str} {ok : Bool} (h1 : 1 ≤ p.length) (h3 : p.length ≤ 3) (hw : ∀ f ∈ p, f.b.length ≤ 600) : lpO (Zfa (p, ok)) (p.length - 1) ((gx p 0), ([] : List Int)) = some (⟨Zbt p⟩, (p.drop 1).map numM) := by
 have st : ∀ (k : Nat) (s : Str) (ns : List Int), k + 1 < p.length → s.b.length ≤ 10000 → ns.length ≤ 10 → Zfa (p, ok) k (s, ns) = some (.next (⟨s.b ++ (32 :: (gx p (k + 1)).b)⟩, ns ++ [numM (gx p (k + 1))])) := fun k s ns hk hs hn => by
  have hl := hw _ (ZX hk)
  unfold Zfa
  rw [Za (by simp only [List.length_cons, List.length_nil]; omega), Za hk, Za (by simp only [sadd, List.length_append, List.length_cons, List.length_nil]; omega), ZrH]
  simp only [Option.bind_some]
  rw [Za (by omega)]
  simp [sadd]
 rcases len3 h1 h3 with ⟨x, rfl⟩ | ⟨x, y, rfl⟩ | ⟨x, y, z, rfl⟩
 ·simp [lpO, forO, Zbt, Zem, lpk, gx]
 ·have hx := hw x (by simp)
  have e : ([x, y] : List Str).length - 1 = 1 := rfl
  rw [e]
  unfold lpO
  rw [forO, st 0 _ _ (by simp) (by show x.b.length ≤ 10000; omega) (by simp)]
  simp [forO, Zbt, Zem, lpk, gx]
 ·have hx := hw x (by simp)
  have hy := hw y (by simp)
  have e : ([x, y, z] : List Str).length - 1 = 2 := rfl
  rw [e]
  unfold lpO
  rw [forO, st 0 _ _ (by simp) (by show x.b.length ≤ 10000; omega) (by simp)]
  simp only [Option.bind_some]
  rw [forO, st 1 _ _ (by simp) (by
   show (x.b ++ 32 :: y.b).length ≤ 10000
   simp only [List.length_append, List.length_cons]; omega) (by simp)]
  simp [forO, Zbt, Zem, lpk, gx]
theorem in13 (p : List Str) : ZI ((p.length : Nat) : Int) 1 3 = some (decide (((p.length : Nat) : Int) ≥ 1) && decide (((p.length : Nat) : Int) ≤ 3)) := rfl
def Zd1 (p : List Str) (k : Nat) : GAct := ⟨((k + 1 : Nat) : Int), nthN p 0, nthN p 1⟩
theorem ZqR {p : List Str} : forO (ZhD ((⟨Zbt p⟩ : Str), (p.drop 1).map numM)) 6 0 () = some (match (List.range 6).find? (fun k => ZM (Zd1 p k) && seq (actL (Zd1 p k)) ⟨Zbt p⟩) with | some k => .inr (Zd1 p k, true) | none => .inl ()) :=
 Zqy (N := 6) (s := ()) (fun k => ZM (Zd1 p k) && seq (actL (Zd1 p k)) ⟨Zbt p⟩) (fun k => (Zd1 p k, true)) fun k hk => by
  unfold ZhD
  rw [Za (by simp), Za (by simp)]
  have e : (GAct.mk (((k + 1) : Nat) : Int) (gx (((p.drop 1).map numM) ++ [0, 0]) 0) (gx (((p.drop 1).map numM) ++ [0, 0]) 1)) = Zd1 p k := rfl
  simp only [e]
  rw [ZnE]
  unfold Ze6
  cases ho : ZM (Zd1 p k)
  ·rfl
  ·simp only [cond_true, Option.bind_some, Bool.true_and]
   cases seq (actL (Zd1 p k)) ⟨Zbt p⟩ <;> rfl
theorem ZuH {l : Str} {a : GAct} (h : Zgb l a) : ∃ k, k < 6 ∧ Zd1 (ZA l).1 k = a := by
 obtain ⟨ho, hs, _, _, hj⟩ := h
 have hp := Zkw ho (fun f hf => (ZiN hs).2.2 f hf |>.1) hj
 rw [hp]
 have hn := ZhC ho
 obtain ⟨r1, r2⟩ := Zls ho
 obtain ⟨hk, _⟩ := Zbb ho
 obtain ⟨ak, aA, aB⟩ := a
 simp only at hk r1 r2
 unfold Zd1 nthN ZbN
 have mp : (((⟨ZaA ak⟩ : Str) :: (Zat ⟨ak, aA, aB⟩).map fun n => (⟨Lib.itoa n⟩ : Str)).drop 1).map numM = Zat ⟨ak, aA, aB⟩ := by
  rw [List.drop_succ_cons, List.drop_zero, List.map_map]
  calc (Zat ⟨ak, aA, aB⟩).map (numM ∘ fun n => (⟨Lib.itoa n⟩ : Str)) = (Zat ⟨ak, aA, aB⟩).map id := List.map_congr_left fun n hm => Zvf (hn n hm).1 (hn n hm).2
   _ = _ := by simp
 rw [mp]
 unfold Zat
 rcases hk with rfl | rfl | rfl | rfl | rfl | rfl
 ·have := r1 (by omega); subst this; exact ⟨0, by omega, rfl⟩
 ·exact ⟨1, by omega, rfl⟩
 ·have := r1 (by omega); subst this; exact ⟨2, by omega, rfl⟩
 ·have := r1 (by omega); subst this; have := r2 (by omega); subst this; exact ⟨3, by omega, rfl⟩
 ·have := r1 (by omega); subst this; have := r2 (by omega); subst this; exact ⟨4, by omega, rfl⟩
 ·have := r1 (by omega); subst this; exact ⟨5, by omega, rfl⟩
theorem ZlI {s t : Str} : seq s t = true ↔ s.b = t.b := by unfold seq; simp
theorem ZhH (l : Str) : (∀ a, Zgb l a → ZfC l = some (a, true)) ∧ ((∀ a, ¬ Zgb l a) → ZfC l = some (⟨0, 0, 0⟩, false)) := by
 unfold ZfC
 rw [Zmh]
 simp only [Option.bind_some, in13]
 cases hs : (ZA l).2
 ·exact ⟨fun a h => absurd h.2.1 (by rw [hs]; simp), fun _ => rfl⟩
 ·cases hi : decide ((((ZA l).1.length : Nat) : Int) ≥ 1) && decide ((((ZA l).1.length : Nat) : Int) ≤ 3)
  ·refine ⟨fun a h => ?_, fun _ => rfl⟩
   have e1 : decide ((((ZA l).1.length : Nat) : Int) ≥ 1) = true := decide_eq_true (by have := h.2.2.1; omega)
   have e3 : decide ((((ZA l).1.length : Nat) : Int) ≤ 3) = true := decide_eq_true (by have := h.2.2.2.1; omega)
   rw [e1, e3] at hi
   cases hi
  ·simp only [Bool.and_eq_true, decide_eq_true_eq] at hi
   have h1 : 1 ≤ (ZA l).1.length := by omega
   have h3 : (ZA l).1.length ≤ 3 := by omega
   obtain ⟨_, _, hw⟩ := ZiN hs
   have hfind : ∀ k, k < 6 → (ZM (Zd1 (ZA l).1 k) && seq (actL (Zd1 (ZA l).1 k)) ⟨Zbt (ZA l).1⟩) = true → Zgb l (Zd1 (ZA l).1 k) := fun k _ h => by
    simp only [Bool.and_eq_true] at h
    exact ⟨h.1, hs, h1, h3, (ZlI.1 h.2).symm⟩
   simp only [Bool.not_true, cond_false, Option.bind_some]
   rw [Za (by omega), Za (by omega)]
   have hl := Zq3 (p := (ZA l).1) (ok := (ZA l).2) h1 h3 fun f hf => (hw f hf).2
   have e : ((ZA l).1, (ZA l).2) = ZA l := rfl
   rw [e] at hl
   rw [hl]
   simp only [Option.bind_some]
   rw [Za (by simp; omega), ZqR]
   cases hf : (List.range 6).find? (fun k => ZM (Zd1 (ZA l).1 k) && seq (actL (Zd1 (ZA l).1 k)) ⟨Zbt (ZA l).1⟩) with
   | none =>
    refine ⟨fun a h => ?_, fun _ => rfl⟩
    obtain ⟨k, hk, e⟩ := ZuH h
    rw [List.find?_eq_none] at hf
    have := hf k (by simpa using hk)
    rw [e, h.1] at this
    simp only [Bool.true_and] at this
    exact absurd (ZlI.2 h.2.2.2.2.symm) this
   | some k =>
    have hk := hfind k (by simpa using List.mem_of_find?_eq_some hf) (List.find?_some (p := fun k => ZM (Zd1 (ZA l).1 k) && seq (actL (Zd1 (ZA l).1 k)) ⟨Zbt (ZA l).1⟩) hf)
    exact ⟨fun a h => by rw [Zuz h hk]; rfl, fun h => absurd hk (h _)⟩

theorem ZqU (p : List Str) (ok : Bool) (h1 : 1 ≤ p.length) : ∃ k : Int, lpO (ZdM (p, ok)) 7 0 = some k ∧ ∀ i : Int, (i = 1 ∨ i = 2 ∨ i = 3 ∨ i = 4 ∨ i = 5 ∨ i = 6) → gx p 0 = ⟨ZaA i⟩ → k = i := by
 have st : ∀ (k : Nat) (s : Int), ZdM (p, ok) k s = some (.next (bif (seq (gx ([(⟨[]⟩ : Str), (⟨[97, 100, 109, 105, 116]⟩ : Str), (⟨[115, 117, 98, 109, 105, 116]⟩ : Str), (⟨[115, 101, 119]⟩ : Str), (⟨[114, 111, 117, 110, 100]⟩ : Str), (⟨[121, 101, 97, 114]⟩ : Str), (⟨[108, 97, 99, 107]⟩ : Str)] : List Str) k) (gx p 0)) then ((k : Nat) : Int) else s)) := fun k s => by
  unfold ZdM
  rw [Za (show 0 < p.length by omega)]
 unfold lpO
 simp only [forO, st, Option.bind_some, Option.map_some, lpk]
 refine ⟨_, rfl, fun i hi hw => ?_⟩
 rw [hw]
 rcases hi with rfl | rfl | rfl | rfl | rfl | rfl <;> rfl
theorem ZoU {p : List Str} (h1 : 1 ≤ p.length) (h3 : p.length ≤ 3) (hw : ∀ f ∈ p, f.b.length ≤ 600) : strings_Join p ⟨[32]⟩ = some ⟨Zbt p⟩ := by
 have hj : Lib.join (p.map Str.b) [32] = Zbt p := Zvb p
 have hl : (Zbt p).length ≤ 10000 := by
  rcases len3 h1 h3 with ⟨x, rfl⟩ | ⟨x, y, rfl⟩ | ⟨x, y, z, rfl⟩
  ·have := hw x (by simp)
   simp [Zbt, Zem]; omega
  ·have := hw x (by simp)
   have := hw y (by simp)
   simp [Zbt, Zem]; omega
  ·have := hw x (by simp)
   have := hw y (by simp)
   have := hw z (by simp)
   simp [Zbt, Zem]; omega
 unfold strings_Join
 simp only [hj]
 rw [Za ⟨by omega, by omega⟩]
def endM (p : List Str) (e : Int × Int × Int) : GAct × Bool := bif ZM ⟨e.1, e.2.1, e.2.2⟩ && seq (actL ⟨e.1, e.2.1, e.2.2⟩) ⟨Zbt p⟩ then (⟨e.1, e.2.1, e.2.2⟩, true) else (⟨0, 0, 0⟩, false)
theorem Zq0 {p : List Str} {ok : Bool} (e1 : Int) :
  forO (Zar (p, ok)) ((p.drop 1).take (p.length - 1)).length 0 (e1, 0, 0) = some (.inr ((⟨0, 0, 0⟩ : GAct), false)) ∨
  ∃ e : Int × Int × Int, forO (Zar (p, ok)) ((p.drop 1).take (p.length - 1)).length 0 (e1, 0, 0) = some (.inl e) := by
 have st : ∀ (k : Nat) (s : Int × Int × Int), Zar (p, ok) k s = some (.ret ((⟨0, 0, 0⟩ : GAct), false)) ∨ ∃ s', Zar (p, ok) k s = some (.next s') := fun k s => by
  obtain ⟨r, _, hr⟩ := Zh4 (gx ((p.drop 1).take (p.length - 1)) k)
  unfold Zar
  simp only [hr, Option.bind_some]
  cases r.2
  ·exact .inl rfl
  ·exact .inr ⟨_, rfl⟩
 have key : ∀ (m k : Nat) (s : Int × Int × Int), forO (Zar (p, ok)) m k s = some (.inr ((⟨0, 0, 0⟩ : GAct), false)) ∨ ∃ e : Int × Int × Int, forO (Zar (p, ok)) m k s = some (.inl e) := by
  intro m
  induction m with
  | zero => exact fun k s => .inr ⟨s, rfl⟩
  | succ m ih =>
   intro k s
   rw [forO]
   rcases st k s with h | ⟨s', h⟩
   ·rw [h]; exact .inl rfl
   ·rw [h]; exact ih (k + 1) s'
 exact key _ _ _
theorem Zrh {l : Str} {a : GAct} (h : Zgb l a) (ok : Bool) : forO (Zar ((ZA l).1, ok)) (((ZA l).1.drop 1).take ((ZA l).1.length - 1)).length 0 (a.Kind, 0, 0) = some (.inl (a.Kind, a.A, a.B)) := by
 obtain ⟨ho, hs, _, _, hj⟩ := h
 have hp := Zkw ho (fun f hf => (ZiN hs).2.2 f hf |>.1) hj
 rw [hp]
 have hn := ZhC ho
 obtain ⟨r1, r2⟩ := Zls ho
 obtain ⟨hk, _⟩ := Zbb ho
 have hd : (((⟨ZaA a.Kind⟩ : Str) :: ZbN a).drop 1).take (((⟨ZaA a.Kind⟩ : Str) :: ZbN a).length - 1) = ZbN a := by simp
 have st : ∀ (k : Nat) (s : Int × Int × Int) (n : Int), 0 ≤ n → n ≤ 1000000000 → gx (ZbN a) k = ⟨Lib.itoa n⟩ → Zar ((⟨ZaA a.Kind⟩ :: ZbN a), ok) k s = some (.next (s.1, (bif ((k : Nat) : Int) == 0 then n else s.2.1), (bif ((k : Nat) : Int) == 0 then s.2.2 else n))) := fun k s n h0 h1 hg => by
  unfold Zar
  simp only [hd, hg, ZiT h0 h1, Option.bind_some, Bool.not_true, cond_false]
  cases ((k : Nat) : Int) == 0 <;> rfl
 rw [hd]
 have e0 : (((0 : Nat) : Int) == 0) = true := rfl
 have e1 : (((0 + 1 : Nat) : Int) == 0) = false := rfl
 cases h2 : a.Kind == 2
 ·have n2 : a.Kind ≠ 2 := by simpa using h2
  cases h4 : a.Kind == 4 || a.Kind == 5
  ·have ea : ZbN a = [⟨Lib.itoa a.A⟩] := by unfold ZbN Zat; rw [h2, h4]; rfl
   have eb : Zat a = [a.A] := by unfold Zat; rw [h2, h4]; rfl
   have hA := hn a.A (by rw [eb]; simp)
   have hlen : (ZbN a).length = 1 := by rw [ea]; rfl
   rw [hlen, forO, st 0 _ a.A hA.1 hA.2 (by rw [ea]; rfl)]
   simp only [Option.bind_some, forO, e0, cond_true, r1 n2]
  ·have hk4 : a.Kind = 4 ∨ a.Kind = 5 := by
    simp only [Bool.or_eq_true, beq_iff_eq] at h4
    exact h4
   have ea : ZbN a = [] := by unfold ZbN Zat; rw [h2, h4]; rfl
   rw [ea, r1 n2, r2 hk4]
   rfl
 ·have ea : ZbN a = [⟨Lib.itoa a.A⟩, ⟨Lib.itoa a.B⟩] := by unfold ZbN Zat; rw [h2]; rfl
  have eb : Zat a = [a.A, a.B] := by unfold Zat; rw [h2]; rfl
  have hA := hn a.A (by rw [eb]; simp)
  have hB := hn a.B (by rw [eb]; simp)
  have hlen : (ZbN a).length = 2 := by rw [ea]; rfl
  rw [hlen, forO, st 0 _ a.A hA.1 hA.2 (by rw [ea]; rfl)]
  simp only [Option.bind_some, e0, cond_true]
  rw [forO, st (0 + 1) _ a.B hB.1 hB.2 (by rw [ea]; rfl)]
  simp only [Option.bind_some, forO, e1, cond_false]
theorem ZjQ (l : Str) : (∀ a, Zgb l a → Zco l = some (a, true)) ∧ ((∀ a, ¬ Zgb l a) → Zco l = some (⟨0, 0, 0⟩, false)) := by
 unfold Zco
 rw [Zin]
 simp only [Option.bind_some, Zi6]
 cases hs : (ZA l).2
 ·exact ⟨fun a h => absurd h.2.1 (by rw [hs]; simp), fun _ => rfl⟩
 ·cases hi : decide ((((ZA l).1.length : Nat) : Int) ≥ 1) && decide ((((ZA l).1.length : Nat) : Int) ≤ 3)
  ·refine ⟨fun a h => ?_, fun _ => rfl⟩
   have e1 : decide ((((ZA l).1.length : Nat) : Int) ≥ 1) = true := decide_eq_true (by have := h.2.2.1; omega)
   have e3 : decide ((((ZA l).1.length : Nat) : Int) ≤ 3) = true := decide_eq_true (by have := h.2.2.2.1; omega)
   rw [e1, e3] at hi
   cases hi
  ·simp only [Bool.and_eq_true, decide_eq_true_eq] at hi
   have h1 : 1 ≤ (ZA l).1.length := by omega
   have h3 : (ZA l).1.length ≤ 3 := by omega
   obtain ⟨_, _, hw⟩ := ZiN hs
   have e : ((ZA l).1, (ZA l).2) = ZA l := rfl
   obtain ⟨kk, k1, k2⟩ := ZqU (ZA l).1 (ZA l).2 h1
   rw [e] at k1
   simp only [Bool.not_true, cond_false, Option.bind_some]
   rw [Za (by simp), show ([(⟨[]⟩ : Str), (⟨[97, 100, 109, 105, 116]⟩ : Str), (⟨[115, 117, 98, 109, 105, 116]⟩ : Str), (⟨[115, 101, 119]⟩ : Str), (⟨[114, 111, 117, 110, 100]⟩ : Str), (⟨[121, 101, 97, 114]⟩ : Str), (⟨[108, 97, 99, 107]⟩ : Str)] : List Str).length = 7 from rfl, k1]
   simp only [Option.bind_some]
   rw [Za ⟨h1, Nat.le_refl _⟩, Za (by simp; omega)]
   have fin : ∀ e : Int × Int × Int, ((ZcC (GAct.mk e.1 e.2.1 e.2.2)).bind fun v4 => (bif (!v4.2) then some true else (strings_Join (ZA l).1 (⟨[32]⟩ : Str)).bind fun v5 => some (!(seq v4.1 v5))).bind fun j4 => bif j4 then some ((GAct.mk 0 0 0), false) else some ((GAct.mk e.1 e.2.1 e.2.2), true)) = some (endM (ZA l).1 e) := fun e => by
    rw [Zja, ZoU h1 h3 fun f hf => (hw f hf).2]
    unfold Ze6 endM
    cases ZM (GAct.mk e.1 e.2.1 e.2.2)
    ·rfl
    ·simp only [cond_true, Option.bind_some, Bool.true_and, Bool.not_true, cond_false]
     cases seq (actL (GAct.mk e.1 e.2.1 e.2.2)) ⟨Zbt (ZA l).1⟩ <;> rfl
   constructor
   ·intro a h
    have hp := Zkw h.1 (fun f hf => (hw f hf).1) h.2.2.2.2
    have hkk := k2 a.Kind (Zbb h.1).1 (by rw [hp]; rfl)
    have hy := Zrh h (ZA l).2
    rw [e] at hy
    rw [hkk, hy]
    simp only [ZdR]
    rw [fin (a.Kind, a.A, a.B)]
    have es : seq (actL a) ⟨Zbt (ZA l).1⟩ = true := ZlI.2 h.2.2.2.2.symm
    have ea : (⟨a.Kind, a.A, a.B⟩ : GAct) = a := rfl
    unfold endM
    simp only [ea, h.1, es, Bool.and_self, cond_true]
   ·intro h
    have hc := Zq0 (p := (ZA l).1) (ok := (ZA l).2) kk
    rw [e] at hc
    rcases hc with hc | ⟨v, hc⟩
    ·rw [hc]; rfl
    ·rw [hc]
     simp only [ZdR]
     rw [fin v]
     unfold endM
     cases hx : ZM ⟨v.1, v.2.1, v.2.2⟩ && seq (actL ⟨v.1, v.2.1, v.2.2⟩) ⟨Zbt (ZA l).1⟩
     ·rfl
     ·simp only [Bool.and_eq_true] at hx
      exact absurd ⟨hx.1, hs, h1, h3, (ZlI.1 hx.2).symm⟩ (h ⟨v.1, v.2.1, v.2.2⟩)

theorem Zxg (l : Str) : (∃ a, Zgb l a) ∨ ∀ a, ¬ Zgb l a := (Classical.em (∃ a, Zgb l a)).elim .inl fun h => .inr fun a k => h ⟨a, k⟩
theorem ZqL (l : Str) : ∃ w : GAct × Bool, ZfC l = some w ∧ Zco l = some w := by
 rcases Zxg l with ⟨a, h⟩ | h
 ·exact ⟨_, (ZhH l).1 a h, (ZjQ l).1 a h⟩
 ·exact ⟨_, (ZhH l).2 h, (ZjQ l).2 h⟩
theorem Zi3 {n : Int} (h0 : -9223372036854775808 ≤ n) (h1 : n ≤ 9223372036854775807) : Zae n = some ⟨Lib.itoa n⟩ := by
 unfold Zae ZeY
 rw [Za ⟨h0, h1⟩]
 rfl
theorem Ztz {n : Int} (h0 : -9223372036854775808 ≤ n) (h1 : n ≤ 9223372036854775807) : (Lib.itoa n).length ≤ 100 := by
 have p20 : (10 : Nat) ^ (19 + 1) = 100000000000000000000 := by decide
 unfold Lib.itoa
 split
 ·have := Zm1 19 n.natAbs (by omega)
  simp only [List.length_cons]; omega
 ·have := Zm1 19 n.toNat (by omega)
  omega

theorem ZvZ {b : UInt8} : okB b = true ↔ 32 ≤ b.toNat ∧ b.toNat ≤ 126 := by
 unfold okB
 simp
 omega
theorem Zs0 {a : GAct} (h : ZM a = true) : ∀ x ∈ (actL a).b, okB x = true ∧ (x == 10) = false := by
 intro x hx
 have key : 32 ≤ x.toNat ∧ x.toNat ≤ 126 := by
  rw [Zli] at hx
  rcases List.mem_append.1 hx with h1 | h1
  ·have hw : ∀ x ∈ ZaA a.Kind, 32 ≤ x.toNat ∧ x.toNat ≤ 126 := by
    obtain ⟨hk, _⟩ := Zbb h
    unfold ZaA
    rcases hk with k | k | k | k | k | k <;> rw [k] <;> decide
   exact hw x h1
  ·obtain ⟨l, hl, hxl⟩ := List.mem_flatten.1 h1
   obtain ⟨f, hf, rfl⟩ := List.mem_map.1 hl
   obtain ⟨n, hn, rfl⟩ := List.mem_map.1 hf
   rcases List.mem_cons.1 hxl with rfl | h2
   ·exact ⟨Nat.le_refl 32, by decide⟩
   ·have := Zjl (ZhC h n hn).1 h2
    omega
 refine ⟨ZvZ.2 key, ?_⟩
 rw [beq_eq_false_iff_ne]
 intro e
 subst e
 have e2 : (10 : UInt8).toNat = 10 := rfl
 omega
theorem Zuk {a : GAct} (h : ZM a = true) : (actL a).b.length ≤ 100 := by
 have hw : (ZaA a.Kind).length ≤ 6 := by
  obtain ⟨hk, _⟩ := Zbb h
  unfold ZaA
  rcases hk with k | k | k | k | k | k <;> rw [k] <;> decide
 have hn := ZmE (ZhC h)
 have hl : (Zat a).length ≤ 2 := by
  unfold Zat
  cases a.Kind == 2
  ·cases a.Kind == 4 || a.Kind == 5 <;> simp
  ·simp
 show (ZbB (ZaA a.Kind) (Zat a)).length ≤ 100
 unfold ZbB
 rw [List.length_append]; omega
theorem Zu1 (a : GAct) : (ZbN a).length ≤ 2 := by
 unfold ZbN Zat
 cases a.Kind == 2
 ·cases a.Kind == 4 || a.Kind == 5 <;> simp
 ·simp
theorem Zs7 {a : GAct} (h : ZM a = true) {z : List UInt8} (hz : ∀ c, fldF z c = endF c) : fldF ((actL a).b ++ z) [] = ⟨ZaA a.Kind⟩ :: ZbN a := by
 rw [Zli, List.append_assoc, Zlq _ _ [] (Zn8 h).2, List.nil_append, Zou z hz _ _ (Zqz h), ZmG (Zn8 h).1]
 rfl
theorem ZuU {a : GAct} (h : ZM a = true) {y z : List UInt8} (hy : y = [] ∨ y = [32, 32]) (hz : z = [] ∨ z = [32]) : Zgb ⟨y ++ (actL a).b ++ z⟩ a := by
 have hlen := Zuk h
 have hal := Zu1 a
 have hz1 : ∀ c, fldF z c = endF c := by
  rcases hz with rfl | rfl
  ·exact ZpS
  ·exact Zw2
 have hf : fldF (y ++ (actL a).b ++ z) [] = ⟨ZaA a.Kind⟩ :: ZbN a := by
  rcases hy with rfl | rfl
  ·exact Zs7 h hz1
  ·have h32 : ((32 : UInt8) == 32) = true := rfl
   have e : [32, 32] ++ (actL a).b ++ z = 32 :: 32 :: ((actL a).b ++ z) := by simp
   rw [e, fldF, h32, cond_true, fldF, h32, cond_true, Zs7 h hz1]
   rfl
 have hyl : y.length ≤ 2 := by rcases hy with rfl | rfl <;> simp
 have hzl : z.length ≤ 1 := by rcases hz with rfl | rfl <;> simp
 have hall : (y ++ (actL a).b ++ z).all okB = true := by
  rw [List.all_eq_true]
  intro x hx
  rcases List.mem_append.1 hx with h1 | h1
  ·rcases List.mem_append.1 h1 with h2 | h2
   ·rcases hy with rfl | rfl
    ·cases h2
    ·have e : x = 32 := by simpa using h2
     rw [e]; decide
   ·exact (Zs0 h x h2).1
  ·rcases hz with rfl | rfl
   ·cases h1
   ·rw [List.mem_singleton.1 h1]; decide
 have hS : ZA ⟨y ++ (actL a).b ++ z⟩ = (⟨ZaA a.Kind⟩ :: ZbN a, true) := by
  unfold ZA
  simp only
  rw [decide_eq_false (by simp only [List.length_append]; omega), cond_false, hall, cond_true, hf, decide_eq_false (by simp only [List.length_cons]; omega), cond_false]
 refine ⟨h, by rw [hS], by rw [hS]; simp, by rw [hS]; simp only [List.length_cons]; omega, ?_⟩
 rw [hS, Zli]
 rfl

def ZbE : List UInt8 → List UInt8 → List Str
 | [], c => [⟨c⟩]
 | x :: r, c => bif x == 10 then ⟨c⟩ :: ZbE r [] else ZbE r (c ++ [x])
theorem Zjg : ∀ (w r c : List UInt8), (∀ x ∈ w, (x == 10) = false) → ZbE (w ++ r) c = ZbE r (c ++ w)
 | [], r, c, _ => by simp
 | x :: w, r, c, h => by
  rw [List.cons_append, ZbE, h x (by simp), cond_false, Zjg w r (c ++ [x]) fun y hy => h y (by simp [hy])]
  simp
theorem ZmW : ∀ (r c : List UInt8), (ZbE r c).length ≤ r.length + 1
 | [], _ => by simp [ZbE]
 | x :: r, c => by
  unfold ZbE
  cases x == 10
  ·have := ZmW r (c ++ [x])
   simp only [cond_false, List.length_cons]; omega
  ·have := ZmW r []
   simp only [cond_true, List.length_cons]; omega
theorem ZmV : ∀ (n : Nat) (s : List UInt8), s.count 10 = n → (Lib.splitK [10] 0 n s).map Str.mk = ZbE s []
 | 0, s, h => by
  have hno : ∀ x ∈ s, (x == 10) = false := fun x hx => by
   rw [beq_eq_false_iff_ne]
   intro e
   subst e
   exact absurd hx (List.count_eq_zero.1 h)
  have := Zjg s [] [] hno
  rw [List.append_nil] at this
  rw [this]
  rfl
 | n + 1, s, h => by
  have hmem : (10 : UInt8) ∈ s := List.count_pos_iff.1 (by omega)
  have hix : Lib.index s [10] = Lib.indexByte s 10 := Lib.index_one s 10
  have hge := Lib.indexByte_ge s 10
  have hne : Lib.indexByte s 10 ≠ -1 := fun e => by
   obtain ⟨k, hk⟩ := List.mem_iff_getElem?.1 hmem
   exact Lib.indexByte_none e k hk
  obtain ⟨i, hi⟩ : ∃ i : Nat, Lib.indexByte s 10 = i := ⟨(Lib.indexByte s 10).toNat, by omega⟩
  obtain ⟨h1, h2⟩ := Lib.indexByte_some hi
  have hlt : i < s.length := (List.getElem?_eq_some_iff.1 h1).1
  have hsi : s[i] = 10 := (List.getElem?_eq_some_iff.1 h1).2
  have hs : s = s.take i ++ 10 :: s.drop (i + 1) := by
   rw [← hsi, ← List.drop_eq_getElem_cons hlt, List.take_append_drop]
  have hfree : ∀ x ∈ s.take i, (x == 10) = false := fun x hx => by
   rw [beq_eq_false_iff_ne]
   intro e
   subst e
   obtain ⟨k, hk⟩ := List.mem_iff_getElem?.1 hx
   rw [List.getElem?_take] at hk
   split at hk
   ·rename_i hki
    exact h2 k hki hk
   ·cases hk
  have hcount : (s.drop (i + 1)).count 10 = n := by
   have h0 : (s.take i).count 10 = 0 := List.count_eq_zero.2 fun hm => by
    have := hfree _ hm
    simp at this
   rw [hs, List.count_append, List.count_cons_self, h0] at h
   omega
  have e1 : Lib.splitK [10] 0 (n + 1) s = s.take i :: Lib.splitK [10] 0 n (s.drop (i + 1)) := by
   rw [Lib.splitK, hix, hi]
   have hb : (((i : Nat) : Int) == -1) = false := by rw [beq_eq_false_iff_ne]; omega
   rw [hb]
   simp
  rw [e1, List.map_cons, ZmV n _ hcount]
  have e2 : ZbE s [] = ZbE (s.take i ++ 10 :: s.drop (i + 1)) [] := congrArg (fun x => ZbE x []) hs
  rw [e2, Zjg _ _ _ hfree, List.nil_append, ZbE]
  have h10 : ((10 : UInt8) == 10) = true := rfl
  rw [h10, cond_true]
theorem Zsl (t : Str) : Zr5 t ⟨[10]⟩ = ZbE t.b [] := by
 unfold Zr5
 have hd := Lib.splitB_data (⟨([10] : List UInt8).toArray⟩ : ByteArray) 0 (Lib.countB ⟨t.b.toArray⟩ ⟨([10] : List UInt8).toArray⟩) ⟨t.b.toArray⟩
 have hc : Lib.countB ⟨t.b.toArray⟩ ⟨([10] : List UInt8).toArray⟩ = t.b.count 10 := by
  show Lib.count _ _ = _
  have := Lib.count_one 10 t.b
  simpa using this
 have e : ∀ l : List ByteArray, (l.map fun x => (⟨x.data.toList⟩ : Str)) = (l.map (·.data.toList)).map Str.mk := fun l => by rw [List.map_map]; rfl
 rw [e, hd, hc]
 have := ZmV (t.b.count 10) t.b rfl
 simpa using this

def Zdw (l : Str) : GAct × Bool := (ZfC l).getD (⟨0, 0, 0⟩, false)
theorem Zom (l : Str) : Zco l = some (Zdw l) := by
 obtain ⟨w, h1, h2⟩ := ZqL l
 unfold Zdw
 rw [h1, h2]; rfl
theorem ZuD {l : Str} {a : GAct} (h : Zgb l a) : Zdw l = (a, true) := by
 unfold Zdw
 rw [(ZhH l).1 a h]; rfl
def ZjU (l : Str) : Bool := (ZA l).2 && ((((ZA l).1.length : Nat) : Int) == 0)
def accF : List Str → List GAct → Option (List GAct)
 | [], acc => some acc
 | l :: r, acc => bif ZjU l then accF r acc else bif (!(Zdw l).2) then none else accF r (acc ++ [(Zdw l).1])
def accR (o : Option (List GAct)) {S : Type} (f : List GAct → S) : S ⊕ (List Str × Bool) := match o with
 | some a => .inl (f a)
 | none => .inr (([] : List Str), false)
theorem ZkC (v : List Str) (hl : v.length ≤ 20001) : ∀ (m k : Nat) (acc : List GAct), k + m = v.length → acc.length ≤ k →
  forO (Zdi v) m k acc = some (accR (accF (v.drop k) acc) fun a => a)
 | 0, k, acc, hk, _ => by
  rw [List.drop_of_length_le (by omega)]; rfl
 | m + 1, k, acc, hk, hd => by
  have hlt : k < v.length := by omega
  have hdr : v.drop k = gx v k :: v.drop (k + 1) := by rw [Zbm hlt]; exact List.drop_eq_getElem_cons hlt
  have hst : Zdi v k acc = some (bif ZjU (gx v k) then .next acc else bif (!(Zdw (gx v k)).2) then .ret (([] : List Str), false) else .next (acc ++ [(Zdw (gx v k)).1])) := by
   unfold Zdi
   rw [Zin, Zom]
   simp only [Option.bind_some]
   rw [Za (by omega)]
   show (bif ZjU (gx v k) then _ else _) = _
   cases ZjU (gx v k)
   ·simp only [cond_false]
    cases (Zdw (gx v k)).2 <;> rfl
   ·rfl
  rw [forO, hst, hdr, accF]
  cases ZjU (gx v k)
  ·cases (Zdw (gx v k)).2
   ·rfl
   ·simp only [cond_false, Bool.not_true, Option.bind_some]
    exact ZkC v hl m (k + 1) _ (by omega) (by rw [List.length_append, List.length_singleton]; omega)
  ·simp only [cond_true, Option.bind_some]
   exact ZkC v hl m (k + 1) _ (by omega) (by omega)

theorem ZvI {J C : Type} {x : Option (J ⊕ C)} {k : J → Option C} {w : C} (h : sq x k = some w) : (∃ j, x = some (.inl j) ∧ k j = some w) ∨ x = some (.inr w) := by
 cases x with
 | none => cases h
 | some y =>
  cases y with
  | inl j => exact .inl ⟨j, rfl, h⟩
  | inr c =>
   have e : some c = some w := h
   exact .inr (by rw [Option.some.inj e])
theorem Zu2 (n : Int) : -9223372036854775808 ≤ wr n ∧ wr n ≤ 9223372036854775807 := by
 rw [Zvq]
 omega
theorem Zwa {f : Nat → Int → Option (Res Int Empty)} (hf : ∀ k s, ∃ s', f k s = some (.next s') ∧ -9223372036854775808 ≤ s' ∧ s' ≤ 9223372036854775807) {N : Nat} {s e : Int} (hs : -9223372036854775808 ≤ s ∧ s ≤ 9223372036854775807) (h : lpO f N s = some e) : -9223372036854775808 ≤ e ∧ e ≤ 9223372036854775807 := by
 have key : ∀ (m k : Nat) (s : Int), -9223372036854775808 ≤ s ∧ s ≤ 9223372036854775807 → ∃ s', forO f m k s = some (.inl s') ∧ -9223372036854775808 ≤ s' ∧ s' ≤ 9223372036854775807 := by
  intro m
  induction m with
  | zero => exact fun k s hs => ⟨s, rfl, hs⟩
  | succ m ih =>
   intro k s _
   obtain ⟨s', h1, h2⟩ := hf k s
   rw [forO, h1]
   exact ih (k + 1) s' h2
 obtain ⟨s', h1, h2⟩ := key N 0 s hs
 unfold lpO at h
 rw [h1] at h
 have e2 : some s' = some e := h
 rw [← Option.some.inj e2]
 exact h2
theorem Zvd {g : GGuild} {k n : Int} (h : ZhP g k = some n) : -9223372036854775808 ≤ n ∧ n ≤ 9223372036854775807 := by
 unfold ZhP at h
 obtain ⟨v1, _, h⟩ := Option.bind_eq_some_iff.1 h
 cases v1
 ·rw [Bool.not_false, cond_true] at h
  have e := Option.some.inj h
  omega
 ·rw [Bool.not_true, cond_false] at h
  unfold gd at h
  split at h
  ·obtain ⟨v2, _, h⟩ := Option.bind_eq_some_iff.1 h
   obtain ⟨v3, _, h⟩ := Option.bind_eq_some_iff.1 h
   split at h
   ·obtain ⟨e1, h1, h⟩ := Option.bind_eq_some_iff.1 h
    have e := Option.some.inj h
    rw [← e]
    exact Zwa (fun k s => ⟨_, rfl, Zu2 _⟩) (by omega) h1
   ·cases h
  ·cases h
theorem Zw3 {g : GGuild} {a : GAct} {w : GGuild × Int} (h : ZcP g a = some w) : -9223372036854775808 ≤ w.2 ∧ w.2 ≤ 9223372036854775807 := by
 unfold ZcP at h
 obtain ⟨j1, _, h⟩ := Option.bind_eq_some_iff.1 h
 cases j1
 ·rw [cond_false] at h
  obtain ⟨v4, _, h⟩ := Option.bind_eq_some_iff.1 h
  rcases ZvI h with ⟨j, _, h⟩ | h
  ·cases hj : j.1
   ·rw [hj, cond_false] at h
    have e := Option.some.inj h
    rw [← e]
    exact ⟨by simp only; omega, by simp only; omega⟩
   ·rw [hj, cond_true] at h
    have e := Option.some.inj h
    rw [← e]
    exact ⟨by simp only; omega, by simp only; omega⟩
  ·have nl : ∀ {α : Type} {x : Option α} {f : α → Bool × GGuild} {c : GGuild × Int}, (x.bind fun v => some (Sum.inl (f v) : (Bool × GGuild) ⊕ (GGuild × Int))) ≠ some (.inr c) := fun {α x f c} e => by
    obtain ⟨v, _, e⟩ := Option.bind_eq_some_iff.1 e
    cases e
   cases k1 : a.Kind == 1
   ·cases k2 : a.Kind == 2
    ·cases k3 : a.Kind == 3
     ·cases k4 : a.Kind == 4
      ·cases k5 : a.Kind == 5
       ·rw [k1, k2, k3, k4, k5] at h
        simp only [cond_false] at h
        obtain ⟨v, hv, h⟩ := Option.bind_eq_some_iff.1 h
        have e := Sum.inr.inj (Option.some.inj h)
        rw [← e]
        exact Zvd hv
       ·rw [k1, k2, k3, k4, k5] at h
        exact absurd h nl
      ·rw [k1, k2, k3, k4] at h
       exact absurd h nl
     ·rw [k1, k2, k3] at h
      exact absurd h nl
    ·rw [k1, k2] at h
     simp only [cond_false, cond_true] at h
     obtain ⟨v, _, h⟩ := Option.bind_eq_some_iff.1 h
     obtain ⟨v, _, h⟩ := Option.bind_eq_some_iff.1 h
     exact absurd h nl
   ·rw [k1] at h
    exact absurd h nl
 ·rw [cond_true] at h
  obtain ⟨v3, _, h⟩ := Option.bind_eq_some_iff.1 h
  have e := Option.some.inj h
  rw [← e]
  exact ⟨by simp only; omega, by simp only; omega⟩
theorem ZsN {g : GGuild} (h : Sm.ok g) (acts : List GAct) : ∀ k, ∀ n ∈ (runM g acts k).1, -9223372036854775808 ≤ n ∧ n ≤ 9223372036854775807
 | 0, n, hn => by cases hn
 | k + 1, n, hn => by
  rcases List.mem_append.1 hn with h1 | h1
  ·exact ZsN h acts k n h1
  ·rw [List.mem_singleton.1 h1]
   exact Zw3 (Zqn (ZmQ h acts k).1 (gx acts k)).2.1
theorem Zn2 {g : GGuild} (h : Sm.ok g) (acts : List GAct) : ∀ n ∈ (RunM g acts).2, -9223372036854775808 ≤ n ∧ n ≤ 9223372036854775807 := by
 unfold RunM
 cases !Zn g || decide ((acts.length : Int) > 40)
 ·exact ZsN h acts _
 ·intro n hn; cases hn

def outM (g : GGuild) (acts : List GAct) : List Str := ((RunM g acts).2.map fun n => (⟨Lib.itoa n⟩ : Str)) ++ ZaE (RunM g acts).1
theorem ZuE {g : GGuild} (h : Sm.ok g) {acts : List GAct} (hl : acts.length ≤ 40) : Sm.ok (outM g acts) := by
 have hn := Zn2 h acts
 have hs := Zp9 h acts
 obtain ⟨w, _, h2, h3⟩ := Zot (RunM g acts).1 hs.1
 rw [ZdT (Zei hs.1)] at h2
 have e := Option.some.inj h2
 rw [← e] at h3
 have hlen : (RunM g acts).2.length ≤ 40 := by
  unfold RunM
  cases !Zn g || decide ((acts.length : Int) > 40)
  ·have := (ZmQ h acts acts.length).2
   simp only [cond_false]; omega
  ·simp
 have hfl : (ZaE (RunM g acts).1).length ≤ 1000 := by
  cases hk : Zn (RunM g acts).1
  ·have : ZaE (RunM g acts).1 = [] := by unfold ZaE; rw [hk]; rfl
   rw [this]; simp
  ·have h1 := Zkl hk
   have h2 := (Zeo hk).2.2.2.1
   omega
 refine ⟨?_, fun x hx => ?_⟩
 ·unfold outM
  rw [List.length_append, List.length_map]; omega
 ·unfold outM at hx
  rcases List.mem_append.1 hx with h1 | h1
  ·obtain ⟨n, hm, rfl⟩ := List.mem_map.1 h1
   have := Ztz (hn n hm).1 (hn n hm).2
   show (Lib.itoa n).length ≤ 1048576
   omega
  ·exact h3.2 x h1
def Zjs (g : GGuild) (t : Str) : List Str × Bool := bif decide (((t.b.length : Nat) : Int) > 20000) then ([], false) else match accF (ZbE t.b []) [] with
 | none => ([], false)
 | some acts => bif decide (((acts.length : Nat) : Int) > 40) then ([], false) else (outM g acts, true)
theorem Zno {g : GGuild} (hg : Sm.ok g) (hs : ZbP = some g) (t : Str) : ZeH t = some (Zjs g t) := by
 unfold ZeH Zjs
 cases hd : decide (((t.b.length : Nat) : Int) > 20000)
 ·have hl : t.b.length ≤ 20000 := by simp at hd; omega
  have hll := ZmW t.b []
  simp only [cond_false]
  unfold strings_Split
  rw [Za ⟨by omega, by simp⟩, Zsl]
  simp only [Option.bind_some]
  have := ZkC (ZbE t.b []) (by omega) (ZbE t.b []).length 0 [] (by omega) (by simp)
  rw [List.drop_zero] at this
  rw [Za (by omega), this]
  cases accF (ZbE t.b []) [] with
  | none => rfl
  | some acts =>
   simp only [accR, ZdR]
   cases hc : decide (((acts.length : Nat) : Int) > 40)
   ·have hr := Zp9 hg acts
    have hn := Zn2 hg acts
    have hrl := Zb7 hr.2
    simp only [cond_false, hs, Option.bind_some]
    rw [Zkf hg]
    simp only [Option.bind_some]
    rw [Za (by omega), ZbH (f := Zez (RunM g acts)) (xs := []) (fun k => (⟨Lib.itoa (gx (RunM g acts).2 k)⟩ : Str)) (fun k s hk hs => by
     have hi := hn _ (ZX hk)
     unfold Zez
     rw [Zi3 hi.1 hi.2]
     simp only [Option.bind_some]
     rw [Za (by simp at hs; omega)])]
    simp only [Option.bind_some, List.nil_append]
    rw [ZdT (Zei hr.1), ZcR (fun n => (⟨Lib.itoa n⟩ : Str))]
    simp only [Option.bind_some]
    have ho := Zb7 (ZuE hg (acts := acts) (by simp at hc; omega))
    unfold outM at ho
    rw [List.length_append] at ho
    rw [Za (by omega)]
    rfl
   ·rfl
 ·rfl
end Go.Proofs.YtjfjbgihojiijabGreatDoor
