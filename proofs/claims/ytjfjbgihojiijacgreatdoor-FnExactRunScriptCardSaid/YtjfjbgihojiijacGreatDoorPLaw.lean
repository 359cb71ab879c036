/-
 The plain laws: what the functions compute, in Lean alone.
-/
import Derived.Test.YtjfjbgihojiijacGreatDoorP1
namespace Go.Proofs.YtjfjbgihojiijacGreatDoor
open Go

theorem Zkp {T : Int → Int → Int} (hT : ∀ u v, 0 ≤ T u v ∧ T u v ≤ 64) {L : List Int} (hL : L.length ≤ 3) (hin : ∀ u ∈ L, 0 ≤ u ∧ u ≤ 5) : ∀ (m j : Nat) (used : List Nat), j + m = L.length → used.length = j → (∀ a ∈ used, a < 6) →
  Zcf (m + 1) (Zec fun u v => T (u : Int) (v : Int)) L (j : Int) (Zj7 used) = some (Zc8 T (L.drop j) used)
 | 0, j, used, hj, hu, hu6 => by
  have e : ((j : Int) == (L.length : Int)) = true := by simp; omega
  unfold Zcf
  rw [e, List.drop_eq_nil_of_le (by omega)]
  rfl
 | m + 1, j, used, hj, hu, hu6 => by
  have hjl : j < L.length := by omega
  have e : ((j : Int) == (L.length : Int)) = false := by rw [beq_eq_false_iff_ne]; omega
  obtain ⟨u0, u1⟩ := hin _ (Z3 hjl)
  have hu6' : (gx L j).toNat < 6 := by omega
  have ecast : (((gx L j).toNat : Nat) : Int) = gx L j := by omega
  unfold Zcf
  rw [e, List.drop_eq_getElem_cons hjl, ← Zbq hjl]
  simp only [cond_false]
  rw [Zvt (f := Zgo (Zcf (m + 1)) (Zec fun u v => T (u : Int) (v : Int)) L (j : Int) (Zj7 used)) (fun a => !used.contains a) (fun a => T (gx L j) (a : Int) + Zc8 T (L.drop (j + 1)) (a :: used)) (fun k s hk => by
   have hbb := Zo5 hT (L.drop (j + 1)) (k :: used)
   have hdl : (L.drop (j + 1)).length ≤ 3 := by simp; omega
   have ht := hT (gx L j) (k : Int)
   have ej : wr ((j : Int) + 1) = ((j + 1 : Nat) : Int) := by rw [Z6 (by omega) (by omega)]; simp
   have hr := Zkp hT hL hin m (j + 1) (k :: used) (by omega) (by simp [hu]) (fun a ha => by
    simp only [List.mem_cons] at ha
    rcases ha with rfl | ha
    ·exact hk
    ·exact hu6 a ha)
   have hmask : Zj7 (k :: used) = orI (Zj7 used) (shlI 1 (k : Int)) := rfl
   unfold Zgo
   rw [Za (by omega), ZtV (by omega) hu6 hk]
   cases hc : used.contains k
   ·simp only [Bool.not_false, cond_true, Int.toNat_natCast]
    rw [Za ⟨by omega, by omega⟩, Za ⟨u0, by rw [Zqt]; omega⟩, Za (by rw [ZjD _ hu6', ZdR]; exact hk), ej, ← hmask, hr]
    simp only [Option.bind_some]
    rw [ZjD _ hu6', Zfc _ hk, ecast, Z6 (by omega) (by omega)]
   ·simp only [Bool.not_true, cond_false, Option.bind_some])]
  rfl

def pkM : List Nat → Nat → List Int → List Int
 | [], _, _ => []
 | r :: rs, i, left => gx left (i / r) :: pkM rs (i % r) (left.take (i / r) ++ left.drop (i / r + 1))
theorem ZwI : ∀ i, i < 6 → (pkM [1] i six).Nodup ∧ ∀ x ∈ pkM [1] i six, 0 ≤ x ∧ x ≤ 5 := by decide +kernel
theorem ZvZ : ∀ i, i < 30 → (pkM [5, 1] i six).Nodup ∧ ∀ x ∈ pkM [5, 1] i six, 0 ≤ x ∧ x ≤ 5 := by decide +kernel
theorem ZvC : ∀ i, i < 120 → (pkM [20, 4, 1] i six).Nodup ∧ ∀ x ∈ pkM [20, 4, 1] i six, 0 ≤ x ∧ x ≤ 5 := by decide +kernel
def inv2 (a b : Nat) : Nat := 5 * a + (b - bif decide (a < b) then 1 else 0)
def inv3 (a b c : Nat) : Nat := 20 * a + 4 * (b - bif decide (a < b) then 1 else 0) + (c - (bif decide (a < c) then 1 else 0) - (bif decide (b < c) then 1 else 0))
theorem Zvo : ∀ a, a < 6 → pkM [1] a six = [(a : Int)] := by decide +kernel
theorem Zvv : ∀ a, a < 6 → ∀ b, b < 6 → a ≠ b → inv2 a b < 30 ∧ pkM [5, 1] (inv2 a b) six = [(a : Int), (b : Int)] := by decide +kernel
def chk3 : Bool := (List.range 6).all fun a => (List.range 6).all fun b => (List.range 6).all fun c => (a == b || a == c || b == c) || (decide (inv3 a b c < 120) && (pkM [20, 4, 1] (inv3 a b c) six == [(a : Int), (b : Int), (c : Int)]))
theorem Zvp : chk3 = true := by decide +kernel
theorem Zva (a : Nat) (ha : a < 6) (b : Nat) (hb : b < 6) (c : Nat) (hc : c < 6) (hab : a ≠ b) (hac : a ≠ c) (hbc : b ≠ c) : inv3 a b c < 120 ∧ pkM [20, 4, 1] (inv3 a b c) six = [(a : Int), (b : Int), (c : Int)] := by
 have h := Zvp
 unfold chk3 at h
 rw [List.all_eq_true] at h
 have h := h a (by simpa using ha)
 rw [List.all_eq_true] at h
 have h := h b (by simpa using hb)
 rw [List.all_eq_true] at h
 have h := h c (by simpa using hc)
 have e1 : (a == b) = false := by simpa using hab
 have e2 : (a == c) = false := by simpa using hac
 have e3 : (b == c) = false := by simpa using hbc
 rw [e1, e2, e3] at h
 simp only [Bool.or_self, Bool.false_or, Bool.and_eq_true, decide_eq_true_iff, beq_iff_eq] at h
 exact h
def asgM : List Int → List Int → List Int → List Int
 | u :: L, v :: p, acc => asgM L p (acc.set u.toNat v)
 | _, _, acc => acc
theorem Zso : ∀ (L p acc : List Int), (asgM L p acc).length = acc.length
 | [], _, _ => by simp [asgM]
 | _ :: _, [], _ => by simp [asgM]
 | u :: L, v :: p, acc => by rw [asgM, Zso L p]; simp
theorem Zqh : ∀ (L p acc : List Int) {x : Nat}, (∀ u ∈ L, u.toNat ≠ x) → gx (asgM L p acc) x = gx acc x
 | [], _, _, _, _ => by simp [asgM]
 | _ :: _, [], _, _, _ => by simp [asgM]
 | u :: L, v :: p, acc, x, h => by
  rw [asgM, Zqh L p _ fun w hw => h w (by simp [hw]), Zet (Ne.symm (h u (by simp)))]
theorem ZtN : ∀ (L p acc : List Int), acc.length = 6 → L.Nodup → (∀ u ∈ L, 0 ≤ u ∧ u ≤ 5) → ∀ q ∈ L.zip p, gx (asgM L p acc) q.1.toNat = q.2
 | [], _, _, _, _, _, q, hq => by simp at hq
 | _ :: _, [], _, _, _, _, q, hq => by simp at hq
 | u :: L, v :: p, acc, hl, hn, hr, q, hq => by
  rw [List.nodup_cons] at hn
  rw [List.zip_cons_cons, List.mem_cons] at hq
  have hu := hr u (by simp)
  rw [asgM]
  rcases hq with rfl | hq
  ·rw [Zqh L p _ fun w hw e => hn.1 (by
    have := hr w (by simp [hw])
    have : w = u := by simp only at e; omega
    rw [← this]; exact hw), Zi3 (by rw [hl]; omega)]
  ·exact ZtN L p _ (by simpa using hl) hn.2 (fun w hw => hr w (by simp [hw])) q hq
theorem Ztt : ∀ (L p acc : List Int), (∀ x ∈ acc, 0 ≤ x ∧ x ≤ 5) → (∀ x ∈ p, 0 ≤ x ∧ x ≤ 5) → ∀ x ∈ asgM L p acc, 0 ≤ x ∧ x ≤ 5
 | [], _, _, h, _, x, hx => h x (by simpa [asgM] using hx)
 | _ :: _, [], _, h, _, x, hx => h x (by simpa [asgM] using hx)
 | u :: L, v :: p, acc, h, hp, x, hx => by
  rw [asgM] at hx
  refine Ztt L p _ (fun y hy => ?_) (fun y hy => hp y (by simp [hy])) x hx
  rcases List.mem_or_eq_of_mem_set hy with hm | rfl
  ·exact h y hm
  ·exact hp _ (by simp)
def ZtX : List Int := List.replicate 6 0
def wayM (L p : List Int) : List Int := asgM L p ZtX
theorem Zti {L p : List Int} (hp : ∀ x ∈ p, 0 ≤ x ∧ x ≤ 5) : ZaL (wayM L p) = true :=
 Zt7 (by unfold wayM; rw [Zso]; rfl) (Ztt L p _ (by intro x hx; simp [ZtX] at hx; omega) hp)
def ZgP : Nat → List Nat
 | 1 => [1]
 | 2 => [5, 1]
 | 3 => [20, 4, 1]
 | _ => []
def chsM : Nat → Nat
 | 1 => 6
 | 2 => 30
 | 3 => 120
 | _ => 1
theorem ZuW {n i : Nat} (h1 : 1 ≤ n) (h3 : n ≤ 3) (hi : i < chsM n) : (pkM (ZgP n) i six).length = n ∧ (pkM (ZgP n) i six).Nodup ∧ ∀ x ∈ pkM (ZgP n) i six, 0 ≤ x ∧ x ≤ 5 := by
 have hn : n = 1 ∨ n = 2 ∨ n = 3 := by omega
 rcases hn with rfl | rfl | rfl
 ·exact ⟨rfl, ZwI i hi⟩
 ·exact ⟨rfl, ZvZ i hi⟩
 ·exact ⟨rfl, ZvC i hi⟩
theorem Zvz {p : List Int} (h1 : 1 ≤ p.length) (h3 : p.length ≤ 3) (hr : ∀ x ∈ p, 0 ≤ x ∧ x ≤ 5) (hn : p.Nodup) : ∃ i, i < chsM p.length ∧ pkM (ZgP p.length) i six = p := by
 match p, h1, h3, hr, hn with
 | [x], _, _, hr, _ =>
  obtain ⟨a, rfl⟩ := Int.eq_ofNat_of_zero_le (hr x (by simp)).1
  have := (hr _ (List.mem_singleton.2 rfl)).2
  exact ⟨a, by simp only [chsM, List.length_cons, List.length_nil]; omega, Zvo a (by omega)⟩
 | [x, y], _, _, hr, hn =>
  have hx := hr x (by simp)
  have hy := hr y (by simp)
  obtain ⟨a, rfl⟩ := Int.eq_ofNat_of_zero_le hx.1
  obtain ⟨b, rfl⟩ := Int.eq_ofNat_of_zero_le hy.1
  have hab : a ≠ b := fun e => by subst e; simp at hn
  obtain ⟨g1, g2⟩ := Zvv a (by omega) b (by omega) hab
  exact ⟨inv2 a b, g1, g2⟩
 | [x, y, z], _, _, hr, hn =>
  have hx := hr x (by simp)
  have hy := hr y (by simp)
  have hz := hr z (by simp)
  obtain ⟨a, rfl⟩ := Int.eq_ofNat_of_zero_le hx.1
  obtain ⟨b, rfl⟩ := Int.eq_ofNat_of_zero_le hy.1
  obtain ⟨c, rfl⟩ := Int.eq_ofNat_of_zero_le hz.1
  have hab : a ≠ b := fun e => by subst e; simp at hn
  have hac : a ≠ c := fun e => by subst e; simp at hn
  have hbc : b ≠ c := fun e => by subst e; simp at hn
  obtain ⟨g1, g2⟩ := Zva a (by omega) b (by omega) c (by omega) hab hac hbc
  exact ⟨inv3 a b c, g1, g2⟩
 | _ :: _ :: _ :: _ :: _, _, h3, _, _ => simp at h3

theorem Zi7 {n : Nat} (h : n ≤ 3) : Zcb (n : Int) = some ((bif n == 0 then 1 else chsM n : Nat) : Int) := by
 have hn : n = 0 ∨ n = 1 ∨ n = 2 ∨ n = 3 := by omega
 rcases hn with rfl | rfl | rfl | rfl <;> rfl

theorem ZqC : Zkg 6 = some six := rfl

theorem Zuf {L : List Int} {k idx r c1 c2 : Nat} {left list : List Int} (e1 : Zcb ((L.length : Nat) : Int) = some (c1 : Int)) (e2 : Zcb ((k + 1 : Nat) : Int) = some (c2 : Int)) (h2 : 0 < c2) (hr : c1 / c2 = r) (hr0 : 0 < r) (hr1 : c1 ≤ 1000) (hidx : idx < r * left.length) (hleft : left.length ≤ 6) (hlist : list.length = 6) (hu : 0 ≤ gx L k ∧ gx L k ≤ 5) (hi : idx ≤ 1000) :
  ZbX L k ((idx : Int), left, list) = some (.next (((idx % r : Nat) : Int), left.take (idx / r) ++ left.drop (idx / r + 1), list.set (gx L k).toNat (gx left (idx / r)))) := by
 have hq : idx / r < left.length := Nat.div_lt_of_lt_mul hidx
 have hq2 : idx / r ≤ idx := Nat.div_le_self _ _
 have hrr : r ≤ c1 := by rw [← hr]; exact Nat.div_le_self _ _
 have er : wr (((c1 / c2 : Nat) : Int)) = (r : Int) := by
  rw [hr]; exact Z6 (by omega) (by omega)
 unfold ZbX
 rw [e1, e2]
 simp only [Option.bind_some, er, Zuy, Zq5]
 generalize idx / r = q at hq hq2 ⊢
 have eq1 : wr ((q : Nat) : Int) = (q : Int) := Z6 (by omega) (by omega)
 have eq2 : wr ((q : Int) + 1) = ((q + 1 : Nat) : Int) := by rw [Z6 (by omega) (by omega)]; simp
 simp only [eq1, eq2, Int.toNat_natCast]
 have ht : ((left.drop 0).take (q - 0)) = left.take q := by simp
 have hd : ((left.drop (q + 1)).take (left.length - (q + 1))) = left.drop (q + 1) := List.take_of_length_le (by simp)
 rw [Za (by omega), Za (by omega), Za ⟨by omega, by omega⟩, Za ⟨hu.1, by omega⟩, Za ⟨by omega, by omega, by omega⟩, Za ⟨by omega, by omega, by omega⟩, ht, hd, Za (by simp; omega), Za (by simp; omega)]
 rfl

theorem Zmj {b : GBlock} (h : Ze b = true) (h3 : (ZA b).length ≤ 3) {i : Nat} (hi : i < chsM (ZA b).length) : Zep b (i : Int) = some (exB (wayM (ZA b) (pkM (ZgP (ZA b).length) i six)) b, true) := by
 have hp := Zrd h
 have hc : Zf9 b = ZA b := by simp [Zf9, h]
 have hu : ∀ k, k < (ZA b).length → 0 ≤ gx (ZA b) k ∧ gx (ZA b) k ≤ 5 := fun k hk => (ZjY.1 (Z3 hk)).1
 have hpk := ZuW hp h3 hi
 have hch := Zi7 h3
 have hn0 : ((ZA b).length == 0) = false := by rw [beq_eq_false_iff_ne]; omega
 rw [hn0, cond_false] at hch
 have hcount : Za5 b = some ((chsM (ZA b).length : Nat) : Int) := by
  unfold Za5
  simp only [ZV, h, Option.bind_some, Bool.not_true, cond_false, Zfr, hc, hch]
 have hle : chsM (ZA b).length ≤ 120 := by
  have hn : (ZA b).length = 1 ∨ (ZA b).length = 2 ∨ (ZA b).length = 3 := by omega
  rcases hn with e | e | e <;> rw [e] <;> decide
 have ew : wr (((chsM (ZA b).length : Nat) : Int) - 1) = ((chsM (ZA b).length : Nat) : Int) - 1 := Z6 (by omega) (by omega)
 have hin : inR (i : Int) 0 (((chsM (ZA b).length : Nat) : Int) - 1) = true := ZT.2 ⟨by omega, by omega⟩
 have hloop : (lpO (ZbX (ZA b)) (ZA b).length ((i : Int), six, List.replicate 6 (0 : Int))).map (fun s => s.2.2) = some (wayM (ZA b) (pkM (ZgP (ZA b).length) i six)) := by
  have hst := fun (k c2 r idx : Nat) (left list : List Int) (q1 : Zcb ((k + 1 : Nat) : Int) = some (c2 : Int)) (q2 : 0 < c2) (q3 : chsM (ZA b).length / c2 = r) (q4 : 0 < r) (q5 : idx < r * left.length) (q6 : left.length ≤ 6) (q7 : list.length = 6) (q8 : k < (ZA b).length) (q9 : idx ≤ 1000) => Zuf (L := ZA b) (k := k) (idx := idx) (r := r) (c1 := chsM (ZA b).length) (c2 := c2) (left := left) (list := list) hch q1 q2 q3 q4 (by omega) q5 q6 q7 (hu k q8) q9
  have hn : (ZA b).length = 1 ∨ (ZA b).length = 2 ∨ (ZA b).length = 3 := by omega
  generalize hL : ZA b = L at hn hst hi ⊢
  rcases hn with e | e | e
  ·obtain ⟨u, rfl⟩ : ∃ u, L = [u] := by
    match L, e with
    | [u], _ => exact ⟨u, rfl⟩
   have hi6 : i < 6 := hi
   have s0 := hst 0 6 1 i six (List.replicate 6 (0 : Int)) rfl (by omega) (by simp [chsM]) (by omega) (by simp [six]; omega) (by simp [six]) (by simp) (by simp) (by omega)
   unfold lpO
   rw [show ([u] : List Int).length = 0 + 1 from rfl, forO, s0]
   rfl
  ·obtain ⟨u, v, rfl⟩ : ∃ u v, L = [u, v] := by
    match L, e with
    | [u, v], _ => exact ⟨u, v, rfl⟩
   have hi6 : i < 30 := hi
   have s0 := hst 0 6 5 i six (List.replicate 6 (0 : Int)) rfl (by omega) (by simp [chsM]) (by omega) (by simp [six]; omega) (by simp [six]) (by simp) (by simp) (by omega)
   have l1 : (six.take (i / 5) ++ six.drop (i / 5 + 1)).length = 5 := by simp [six]; omega
   have s1 := hst 1 30 1 (i % 5) (six.take (i / 5) ++ six.drop (i / 5 + 1)) ((List.replicate 6 (0 : Int)).set (gx [u, v] 0).toNat (gx six (i / 5))) rfl (by omega) (by simp [chsM]) (by omega) (by rw [l1]; omega) (by rw [l1]; omega) (by simp) (by simp) (by omega)
   unfold lpO
   rw [show ([u, v] : List Int).length = 1 + 1 from rfl, forO, s0]
   simp only [Option.bind_some]
   rw [forO, s1]
   rfl
  ·obtain ⟨u, v, w, rfl⟩ : ∃ u v w, L = [u, v, w] := by
    match L, e with
    | [u, v, w], _ => exact ⟨u, v, w, rfl⟩
   have hi6 : i < 120 := hi
   have s0 := hst 0 6 20 i six (List.replicate 6 (0 : Int)) rfl (by omega) (by simp [chsM]) (by omega) (by simp [six]; omega) (by simp [six]) (by simp) (by simp) (by omega)
   have l1 : (six.take (i / 20) ++ six.drop (i / 20 + 1)).length = 5 := by simp [six]; omega
   have s1 := hst 1 30 4 (i % 20) (six.take (i / 20) ++ six.drop (i / 20 + 1)) ((List.replicate 6 (0 : Int)).set (gx [u, v, w] 0).toNat (gx six (i / 20))) rfl (by omega) (by simp [chsM]) (by omega) (by rw [l1]; omega) (by rw [l1]; omega) (by simp) (by simp) (by omega)
   generalize hl1 : six.take (i / 20) ++ six.drop (i / 20 + 1) = left1 at l1 s0 s1
   have l2 : (left1.take (i % 20 / 4) ++ left1.drop (i % 20 / 4 + 1)).length = 4 := by simp; omega
   have s2 := hst 2 120 1 (i % 20 % 4) (left1.take (i % 20 / 4) ++ left1.drop (i % 20 / 4 + 1)) (((List.replicate 6 (0 : Int)).set (gx [u, v, w] 0).toNat (gx six (i / 20))).set (gx [u, v, w] 1).toNat (gx left1 (i % 20 / 4))) rfl (by omega) (by simp [chsM]) (by omega) (by rw [l2]; omega) (by rw [l2]; omega) (by simp) (by simp) (by omega)
   unfold lpO
   rw [show ([u, v, w] : List Int).length = 2 + 1 from rfl, forO, s0]
   simp only [Option.bind_some]
   rw [forO, s1]
   simp only [Option.bind_some]
   rw [forO, s2]
   subst hl1
   rfl
 cases hl : lpO (ZbX (ZA b)) (ZA b).length ((i : Int), six, List.replicate 6 (0 : Int)) with
 | none => rw [hl] at hloop; cases hloop
 | some e =>
  rw [hl] at hloop
  have hz : e.2.2 = wayM (ZA b) (pkM (ZgP (ZA b).length) i six) := Option.some.inj hloop
  have hw := Zti (L := ZA b) hpk.2.2
  have hwl := (Zf0 hw).1
  unfold Zep
  rw [hcount]
  simp only [Option.bind_some, ZaO, ew, hin, Bool.not_true, cond_false, Zfr, hc, ZqC]
  rw [Za (by omega), hl]
  simp only [Option.bind_some, hz]
  rw [ZhV (Zdr h).1 (by omega), Zwr h hw]
  rfl

def ZgQ (b d : GBlock) : Int := bif Zdv b d && decide ((ZA d).length ≤ 3) then mx 8 (fun k => Zc8 (TM b (Z1 d (k : Int))) (ZA d) []) else 0
theorem Zsi {L p : List Int} (h : p.length = L.length) : (L.zip p).map Prod.fst = L := by
 rw [List.map_fst_zip (by omega)]
theorem Zru {b d : GBlock} (h : Zdv b d = true) {k : Nat} (hk : k < 8) {p : List Int} (hl : p.length = (ZA d).length) (hr : ∀ x ∈ p, 0 ≤ x ∧ x ≤ 5) : ZiK b (Z1 (exB (wayM (ZA d) p) d) (k : Int)) = sumP ((ZA d).zip p) (TM b (Z1 d (k : Int))) := by
 obtain ⟨h1, h2, h3, h4⟩ := ZiF h
 have hw := Zti (L := ZA d) hr
 rw [ZqA h2 hw hk]
 refine ZqM (ZmG h hk) hw (by rw [Zsi hl]; exact Zpp d) (fun i hi s => by rw [Zsi hl]; exact Zsd h2 hk hi s) ?_
 exact ZtN _ _ _ rfl (Zpp d) fun u hu => (ZjY.1 hu).1

theorem Zj4 (b d : GBlock) : Zci b d = some (ZgQ b d) := by
 unfold Zci ZgQ
 simp only [Zof, ZqL, Option.bind_some]
 cases h : Zdv b d
 ·rfl
 obtain ⟨h1, h2, h3, h4⟩ := ZiF h
 have hc : Zf9 d = ZA d := by simp [Zf9, h2]
 rw [hc]
 by_cases hn : (ZA d).length ≤ 3
 ·have hd : decide (((ZA d).length : Int) > 3) = false := by simp; omega
  have hd' : decide ((ZA d).length ≤ 3) = true := by simpa using hn
  simp only [hd, hd', Bool.not_true, cond_false, Option.bind_some, Bool.and_self, cond_true]
  rw [ZrQ (f := Zcz b d (ZA d)) (fun k => Zc8 (TM b (Z1 d (k : Int))) (ZA d) []) (fun k s hk => by
   have hb := Zkp (T := TM b (Z1 d (k : Int))) (fun u v => ZrH h4 u v) hn (fun u hu => (ZjY.1 hu).1) (ZA d).length 0 [] (by omega) rfl (by simp)
   simp only [List.drop_zero] at hb
   simp only [Zcz, ZjV, Zn4 (ZmG h hk), Option.bind_some]
   rw [show (0 : Int) = ((0 : Nat) : Int) from rfl, show Zcf ((ZA d).length + 1) (Zec fun u v => TM b (Z1 d (k : Int)) (u : Int) (v : Int)) (ZA d) ((0 : Nat) : Int) ((0 : Nat) : Int) = _ from hb]
   rfl)]
  rfl
 ·have hd : decide (((ZA d).length : Int) > 3) = true := by simp; omega
  have hd' : decide ((ZA d).length ≤ 3) = false := by simpa using hn
  simp [hd, hd']

theorem Zj5 (b d : GBlock) : Zca b d = some (ZgQ b d) := by
 unfold Zca ZgQ
 simp only [Zhp, Zfr, Option.bind_some]
 cases h : Zdv b d
 ·rfl
 obtain ⟨h1, h2, h3, h4⟩ := ZiF h
 have hc : Zf9 d = ZA d := by simp [Zf9, h2]
 rw [hc]
 by_cases hn : (ZA d).length ≤ 3
 ·have hd : decide (((ZA d).length : Int) > 3) = false := by simp; omega
  have hd' : decide ((ZA d).length ≤ 3) = true := by simpa using hn
  have hp := Zrd h2
  have hch := Zi7 hn
  have hn0 : ((ZA d).length == 0) = false := by rw [beq_eq_false_iff_ne]; omega
  rw [hn0, cond_false] at hch
  have hcount : Za5 d = some ((chsM (ZA d).length : Nat) : Int) := by
   unfold Za5
   simp only [ZV, h2, Option.bind_some, Bool.not_true, cond_false, Zfr, hc, hch]
  have hle : chsM (ZA d).length ≤ 120 := by
   have hn : (ZA d).length = 1 ∨ (ZA d).length = 2 ∨ (ZA d).length = 3 := by omega
   rcases hn with e | e | e <;> rw [e] <;> decide
  simp only [hd, hd', Bool.not_true, cond_false, Option.bind_some, Bool.and_self, cond_true, hcount, Int.toNat_natCast]
  rw [Za (by omega), ZrQ (f := ZcB b d) (fun i => mx 8 fun k => ZiK b (Z1 (exB (wayM (ZA d) (pkM (ZgP (ZA d).length) i six)) d) (k : Int))) (fun i s hi => by
   have hpr : Zdv b (exB (wayM (ZA d) (pkM (ZgP (ZA d).length) i six)) d) = true := by
    have := h
    simp only [Zdv, Bool.and_eq_true] at this ⊢
    exact ⟨⟨h1, ZoQ h2 _⟩, this.2⟩
   simp only [ZcB, Zmj h2 hn hi, Zly hpr, Option.bind_some]
   rfl)]
  simp only [Option.bind_some]
  congr 1
  apply Int.le_antisymm
  ·refine ZlA (Zj8 _ _) fun i hi => ZlA (Zj8 _ _) fun k hk => ?_
   obtain ⟨p1, p2, p3⟩ := ZuW hp hn hi
   rw [Zru h hk p1 p3]
   exact Int.le_trans (Zst (T := TM b (Z1 d (k : Int))) (ZA d) [] _ p1 p3 p2 (by simp)) (ZqV (g := fun k : Nat => Zc8 (TM b (Z1 d (k : Int))) (ZA d) []) hk)
  ·refine ZlA (Zj8 _ _) fun k hk => ?_
   obtain ⟨p, p1, p2, p3, p4, p5⟩ := ZrL (T := TM b (Z1 d (k : Int))) (fun u v => (ZrH h4 u v).1) (ZA d) [] (by simpa using hn)
   obtain ⟨i, hi, hip⟩ := Zvz (p := p) (by omega) (by omega) p2 p3
   rw [p1] at hi hip
   refine Int.le_trans p5 ?_
   rw [← Zru h hk p1 p2, ← hip]
   exact Int.le_trans (ZqV (g := fun k : Nat => ZiK b (Z1 (exB (wayM (ZA d) (pkM (ZgP (ZA d).length) i six)) d) (k : Int))) hk) (ZqV (g := fun i => mx 8 fun k => ZiK b (Z1 (exB (wayM (ZA d) (pkM (ZgP (ZA d).length) i six)) d) (k : Int))) hi)
 ·have hd : decide (((ZA d).length : Int) > 3) = true := by simp; omega
  have hd' : decide ((ZA d).length ≤ 3) = false := by simpa using hn
  simp [hd, hd']

theorem ZjR : ∀ l : List UInt8, Op.bytesLess l l = false
 | [] => rfl
 | x :: l => by
  have := ZjR l
  simp [Op.bytesLess, this]
theorem ZsQ (s : Str) : slt s s = false := ZjR _
def lstM (F : Nat → GBlock) : Nat → GBlock
 | 0 => F 0
 | n + 1 => bif slt (Zd4 (F (n + 1))) (Zd4 (lstM F n)) then F (n + 1) else lstM F n
def ixM (F : Nat → GBlock) : Nat → Nat
 | 0 => 0
 | k + 1 => bif slt (Zd4 (F k)) (Zd4 (F (ixM F k))) then k else ixM F k
theorem ZtO (F : Nat → GBlock) : ∀ k, F (ixM F (k + 1)) = lstM F k
 | 0 => by
  have : slt (Zd4 (F 0)) (Zd4 (F 0)) = false := ZsQ _
  simp [ixM, lstM, this]
 | k + 1 => by
  have ih := ZtO F k
  rw [ixM, lstM, ih]
  cases slt (Zd4 (F (k + 1))) (Zd4 (lstM F k))
  ·exact ih
  ·rfl
theorem ZrY (F : Nat → GBlock) : ∀ k, ixM F k ≤ k
 | 0 => Nat.le_refl _
 | k + 1 => by
  have := ZrY F k
  unfold ixM
  cases slt (Zd4 (F k)) (Zd4 (F (ixM F k))) <;> simp <;> omega
theorem Zqi {F G : Nat → GBlock} : ∀ {n : Nat}, (∀ k, k ≤ n → F k = G k) → lstM F n = lstM G n
 | 0, h => h 0 (Nat.le_refl _)
 | n + 1, h => by rw [lstM, lstM, Zqi (n := n) fun k hk => h k (by omega), h (n + 1) (Nat.le_refl _)]
theorem ZrG (F : Nat → GBlock) : ∀ n, ∃ k, k ≤ n ∧ lstM F n = F k
 | 0 => ⟨0, Nat.le_refl _, rfl⟩
 | n + 1 => by
  obtain ⟨k, hk, e⟩ := ZrG F n
  unfold lstM
  cases slt (Zd4 (F (n + 1))) (Zd4 (lstM F n))
  ·exact ⟨k, by omega, e⟩
  ·exact ⟨n + 1, Nat.le_refl _, rfl⟩

theorem Zih {a : Int} (h0 : 0 ≤ a) (h1 : a ≤ 5) : ZcM a = some ⟨[digM a]⟩ := by
 unfold ZcM strconv_Itoa
 rw [Za ⟨h0, by omega⟩]
 rfl

theorem ZjX {c : GCell} (h : Zo c = true) : Zem c = some ⟨Zab c⟩ := by
 obtain ⟨h1, h2, h3, h4, h5, h6, h7⟩ := ZaS h
 have hs : c.Split = 0 ∨ c.Split = 1 ∨ c.Split = 2 := by omega
 unfold Zem Zab
 simp only [ZbD, h, Zih h3 h4, Zih h5 h6, Option.bind_some, Bool.not_true, cond_false]
 rcases hs with e | e | e <;> rw [e]
 ·rfl
 ·rfl
 ·rfl

theorem ZkV {b : GBlock} (h : Ze b = true) : Zf3 b = some (Zd4 b) := by
 obtain ⟨n, hn, h1, h2, hl, hc⟩ := Zu h
 have hnn : n * n ≤ 4 * 4 := Nat.mul_le_mul h2 h2
 unfold Zf3
 simp only [ZV, h, Option.bind_some, Bool.not_true, cond_false]
 rw [Za (by omega), ZaG (f := Zg4 b) (s0 := (⟨[]⟩ : Str)) (fun k => (⟨Zeu (b.Cells.take k)⟩ : Str)) rfl (fun k hk => by
  have hx := hc _ (Z3 hk)
  have hlen := ZlK (b.Cells.take k)
  have hlen2 : (b.Cells.take k).length ≤ 16 := by simp; omega
  have hlen3 := ZjP (gx b.Cells k)
  simp only [Zg4, Option.bind_some, ZjX hx]
  rw [Za (by simp only [List.length_cons, List.length_nil]; omega), Za (by simp only [sadd, List.length_append, List.length_cons, List.length_nil]; omega)]
  rw [List.take_succ_eq_append_getElem hk, ← Zbq hk]
  simp [sadd, Zeu])]
 simp [Zd4, h]

theorem ZqO {l : List GBlock} (h0 : 0 < l.length) (hl : l.length ≤ 1000) (hok : ∀ k, k < l.length → Ze (gx l k) = true) : Zip l = some (lstM (gx l) (l.length - 1)) := by
 unfold Zip
 rw [Za h0, Za (by omega), ZaG (f := ZhG l) (s0 := 0) (ixM (gx l)) rfl (fun k hk => by
  have hi := ZrY (gx l) k
  unfold ZhG
  rw [Za (by omega), ZkV (hok k hk), ZkV (hok _ (by omega))]
  simp only [Option.bind_some]
  rfl)]
 have hi : ixM (gx l) l.length < l.length := by
  obtain ⟨n, hn⟩ : ∃ n, l.length = n + 1 := ⟨l.length - 1, by omega⟩
  rw [hn]
  unfold ixM
  have := ZrY (gx l) n
  cases slt (Zd4 (gx l n)) (Zd4 (gx l (ixM (gx l) n))) <;> simp <;> omega
 simp only [Option.bind_some]
 rw [Za hi]
 obtain ⟨n, hn⟩ : ∃ n, l.length = n + 1 := ⟨l.length - 1, by omega⟩
 rw [hn, ZtO (gx l) n]
 rfl

theorem Ztr {b : GBlock} (h : Ze b = true) : Z1 b ((0 : Nat) : Int) = b := by
 unfold Z1
 rw [h]
 rfl
def Zjs (b : GBlock) : GBlock := bif Ze b then lstM (fun k => ZbS (Z1 b (k : Int))) 7 else ⟨0, []⟩
theorem Zsr {b : GBlock} (h : Ze b = true) : Ze (Zjs b) = true ∧ (Zjs b).Size = b.Size := by
 unfold Zjs
 rw [h, cond_true]
 obtain ⟨k, hk, e⟩ := ZrG (fun k => ZbS (Z1 b (k : Int))) 7
 rw [e]
 obtain ⟨v1, v2⟩ := ZjB h (k := k) (by omega)
 obtain ⟨p1, p2⟩ := ZlD v1
 exact ⟨p1, by rw [p2, v2]⟩

theorem Zlx (b : GBlock) : Zco b = some (Zjs b) := by
 unfold Zco Zjs
 simp only [Z7, Option.bind_some]
 cases h : Ze b
 ·rfl
 simp only [Bool.not_true, cond_false, cond_true, Zj1 h, Option.bind_some]
 rw [ZaG (f := ZdA b) (s0 := ((ZbS b).Size, (ZbS b).Cells)) (fun k => ((lstM (fun k => ZbS (Z1 b (k : Int))) k).Size, (lstM (fun k => ZbS (Z1 b (k : Int))) k).Cells)) (by rw [lstM, Ztr h]) (fun k hk => by
  have hv := (ZjB h (k := k + 1) (by omega)).1
  have hp := (ZlD hv).1
  have hb : Ze (lstM (fun k => ZbS (Z1 b (k : Int))) k) = true := by
   obtain ⟨j, hj, e⟩ := ZrG (fun k => ZbS (Z1 b (k : Int))) k
   rw [e]; exact (ZlD (ZjB h (by omega)).1).1
  simp only [ZdA, ZjV, Zj1 hv, Zk1 hp, Option.bind_some]
  rw [show Zey (GBlock.mk (lstM (fun k => ZbS (Z1 b (k : Int))) k).Size (lstM (fun k => ZbS (Z1 b (k : Int))) k).Cells) = _ from Zk1 hb]
  rfl)]
 rfl

theorem Zle (b : GBlock) : Zcm b = some (Zjs b) := by
 unfold Zcm Zjs
 simp only [ZV, Option.bind_some]
 cases h : Ze b
 ·rfl
 simp only [Bool.not_true, cond_false, cond_true, ZlL, Option.bind_some, Zqw]
 rw [Za (by omega), ZbN (f := Zdw (ZkT b)) (xs := []) (fun k : Nat => ZbS (Z1 b (k : Int))) (fun k s hk hs => by
  unfold Zdw
  rw [ZrT _ hk, ZqR (ZjB h hk).1]
  simp only [Option.bind_some]
  rw [Za (by simp at hs; omega)])]
 have hl : (([] : List GBlock) ++ (List.range 8).map fun k : Nat => ZbS (Z1 b (k : Int))).length = 8 := by simp
 have hg : ∀ k, k < 8 → gx (([] : List GBlock) ++ (List.range 8).map fun k : Nat => ZbS (Z1 b (k : Int))) k = ZbS (Z1 b (k : Int)) := fun k hk => by
  rw [List.nil_append]; exact ZdX _ hk
 simp only [Option.bind_some]
 rw [ZqO (by rw [hl]; omega) (by rw [hl]; omega) (fun k hk => by
  rw [hl] at hk
  rw [hg k hk]; exact (ZlD (ZjB h hk).1).1), hl]
 simp only [Option.bind_some]
 rw [Zqi (G := fun k => ZbS (Z1 b (k : Int))) fun k hk => hg k (by omega)]

def ZgG (b d : GBlock) : Bool := Ze b && Ze d && Zh4 (Zjs b) (Zjs d)

theorem Zj3 (b d : GBlock) : Zch b d = some (ZgG b d) := by
 unfold Zch ZgG
 simp only [Z7, Zlx, Option.bind_some]
 cases hb : Ze b
 ·rfl
 cases hd : Ze d
 ·rfl
 simp only [cond_true, Zm0 (Zdr (Zsr hb).1).1, Option.bind_some, Bool.true_and]

theorem Zj2 (b d : GBlock) : Zce b d = some (ZgG b d) := by
 unfold Zce ZgG
 simp only [ZV, Zle, Option.bind_some]
 cases hb : Ze b
 ·rfl
 cases hd : Ze d
 ·rfl
 simp only [cond_true, Zm5 (Zdr (Zsr hb).1).1, Option.bind_some, Bool.true_and]

def Zez (e f : GEntry) : Int := bif !ZfM e || !ZfM f || e.Block.Size != f.Block.Size then 0 else bif ZgG e.Block f.Block then 3 else bif decide (wr (10 * ZgQ e.Block f.Block) ≥ wr (36 * (e.Block.Cells.length : Int))) then 2 else 1
theorem ZqJ (e f : GEntry) : Zez e f = 0 ∨ Zez e f = 1 ∨ Zez e f = 2 ∨ Zez e f = 3 := by
 unfold Zez
 cases !ZfM e || !ZfM f || e.Block.Size != f.Block.Size
 ·cases ZgG e.Block f.Block
  ·cases decide (wr (10 * ZgQ e.Block f.Block) ≥ wr (36 * (e.Block.Cells.length : Int))) <;> simp
  ·simp
 ·simp

theorem Znp (e f : GEntry) : ZeR e f = some (Zez e f) := by
 unfold ZeR Zez
 simp only [Zot, Zj3, Zj4, Option.bind_some]
 cases ZfM e
 ·rfl
 cases ZfM f
 ·rfl
 cases e.Block.Size != f.Block.Size
 ·simp only [Bool.not_true, cond_false, Option.bind_some, Bool.or_self]
  cases ZgG e.Block f.Block
  ·cases decide (wr (10 * ZgQ e.Block f.Block) ≥ wr (36 * (e.Block.Cells.length : Int))) <;> rfl
  ·rfl
 ·rfl

theorem Znj (e f : GEntry) : ZeT e f = some (Zez e f) := by
 unfold ZeT Zez
 simp only [Zn8, Zj2, Zj5, Option.bind_some]
 cases ZfM e
 ·rfl
 cases ZfM f
 ·rfl
 cases e.Block.Size != f.Block.Size
 ·simp only [Bool.not_true, cond_false, Option.bind_some, Bool.or_self]
  cases ZgG e.Block f.Block
  ·cases decide (wr (10 * ZgQ e.Block f.Block) ≥ wr (36 * (e.Block.Cells.length : Int))) <;> rfl
  ·rfl
 ·rfl

def ZgS (e f : GEntry) : Bool := (e.Owner != f.Owner) && decide (e.Day > f.Day) && decide (Zez e f ≥ 2)

theorem ZpU (e f : GEntry) : Zhu e f = some (ZgS e f) := by
 unfold Zhu ZgS
 simp only [Znp, Option.bind_some]
 rcases ZqJ e f with h | h | h | h <;> rw [h] <;> cases e.Owner != f.Owner <;> cases decide (e.Day > f.Day) <;> rfl

theorem Zqc (e f : GEntry) : Zgb e f = some (ZgS e f) := by
 unfold Zgb ZgS
 simp only [Znj, Option.bind_some]
 cases e.Owner != f.Owner <;> cases decide (e.Day > f.Day) <;> simp

def Zn9 (g : GGuild) (n d : Int) (b : GBlock) (w : GGuild × Bool) : Prop := (∀ k, k < g.Entries.length → ZgS ⟨n, d, b⟩ (gx g.Entries k) = false) ∧ w = ((⟨g.Members, g.Stock, g.Entries ++ [⟨n, d, b⟩], g.Books, g.Round, g.Year⟩ : GGuild), true) ∧ Zs w.1 = true
theorem ZtH (g : GGuild) (n d : Int) (b : GBlock) (h : Sm.ok g) (hb : Sm.ok b) : ∃ w, Zhy g n d b = some w ∧ Zht g n d b = some w ∧ Sm.ok w.1 ∧ (w = (g, false) ∨ Zn9 g n d b w) := by
 have hgl := Zd9 h
 have hel : g.Entries.length ≤ 1048576 := h.2.2.1.1
 have hn : GL (⟨g.Members, g.Stock, g.Entries ++ [⟨n, d, b⟩], g.Books, g.Round, g.Year⟩ : GGuild) := ⟨hgl.1, hgl.2.1, by simp only [List.length_append, List.length_cons, List.length_nil]; omega, hgl.2.2.2⟩
 have hloop : ∀ f : Nat → Unit → Option (Res Unit (GGuild × Bool)), (∀ k, k < g.Entries.length → f k () = some (bif ZgS ⟨n, d, b⟩ (gx g.Entries k) then .ret (g, false) else .next ())) → forO f g.Entries.length 0 () = some (bif (List.range g.Entries.length).all (fun k => !ZgS ⟨n, d, b⟩ (gx g.Entries k)) then .inl () else .inr (g, false)) := fun f hf =>
  Zbi (f := f) (fun k => !ZgS ⟨n, d, b⟩ (gx g.Entries k)) fun k hk => by
   rw [hf k hk]
   cases ZgS ⟨n, d, b⟩ (gx g.Entries k) <;> rfl
 unfold Zhy Zht
 simp only [Zcd h, Zkq hb, Zay h, Zin hb, Zav g hgl, ZbK g hgl, Option.bind_some]
 cases hg : Zs g
 ·exact ⟨(g, false), rfl, rfl, h, .inl rfl⟩
 simp only [Bool.not_true, cond_false]
 rw [Za (p := g.Entries.length ≤ 4611686018427387904) (by omega), Za (p := g.Entries.length ≤ 4611686018427387904) (by omega), hloop (ZgX g n d g b) (fun k hk => by
  simp only [ZgX, ZpU, Option.bind_some]
  cases ZgS ⟨n, d, b⟩ (gx g.Entries k) <;> rfl), hloop (Zg8 g n d g b) (fun k hk => by
  have e : Zgb ⟨n, d, b⟩ ⟨(gx g.Entries k).Owner, (gx g.Entries k).Day, (gx g.Entries k).Block⟩ = some (ZgS ⟨n, d, b⟩ (gx g.Entries k)) := Zqc _ _
  simp only [Zg8, e, Option.bind_some]
  cases ZgS ⟨n, d, b⟩ (gx g.Entries k) <;> rfl)]
 cases hall : (List.range g.Entries.length).all fun k => !ZgS ⟨n, d, b⟩ (gx g.Entries k)
 ·exact ⟨(g, false), rfl, rfl, h, .inl rfl⟩
 simp only [cond_true, Zdg]
 rw [Za (by omega), Za (by omega)]
 simp only [Zav _ hn, Zgh h hn, hg, Option.bind_some]
 cases hx : Zs (⟨g.Members, g.Stock, g.Entries ++ [⟨n, d, b⟩], g.Books, g.Round, g.Year⟩ : GGuild)
 ·exact ⟨(g, false), rfl, rfl, h, .inl rfl⟩
 ·refine ⟨_, rfl, rfl, Zie hx, .inr ⟨fun k hk => ?_, rfl, hx⟩⟩
  rw [List.all_eq_true] at hall
  have := hall k (by simpa using hk)
  simpa using this

def ZaE (a : GAct) : Bool := bif a.Kind == 1 then inR a.A 1 999 && (a.B == 0) else bif a.Kind == 2 then inR a.A 1 999 && inR a.B 0 9 else bif a.Kind == 3 || a.Kind == 6 then inR a.A 0 9 && (a.B == 0) else bif a.Kind == 4 || a.Kind == 5 then (a.A == 0) && (a.B == 0) else false

theorem ZlQ (a : GAct) : Zhk a = some (ZaE a) := by
 unfold Zhk ZaE
 simp only [Zbv, Option.bind_some]
 cases a.Kind == 1
 ·cases a.Kind == 2
  ·cases a.Kind == 3 || a.Kind == 6
   ·cases a.Kind == 4 || a.Kind == 5 <;> rfl
   ·cases inR a.A 0 9 <;> rfl
  ·cases inR a.A 1 999 <;> rfl
 ·cases inR a.A 1 999 <;> rfl

theorem ZlI (a : GAct) : ZgZ a = some (ZaE a) := by
 unfold ZgZ ZaE
 simp only [ZaO, Option.bind_some]
 cases a.Kind == 1
 ·cases a.Kind == 2
  ·cases a.Kind == 3 || a.Kind == 6
   ·cases a.Kind == 4 <;> cases a.Kind == 5 <;> rfl
   ·cases inR a.A 0 9 <;> rfl
  ·cases inR a.A 1 999 <;> rfl
 ·cases inR a.A 1 999 <;> rfl

def Zg2 (st need : List Int) : List Int := tab6 fun a => if gx need a - gx st a > 0 then gx need a - gx st a else 0

theorem Zp6 {st need : List Int} (h1 : Zao st = true) (h2 : Zao need = true) : Zhw st need = some (Zg2 st need) := by
 obtain ⟨l1, b1⟩ := ZfC h1
 obtain ⟨l2, b2⟩ := ZfC h2
 unfold Zhw
 rw [ZbN (f := ZgR st need) (xs := []) (fun a : Nat => if gx need a - gx st a > 0 then gx need a - gx st a else 0) (fun k s hk hs => by
  have c1 := b1 k hk
  have c2 := b2 k hk
  simp only [ZgR, Zeo st (show st.length ≤ 4611686018427387904 by omega), Zeo need (show need.length ≤ 4611686018427387904 by omega), h1, h2, Option.bind_some, cond_true]
  rw [Za (by omega), Za (by omega), Za (by simp at hs; omega), Z6 (by omega) (by omega)])]
 rfl

theorem ZpF {st need : List Int} (h1 : Zao st = true) (h2 : Zao need = true) : Zhv st need = some (Zg2 st need) := by
 obtain ⟨l1, b1⟩ := ZfC h1
 obtain ⟨l2, b2⟩ := ZfC h2
 unfold Zhv
 simp only [Zgg st (show st.length ≤ 4611686018427387904 by omega), Zgg need (show need.length ≤ 4611686018427387904 by omega), h1, h2, Option.bind_some, Bool.not_true, cond_false]
 rw [Za (by omega), l1, ZbN (f := Zhd st need) (xs := []) (fun a : Nat => if gx need a - gx st a > 0 then gx need a - gx st a else 0) (fun k s hk hs => by
  have c1 := b1 k hk
  have c2 := b2 k hk
  unfold Zhd
  rw [Za (by omega), Za (by simp at hs; omega), Z6 (by omega) (by omega)]
  congr 4
  by_cases hx : gx need k - gx st k > 0
  ·have : ¬ 0 > gx need k - gx st k := by omega
   rw [if_pos hx, if_neg this]
  ·by_cases hy : 0 > gx need k - gx st k
   ·rw [if_neg hx, if_pos hy]
   ·rw [if_neg hx, if_neg hy]
    omega)]
 rfl

theorem Zrg {st : List Int} (h1 : Zao st = true) {b : GBlock} {f : Nat → Int → Option (Res Int Empty)} (hf : ∀ k s, f k s = some (.next (wr (s + gx (Zg2 st (tab6 fun a => Zah b a)) k)))) : lpO f (Zg2 st (tab6 fun a => Zah b a)).length 0 = some (sumN 6 fun a => gx (Zg2 st (tab6 fun a => Zah b a)) a) := by
 obtain ⟨l1, b1⟩ := ZfC h1
 have hb : ∀ a, a < 6 → 0 ≤ gx (Zg2 st (tab6 fun a => Zah b a)) a ∧ gx (Zg2 st (tab6 fun a => Zah b a)) a ≤ 64 := fun a ha => by
  have c1 := b1 a ha
  have c2 := Zlc b (a : Int)
  unfold Zg2
  rw [Zfc _ ha, Zfc _ ha]
  split <;> omega
 have hl : (Zg2 st (tab6 fun a => Zah b a)).length = 6 := ZdR _
 rw [hl, ZkL (f := f) (fun a => gx (Zg2 st (tab6 fun a => Zah b a)) a) (s0 := 0) (B := 64) (fun k s hk h0 h2 => by
  have := hb k hk
  rw [hf, Z6 (by omega) (by omega)]) (fun k hk => hb k hk) (by omega) (by omega) (by omega)]
 simp [sumN]

def DoTo (g : GGuild) (a : GAct) (w : GGuild × Int) : Prop :=
 (w.1 = g ∧ (w.2 = 1 → a.Kind = 6)) ∨ (a.Kind = 1 ∧ w.2 = 1 ∧ ZpG g a.A (w.1, true)) ∨ (a.Kind = 2 ∧ w.2 = 1 ∧ ∃ d b, Zn9 g a.A d b (w.1, true)) ∨ (a.Kind = 3 ∧ w.2 = 1 ∧ ZqZ g a.A (w.1, true)) ∨ (a.Kind = 4 ∧ w.2 = 1 ∧ w.1 = (⟨g.Members, g.Stock, g.Entries, g.Books, wr (g.Round + 1), g.Year⟩ : GGuild) ∧ Zs w.1 = true) ∨ (a.Kind = 5 ∧ w.2 = 1 ∧ w.1 = (⟨g.Members, g.Stock, g.Entries, g.Books, 0, wr (g.Year + 1)⟩ : GGuild) ∧ Zs w.1 = true)
theorem Zuv (g : GGuild) (a : GAct) (h : Sm.ok g) : ∃ w, ZdB g a = some w ∧ ZcY g a = some w ∧ Sm.ok w.1 ∧ DoTo g a w := by
 have hgl := Zd9 h
 unfold ZdB ZcY
 simp only [Zcd h, Zay h, Zav g hgl, ZbK g hgl, ZlQ, ZlI, Option.bind_some]
 cases hg : Zs g
 ·exact ⟨(g, -1), rfl, rfl, h, .inl ⟨rfl, fun e => by simp at e⟩⟩
 cases ha : ZaE a
 ·exact ⟨(g, -1), rfl, rfl, h, .inl ⟨rfl, fun e => by simp at e⟩⟩
 simp only [Bool.not_true, cond_false, Option.bind_some]
 have fin : ∀ (P : GGuild × Bool → Prop) (w : GGuild × Bool), Sm.ok w.1 → (w = (g, false) ∨ P w) → (∀ w, P w → w.2 = true ∧ DoTo g a (w.1, 1)) → ∃ v : GGuild × Int, ((ZgA w.2).bind fun v12 => some (w.1, v12)) = some v ∧ (bif w.2 then some (w.1, (1 : Int)) else some (w.1, (0 : Int))) = some v ∧ Sm.ok v.1 ∧ DoTo g a v := fun P w hw hor hP => by
  unfold ZgA
  rcases hor with rfl | hp
  ·exact ⟨(g, 0), rfl, rfl, hw, .inl ⟨rfl, fun e => by simp at e⟩⟩
  ·obtain ⟨p1, p2⟩ := hP w hp
   rw [p1]
   exact ⟨(w.1, 1), rfl, rfl, hw, p2⟩
 have kk : ∀ n : Int, (a.Kind == n) = true → a.Kind = n := fun n e => by simpa using e
 cases k1 : a.Kind == 1
 ·cases k2 : a.Kind == 2
  ·cases k3 : a.Kind == 3
   ·cases k4 : a.Kind == 4
    ·cases k5 : a.Kind == 5
     ·cases k6 : a.Kind == 6
      ·exfalso
       unfold ZaE at ha
       rw [k1, k2, k3, k4, k5, k6] at ha
       cases ha
      ·have hA : 0 ≤ a.A ∧ a.A ≤ 9 := by
        unfold ZaE at ha
        rw [k1, k2, k3, k6] at ha
        simp only [cond_false, Bool.or_true, cond_true, Bool.and_eq_true, ZT] at ha
        exact ha.1
       obtain ⟨_, hst, _, hel, hbo⟩ := Zf4 hg
       have ew : wr ((g.Entries.length : Int) - 1) = (g.Entries.length : Int) - 1 := Z6 (by omega) (by omega)
       simp only [cond_false, cond_true, ZhU, ZaO, ew, Option.bind_some]
       by_cases hlt : a.A < (g.Entries.length : Int)
       ·have hd : decide (a.A < (g.Entries.length : Int)) = true := by simpa using hlt
        have hin : inR a.A 0 ((g.Entries.length : Int) - 1) = true := ZT.2 ⟨by omega, by omega⟩
        have hb := hbo a.A.toNat (by omega)
        simp only [hd, hin, Bool.not_true, cond_false, cond_true, Zjg, Zjh, ZkF, hb, Option.bind_some]
        generalize (gx g.Entries a.A.toNat).Block = b at hb
        have hts : Zao (tab6 fun x => Zah b x) = true := Zke fun x _ => by have := Zlc b (x : Int); omega
        rw [Za ⟨by omega, by omega⟩, Za ⟨by omega, by omega⟩, Zp6 hst hts, ZpF hst hts]
        simp only [Option.bind_some]
        have hl : (Zg2 g.Stock (tab6 fun x => Zah b x)).length = 6 := ZdR _
        rw [Za (by omega), Za (by omega), Zrg hst (f := Zjc (Zg2 g.Stock (tab6 fun x => Zah b x))) (fun k s => rfl), Zrg hst (f := ZjT (Zg2 g.Stock (tab6 fun x => Zah b x))) (fun k s => rfl)]
        exact ⟨_, rfl, rfl, h, .inl ⟨rfl, fun _ => kk 6 k6⟩⟩
       ·have hd : decide (a.A < (g.Entries.length : Int)) = false := by simpa using hlt
        have hin : inR a.A 0 ((g.Entries.length : Int) - 1) = false := ZpK.2 (by omega)
        simp only [hd, hin, Bool.not_false, cond_false, cond_true, Option.bind_some]
        exact ⟨(g, 0), rfl, rfl, h, .inl ⟨rfl, fun e => by simp at e⟩⟩
     ·obtain ⟨w, s1, s2, s3, s4⟩ := ZsP g h
      simp only [cond_false, cond_true, s1, s2, Option.bind_some, Zdg]
      exact fin (fun w => w = ((⟨g.Members, g.Stock, g.Entries, g.Books, 0, wr (g.Year + 1)⟩ : GGuild), true) ∧ Zs w.1 = true) w s3 s4 fun w hp => ⟨by rw [hp.1], .inr (.inr (.inr (.inr (.inr ⟨kk 5 k5, rfl, by rw [hp.1], hp.2⟩))))⟩
    ·obtain ⟨w, s1, s2, s3, s4⟩ := Zrj g h
     simp only [cond_false, cond_true, s1, s2, Option.bind_some, Zdg]
     exact fin (fun w => w = ((⟨g.Members, g.Stock, g.Entries, g.Books, wr (g.Round + 1), g.Year⟩ : GGuild), true) ∧ Zs w.1 = true) w s3 s4 fun w hp => ⟨by rw [hp.1], .inr (.inr (.inr (.inr (.inl ⟨kk 4 k4, rfl, by rw [hp.1], hp.2⟩))))⟩
   ·obtain ⟨w, s1, s2, s3, s4⟩ := Zsa g a.A h
    simp only [cond_false, cond_true, s1, s2, Option.bind_some, Zdg]
    exact fin (ZqZ g a.A) w s3 s4 fun w hp => by
     have hw : w = (w.1, true) := by obtain ⟨s, _, _, _, e, _⟩ := hp; rw [e]
     exact ⟨by rw [hw], .inr (.inr (.inr (.inl ⟨kk 3 k3, rfl, by rw [← hw]; exact hp⟩)))⟩
  ·have hel : g.Entries.length ≤ 1048576 := h.2.2.1.1
   have hday : ∃ d : Int, (bif decide ((g.Entries.length : Int) > 0) then gd (0 ≤ wr ((g.Entries.length : Int) - 1) ∧ wr ((g.Entries.length : Int) - 1) < (g.Entries.length : Int)) (some (wr ((gx g.Entries (wr ((g.Entries.length : Int) - 1)).toNat).Day + 1))) else some 0) = some d := by
    cases hd : decide ((g.Entries.length : Int) > 0)
    ·exact ⟨0, rfl⟩
    ·have hd' : (g.Entries.length : Int) > 0 := by simpa using hd
     have e : wr ((g.Entries.length : Int) - 1) = (g.Entries.length : Int) - 1 := Z6 (by omega) (by omega)
     rw [e]
     exact ⟨_, by rw [cond_true, Za ⟨by omega, by omega⟩]⟩
   obtain ⟨d, hd⟩ := hday
   obtain ⟨b, t1, t2, t3⟩ := Zqb a.B
   obtain ⟨w, s1, s2, s3, s4⟩ := ZtH g a.A d b h t3
   simp only [cond_false, cond_true, hd, t1, t2, s1, s2, Option.bind_some, Zdg]
   exact fin (Zn9 g a.A d b) w s3 s4 fun w hp => by
    have hw : w = (w.1, true) := by rw [hp.2.1]
    exact ⟨by rw [hw], .inr (.inr (.inl ⟨kk 2 k2, rfl, d, b, by rw [← hw]; exact hp⟩))⟩
 ·obtain ⟨w, s1, s2, s3, s4⟩ := Zrw g a.A h
  simp only [cond_true, s1, s2, Option.bind_some, Zdg]
  exact fin (ZpG g a.A) w s3 s4 fun w hp => by
   have hw : w = (w.1, true) := by obtain ⟨r, d, _, _, _, _, e, _⟩ := hp; rw [e]
   exact ⟨by rw [hw], .inr (.inl ⟨kk 1 k1, rfl, by rw [← hw]; exact hp⟩)⟩

theorem ZuG (g : GGuild) (a : GAct) (h : Sm.ok g) : ∃ w, ZdB g a = some w ∧ ZcY g a = some w ∧ Sm.ok w.1 :=
 have ⟨w, a, b, c, _⟩ := Zuv g a h
 ⟨w, a, b, c⟩

def DoM (g : GGuild) (a : GAct) : GGuild × Int := (ZdB g a).getD (g, 0)
theorem ZmV {g : GGuild} (h : Sm.ok g) (a : GAct) : ZdB g a = some (DoM g a) ∧ ZcY g a = some (DoM g a) ∧ Sm.ok (DoM g a).1 := by
 obtain ⟨w, h1, h2, h3⟩ := ZuG g a h
 have e : DoM g a = w := by simp [DoM, h1]
 rw [e]
 exact ⟨h1, h2, h3⟩
def runM (g : GGuild) (acts : List GAct) : Nat → List Int × GGuild
 | 0 => ([], g)
 | k + 1 => ((runM g acts k).1 ++ [(DoM (runM g acts k).2 (gx acts k)).2], (DoM (runM g acts k).2 (gx acts k)).1)
theorem Zk7 {g : GGuild} (h : Sm.ok g) (acts : List GAct) : ∀ k, Sm.ok (runM g acts k).2 ∧ (runM g acts k).1.length = k
 | 0 => ⟨h, rfl⟩
 | k + 1 => by
  obtain ⟨h1, h2⟩ := Zk7 h acts k
  exact ⟨(ZmV h1 _).2.2, by simp [runM, h2]⟩
def tupG (s : List Int × GGuild) : (List Int) × (List GMember) × (List Int) × (List GEntry) × (List GBooking) × Int × Int := (s.1, s.2.Members, s.2.Stock, s.2.Entries, s.2.Books, s.2.Round, s.2.Year)
def RunM (g : GGuild) (acts : List GAct) : GGuild × List Int := bif !Zs g || decide ((acts.length : Int) > 40) then (g, []) else ((runM g acts acts.length).2, (runM g acts acts.length).1)
theorem Zqa {g : GGuild} (h : Sm.ok g) (acts : List GAct) : Sm.ok (RunM g acts).1 ∧ Sm.ok (RunM g acts).2 := by
 unfold RunM
 cases hc : !Zs g || decide ((acts.length : Int) > 40)
 ·have hl : acts.length ≤ 40 := by
   simp only [Bool.or_eq_false_iff] at hc
   have := hc.2
   simp at this; omega
  obtain ⟨h1, h2⟩ := Zk7 h acts acts.length
  exact ⟨h1, ZpL (by simp only [cond_false]; omega)⟩
 ·exact ⟨h, ZpL (by simp)⟩

theorem Zpr {g : GGuild} (h : Sm.ok g) (acts : List GAct) : Zgz g acts = some (RunM g acts) := by
 have hgl := Zd9 h
 unfold Zgz RunM
 simp only [Zcd h, Zav g hgl, Option.bind_some]
 cases Zs g
 ·rfl
 cases hd : decide ((acts.length : Int) > 40)
 ·have hl : acts.length ≤ 40 := by simp at hd; omega
  simp only [Bool.not_true, cond_false, Bool.or_self]
  rw [Za (by omega), ZaG (f := Zgr acts) (s0 := (([] : List Int), g.Members, g.Stock, g.Entries, g.Books, g.Round, g.Year)) (fun k => tupG (runM g acts k)) rfl (fun k hk => by
   obtain ⟨h1, h2⟩ := Zk7 h acts k
   have e : ZdB ⟨(tupG (runM g acts k)).2.1, (tupG (runM g acts k)).2.2.1, (tupG (runM g acts k)).2.2.2.1, (tupG (runM g acts k)).2.2.2.2.1, (tupG (runM g acts k)).2.2.2.2.2.1, (tupG (runM g acts k)).2.2.2.2.2.2⟩ (gx acts k) = some (DoM (runM g acts k).2 (gx acts k)) := (ZmV h1 _).1
   unfold Zgr
   rw [e]
   simp only [Option.bind_some]
   rw [Za (by show (runM g acts k).1.length + 1 ≤ _; omega)]
   rfl)]
  rfl
 ·rfl

theorem Zo7 {g : GGuild} (h : Sm.ok g) (acts : List GAct) : ZgE g acts = some (RunM g acts) := by
 have hgl := Zd9 h
 unfold ZgE RunM
 simp only [Zay h, ZbK g hgl, Option.bind_some]
 cases Zs g
 ·rfl
 cases hd : decide ((acts.length : Int) > 40)
 ·have hl : acts.length ≤ 40 := by simp at hd; omega
  simp only [Bool.not_true, cond_false, Bool.or_self]
  rw [Za (by omega), ZaG (f := Zgm acts) (s0 := (([] : List Int), g.Members, g.Stock, g.Entries, g.Books, g.Round, g.Year)) (fun k => tupG (runM g acts k)) rfl (fun k hk => by
   obtain ⟨h1, h2⟩ := Zk7 h acts k
   have e : ZcY ⟨(tupG (runM g acts k)).2.1, (tupG (runM g acts k)).2.2.1, (tupG (runM g acts k)).2.2.2.1, (tupG (runM g acts k)).2.2.2.2.1, (tupG (runM g acts k)).2.2.2.2.2.1, (tupG (runM g acts k)).2.2.2.2.2.2⟩ (gx acts k) = some (DoM (runM g acts k).2 (gx acts k)) := (ZmV h1 _).2.1
   unfold Zgm
   rw [e]
   simp only [Option.bind_some]
   rw [Za (by show (runM g acts k).1.length + 1 ≤ _; omega)]
   rfl)]
  rfl
 ·rfl

def nof : List Bool := List.replicate 6 false
def secB (a b : Nat) : Nat := bif decide (b < a) then b else b + 1
def u3 (i : Nat) : List Bool := nof.set (i / 20) true
def s3 (i : Nat) : Nat := secB (i / 20) (i % 20 / 4)
def v3 (i : Nat) : List Bool := (u3 i).set (s3 i) true
def t3 (i : Nat) : Nat := (pkM [20, 4, 1] i six)[2]!.toNat
theorem ZrR {S C : Type} {f : S → Option (Res S C)} (I : S → Prop) (ct : S → Nat) (h : ∀ s, I s → (∃ s', I s' ∧ ct s' < ct s ∧ f s = some (.next s')) ∨ ∃ s', I s' ∧ f s = some (.brk s')) : ∀ (n fuel : Nat) (s : S), I s → ct s ≤ n → n < fuel → ∃ s', I s' ∧ whO f fuel s = some (.inl s')
 | _, 0, _, _, _, hf => absurd hf (by omega)
 | n, fuel + 1, s, hs, hn, hf => by
  rcases h s hs with ⟨s', h1, h2, h3⟩ | ⟨s', h1, h3⟩
  ·cases n with
   | zero => omega
   | succ n =>
    obtain ⟨s2, k1, k2⟩ := ZrR I ct h n fuel s' h1 (by omega) (by omega)
    exact ⟨s2, k1, by rw [whO, h3]; exact k2⟩
  ·exact ⟨s', h1, by rw [whO, h3]; rfl⟩

theorem Zui {S : Type} {f : S → Option (Res S Empty)} (I : S → Prop) (ct : S → Nat) (h : ∀ s, I s → (∃ s', I s' ∧ ct s' < ct s ∧ f s = some (.next s')) ∨ ∃ s', I s' ∧ f s = some (.brk s')) {fuel : Nat} {s : S} (hs : I s) (hf : ct s < fuel) : ∃ s', I s' ∧ wlO f fuel s = some s' := by
 obtain ⟨s', h1, h2⟩ := ZrR I ct h (ct s) fuel s hs (Nat.le_refl _) hf
 exact ⟨s', h1, by unfold wlO; rw [h2]; rfl⟩

theorem Zr4 {g : GGuild} (h : Zs g = true) : 0 ≤ g.Round ∧ g.Round ≤ ZbP g := by
 simp only [Zs, Bool.and_eq_true] at h
 exact ZT.1 h.2

theorem ZrU (g : GGuild) : 0 ≤ ZbP g ∧ ZbP g ≤ 9 := by
 unfold ZbP
 cases h : inR ((ZgW g.Members g.Year).length : Int) 2 10
 ·simp
 ·have := ZT.1 h
  simp only [cond_true]; omega
theorem ZsI {g : GGuild} (h : Zs g = true) : 1900 ≤ g.Year ∧ g.Year ≤ 2999 := by
 simp only [Zs, Bool.and_eq_true] at h
 exact ZT.1 h.1.1.2

theorem Zn7 (s : Str) : seq s s = true := by unfold seq; simp

theorem ZkQ : ∀ (k u : Nat), u < 10 ^ (k + 1) → (Lib.decDigits u).length ≤ k + 1
 | 0, u, h => by rw [Lib.decDigits, dif_pos (by simpa using h)]; simp
 | k + 1, u, h => by
  by_cases hu : u < 10
  ·rw [Lib.decDigits, dif_pos hu]; simp
  ·rw [Nat.pow_succ] at h
   rw [Lib.decDigits, dif_neg hu, List.length_append]
   have := ZkQ k (u / 10) (by omega)
   simp; omega
theorem ZgM {n : Int} (h0 : 0 ≤ n) : Lib.itoa n = Lib.decDigits n.toNat := by
 unfold Lib.itoa
 rw [if_neg (by omega)]
theorem Za7 {n : Int} (h0 : 0 ≤ n) (h1 : n ≤ 1000000000) : (Lib.itoa n).length ≤ 10 := by
 rw [ZgM h0]
 have h2 : (10 : Nat) ^ (9 + 1) = 10000000000 := by decide
 exact ZkQ 9 _ (by omega)

theorem Zbj {n : Int} (h0 : 0 ≤ n) (h1 : n ≤ 1000000000) : Zak n = some ⟨Lib.itoa n⟩ := by
 unfold Zak ZeQ
 rw [Za ⟨by omega, by omega⟩]
 rfl

theorem ZnE {m : Nat} (h : m < 10) : Ze9 ((m : Nat) : Int) = some (UInt8.ofNat (48 + m)) := by
 unfold Ze9 u8of
 rw [decide_eq_true (show ((m : Nat) : Int) < 10 by omega), cond_true, Z6 (by omega) (by omega)]
 have : ((48 + (m : Int)) % 256).toNat = 48 + m := by omega
 rw [this]
theorem Znx : ∀ (k m : Nat), m ≤ k → 0 < m → m ≤ 1000000000 → ∀ (s : Str) (fuel : Nat), s.b.length + m ≤ 2000000000 → m + 1 < fuel → whO Zal fuel ((m : Int), s) = some (.inl (0, ⟨Lib.decDigits m ++ s.b⟩))
 | 0, m, hk, hm, _, _, _, _, _ => absurd hm (by omega)
 | k + 1, m, hk, hm, hb, s, fuel, hs, hf => by
  obtain ⟨fuel, rfl⟩ : ∃ q, fuel = q + 1 := ⟨fuel - 1, by omega⟩
  have hstep : Zal ((m : Int), s) = some (.next (((m / 10 : Nat) : Int), ⟨UInt8.ofNat (48 + m % 10) :: s.b⟩)) := by
   unfold Zal
   have h1 : (((m : Int) != 0)) = true := by simp; omega
   have h2 : (m : Int).tmod 10 = ((m % 10 : Nat) : Int) := rfl
   have h3 : (m : Int).tdiv 10 = ((m / 10 : Nat) : Int) := rfl
   simp only [h1, cond_true, h2, h3]
   rw [decide_eq_false (show ¬ ((m % 10 : Nat) : Int) < 0 by omega), cond_false, ZnE (by omega)]
   simp only [Option.bind_some, List.length_cons, List.length_nil]
   rw [Za (by omega), Z6 (by omega) (by omega)]
   rfl
  rw [whO, hstep]
  simp only [Option.bind_some]
  by_cases h10 : m < 10
  ·obtain ⟨fuel, rfl⟩ : ∃ q, fuel = q + 1 := ⟨fuel - 1, by omega⟩
   have e0 : m / 10 = 0 := by omega
   have e1 : m % 10 = m := by omega
   rw [e0, e1, Lib.decDigits, dif_pos h10, whO]
   rfl
  ·rw [Znx k (m / 10) (by omega) (by omega) (by omega) _ fuel (by simp only [List.length_cons]; omega) (by omega)]
   rw [show Lib.decDigits m = Lib.decDigits (m / 10) ++ [UInt8.ofNat (48 + m % 10)] by rw [Lib.decDigits, dif_neg h10]]
   simp
theorem Zaz {n : Int} (h0 : 0 ≤ n) (h1 : n ≤ 1000000000) : ZB n = some ⟨Lib.itoa n⟩ := by
 obtain ⟨m, rfl⟩ := Int.eq_ofNat_of_zero_le h0
 rw [ZgM h0, Int.toNat_natCast]
 unfold ZB
 by_cases hz : m = 0
 ·subst hz
  rw [Lib.decDigits]
  rfl
 ·have hb : (((m : Nat) : Int) == 0) = false := by simpa using hz
  rw [hb, cond_false]
  have := Znx m m (Nat.le_refl _) (by omega) (by omega) ⟨[]⟩ 18446744073709551616 (by simp only [List.length_nil]; omega) (by omega)
  unfold wlO
  rw [this]
  simp only [Option.map_some, lpk, Option.bind_some]
  rw [decide_eq_false (show ¬ ((m : Nat) : Int) < 0 by omega)]
  simp

def ZiN (ns : List Int) : List UInt8 := (ns.map fun n => 32 :: Lib.itoa n).flatten
def ZbU (word : List UInt8) (ns : List Int) : List UInt8 := word ++ ZiN ns
theorem Zqm : ∀ {ns : List Int}, (∀ n ∈ ns, 0 ≤ n ∧ n ≤ 1000000000) → (ZiN ns).length ≤ 11 * ns.length
 | [], _ => by simp [ZiN]
 | n :: ns, h => by
  have h1 := Zqm (ns := ns) fun x hx => h x (by simp [hx])
  have h2 := Za7 (h n (by simp)).1 (h n (by simp)).2
  unfold ZiN at h1 ⊢
  simp only [List.map_cons, List.flatten_cons, List.length_append, List.length_cons]
  omega
theorem ZiW {word : List UInt8} {ns : List Int} (hw : word.length ≤ 100) (h : ∀ n ∈ ns, 0 ≤ n ∧ n ≤ 1000000000) (hl : ns.length ≤ 100) : (ZbU word ns).length ≤ 1200 := by
 have := Zqm h
 unfold ZbU
 rw [List.length_append]; omega

theorem ZcS {word : Str} {ns : List Int} (hw : word.b.length ≤ 100) (h : ∀ n ∈ ns, 0 ≤ n ∧ n ≤ 1000000000) (hl : ns.length ≤ 100) : ZbT word ns = some ⟨ZbU word.b ns⟩ := by
 have hlen := ZiW hw h hl
 unfold ZbT
 rw [Za (by omega), ZbN (f := ZgU ns) (xs := [word]) (fun k => (⟨Lib.itoa (gx ns k)⟩ : Str)) (fun k s hk hs => by
  have hn := h _ (Z3 hk)
  unfold ZgU
  rw [Zbj hn.1 hn.2]
  simp only [Option.bind_some]
  rw [Za (by simp at hs; omega)])]
 simp only [Option.bind_some]
 rw [Zdj (fun n => (⟨Lib.itoa n⟩ : Str)) ns]
 have hj : Lib.join ((([word] : List Str) ++ ns.map fun n => (⟨Lib.itoa n⟩ : Str)).map Str.b) [32] = ZbU word.b ns := by
  rw [List.singleton_append, List.map_cons, List.map_map, Lib.join_cons]
  unfold ZbU ZiN Lib.joinTail
  rw [List.map_map]
  rfl
 unfold strings_Join
 simp only [hj]
 rw [Za ⟨by simp; omega, by omega⟩]
 rfl

theorem Zms {f : Nat → Str → Option (Res Str Empty)} {N : Nat} {x : Nat → Int} (word : Str) (hw : word.b.length ≤ 100) (hx : ∀ k, k < N → 0 ≤ x k ∧ x k ≤ 1000000000) (hN : N ≤ 100) (h : ∀ k s, k < N → s.b.length ≤ 1200 → f k s = some (.next (sadd (sadd s ⟨[32]⟩) ⟨Lib.itoa (x k)⟩))) : lpO f N word = some ⟨ZbU word.b ((List.range N).map x)⟩ :=
 ZaG (fun k => (⟨ZbU word.b ((List.range k).map x)⟩ : Str)) (by simp [ZbU, ZiN]) fun k hk => by
  have hlen : (ZbU word.b ((List.range k).map x)).length ≤ 1200 := ZiW hw (fun n hn => by
   obtain ⟨j, hj, rfl⟩ := List.mem_map.1 hn
   have hj' : j < k := by simpa using hj
   exact hx j (by omega)) (by simp; omega)
  rw [h k ⟨ZbU word.b ((List.range k).map x)⟩ hk hlen]
  simp [List.range_succ, ZbU, ZiN, sadd]

def Zb6 (k : Int) : List UInt8 := bif k == 1 then [97, 100, 109, 105, 116] else bif k == 2 then [115, 117, 98, 109, 105, 116] else bif k == 3 then [115, 101, 119] else bif k == 6 then [108, 97, 99, 107] else bif k == 4 then [114, 111, 117, 110, 100] else [121, 101, 97, 114]
def Zbo (a : GAct) : List Int := bif a.Kind == 2 then [a.A, a.B] else bif a.Kind == 4 || a.Kind == 5 then [] else [a.A]
def actL (a : GAct) : Str := ⟨ZbU (Zb6 a.Kind) (Zbo a)⟩
def ZgT (a : GAct) : Str × Bool := bif ZaE a then (actL a, true) else (⟨[]⟩, false)
theorem Zb9 {a : GAct} (h : ZaE a = true) : (a.Kind = 1 ∨ a.Kind = 2 ∨ a.Kind = 3 ∨ a.Kind = 4 ∨ a.Kind = 5 ∨ a.Kind = 6) ∧ 0 ≤ a.A ∧ a.A ≤ 999 ∧ 0 ≤ a.B ∧ a.B ≤ 9 := by
 unfold ZaE at h
 cases k1 : a.Kind == 1
 ·cases k2 : a.Kind == 2
  ·cases k3 : a.Kind == 3
   ·cases k6 : a.Kind == 6
    ·cases k4 : a.Kind == 4
     ·cases k5 : a.Kind == 5
      ·rw [k1, k2, k3, k4, k5, k6] at h; cases h
      ·rw [k1, k2, k3, k4, k5, k6] at h
       simp at h k5
       exact ⟨by omega, by omega, by omega, by omega, by omega⟩
     ·rw [k1, k2, k3, k4, k6] at h
      simp at h k4
      exact ⟨by omega, by omega, by omega, by omega, by omega⟩
    ·rw [k1, k2, k3, k6] at h
     simp [inR] at h k6
     exact ⟨by omega, by omega, by omega, by omega, by omega⟩
   ·rw [k1, k2, k3] at h
    simp [inR] at h k3
    exact ⟨by omega, by omega, by omega, by omega, by omega⟩
  ·rw [k1, k2] at h
   simp [inR] at h k2
   exact ⟨by omega, by omega, by omega, by omega, by omega⟩
 ·rw [k1] at h
  simp [inR] at h k1
  exact ⟨by omega, by omega, by omega, by omega, by omega⟩

theorem Zna (a : GAct) : ZdK a = some (ZgT a) := by
 unfold ZdK ZgT
 rw [ZlI]
 simp only [Option.bind_some]
 cases h : ZaE a
 ·rfl
 obtain ⟨hk, a0, a1, b0, b1⟩ := Zb9 h
 have one : ∀ n ∈ ([a.A] : List Int), 0 ≤ n ∧ n ≤ 1000000000 := fun n hn => by
  rw [List.mem_singleton.1 hn]; omega
 have two : ∀ n ∈ ([a.A, a.B] : List Int), 0 ≤ n ∧ n ≤ 1000000000 := fun n hn => by
  simp only [List.mem_cons, List.not_mem_nil, or_false] at hn
  rcases hn with rfl | rfl <;> omega
 simp only [Bool.not_true, cond_false, cond_true]
 rw [ZcS (by simp) one (by simp), ZcS (by simp) two (by simp), ZcS (by simp) one (by simp), ZcS (by simp) one (by simp)]
 unfold actL Zb6 Zbo
 rcases hk with k | k | k | k | k | k <;> rw [k] <;> rfl

theorem Zns (a : GAct) : Ze0 a = some (ZgT a) := by
 unfold Ze0 ZgT
 rw [ZlQ]
 simp only [Option.bind_some]
 cases h : ZaE a
 ·rfl
 obtain ⟨hk, a0, a1, b0, b1⟩ := Zb9 h
 have hx : ∀ k : Nat, k < 2 → 0 ≤ gx ([a.A, a.B] : List Int) k ∧ gx ([a.A, a.B] : List Int) k ≤ 1000000000 := fun k hk => by
  have h2 : k = 0 ∨ k = 1 := by omega
  rcases h2 with rfl | rfl
  ·show 0 ≤ a.A ∧ a.A ≤ 1000000000; omega
  ·show 0 ≤ a.B ∧ a.B ≤ 1000000000; omega
 have lp : ∀ (N : Nat) (word : Str), N ≤ 2 → word.b.length ≤ 100 → lpO (ZeL a) N word = some ⟨ZbU word.b ((List.range N).map fun k => gx ([a.A, a.B] : List Int) k)⟩ := fun N word hN hw => Zms word hw (fun k hk => hx k (by omega)) (by omega) fun k s hk hs => by
  have h1 := hx k (by omega)
  have h2 := Za7 h1.1 h1.2
  unfold ZeL
  rw [Za (by simp only [List.length_cons, List.length_nil]; omega), Za (by simp only [List.length_cons, List.length_nil]; omega), Zaz h1.1 h1.2]
  simp only [Option.bind_some, sadd, List.length_append, List.length_cons, List.length_nil]
  rw [Za (by omega)]
 simp only [Bool.not_true, cond_false, cond_true]
 have hkr : 1 ≤ a.Kind ∧ a.Kind ≤ 6 := by omega
 rw [Za ⟨by omega, by simp only [List.length_cons, List.length_nil]; omega⟩, Za ⟨by omega, by simp only [List.length_cons, List.length_nil]; omega⟩]
 unfold actL Zb6 Zbo
 rcases hk with k | k | k | k | k | k <;> rw [k]
 ·rw [show (gx ([0, 1, 2, 1, 0, 0, 1] : List Int) (1 : Int).toNat).toNat = 1 from rfl, Za (by omega), lp 1 _ (by omega) (by decide)]; rfl
 ·rw [show (gx ([0, 1, 2, 1, 0, 0, 1] : List Int) (2 : Int).toNat).toNat = 2 from rfl, Za (by omega), lp 2 _ (by omega) (by decide)]; rfl
 ·rw [show (gx ([0, 1, 2, 1, 0, 0, 1] : List Int) (3 : Int).toNat).toNat = 1 from rfl, Za (by omega), lp 1 _ (by omega) (by decide)]; rfl
 ·rw [show (gx ([0, 1, 2, 1, 0, 0, 1] : List Int) (4 : Int).toNat).toNat = 0 from rfl, Za (by omega), lp 0 _ (by omega) (by decide)]; rfl
 ·rw [show (gx ([0, 1, 2, 1, 0, 0, 1] : List Int) (5 : Int).toNat).toNat = 0 from rfl, Za (by omega), lp 0 _ (by omega) (by decide)]; rfl
 ·rw [show (gx ([0, 1, 2, 1, 0, 0, 1] : List Int) (6 : Int).toNat).toNat = 1 from rfl, Za (by omega), lp 1 _ (by omega) (by decide)]; rfl

theorem ZhD (c : GCell) : (Zab c).length ≤ 3 := by
 unfold Zab
 cases c.Split == 1
 ·cases c.Split == 2 <;> simp
 ·simp
def blkT (c : Nat → List UInt8) (n : Nat) : Nat → List UInt8
 | 0 => []
 | k + 1 => blkT c n k ++ ((bif decide (k > 0) && (k % n == 0) then [59] else bif decide (k > 0) then [44] else []) ++ c k)
theorem Zow {c : Nat → List UInt8} {n : Nat} (h : ∀ k, (c k).length ≤ 3) : ∀ k, (blkT c n k).length ≤ 4 * k
 | 0 => by simp [blkT]
 | k + 1 => by
  have h1 := Zow (n := n) h k
  have h2 := h k
  unfold blkT
  cases decide (k > 0) && (k % n == 0)
  ·cases decide (k > 0)
   ·simp; omega
   ·simp; omega
  ·simp; omega
theorem Zuh (c : Nat → List UInt8) {n : Nat} (h1 : 1 ≤ n) (h4 : n ≤ 4) : Lib.join ((List.range n).map fun y => Lib.join ((List.range n).map fun x => c (y * n + x)) [44]) [59] = blkT c n (n * n) := by
 have hn : n = 1 ∨ n = 2 ∨ n = 3 ∨ n = 4 := by omega
 rcases hn with rfl | rfl | rfl | rfl <;> simp [blkT, List.range, List.range.loop, Lib.join_cons, Lib.joinTail]
def Zfh (b : GBlock) : List UInt8 := bif Ze b then blkT (fun k => Zab (gx b.Cells k)) b.Size.toNat b.Cells.length else []
theorem Zjb (b : GBlock) : (Zfh b).length ≤ 64 := by
 unfold Zfh
 cases h : Ze b
 ·simp
 ·obtain ⟨n, hn, n1, n4, hl, _⟩ := Zu h
  have hnn : n * n ≤ 4 * 4 := Nat.mul_le_mul n4 n4
  have := Zow (c := fun k => Zab (gx b.Cells k)) (n := b.Size.toNat) (fun k => ZhD _) b.Cells.length
  rw [cond_true]; omega

theorem Znh {b : GBlock} (hlen : b.Cells.length ≤ 1048576) : Ze5 b = some ⟨Zfh b⟩ := by
 unfold Ze5 Zfh
 rw [Za (by omega)]
 cases h : Ze b
 ·rcases Nat.eq_zero_or_pos b.Cells.length with e | e
  ·rw [e]; rfl
  ·unfold lpO
   rw [Zls (f := Zcp b) (fun _ => (⟨[]⟩ : Str)) rfl 0 e (fun k hk => by omega) (s' := ⟨[]⟩) (by
    simp only [Zcp, Z7, h, Option.bind_some, cond_false])]
   rfl
 ·obtain ⟨n, hn, n1, n4, hl, hc⟩ := Zu h
  have hnn : n * n ≤ 4 * 4 := Nat.mul_le_mul n4 n4
  rw [ZaG (f := Zcp b) (s0 := (⟨[]⟩ : Str)) (fun k => (⟨blkT (fun k => Zab (gx b.Cells k)) b.Size.toNat k⟩ : Str)) rfl (fun k hk => by
   have hbl := Zow (c := fun k => Zab (gx b.Cells k)) (n := b.Size.toNat) (fun k => ZhD _) k
   have hcl := ZhD (gx b.Cells k)
   have hck := hc _ (Z3 hk)
   have hbn : b.Size.toNat = n := by omega
   simp only [Zcp, Z7, h, Option.bind_some, cond_true, ZjL hck, blkT]
   have hm : (((k : Nat) : Int).tmod b.Size == 0) = (k % b.Size.toNat == 0) := by
    rw [hn, Zq5, Int.toNat_natCast]
    exact Zkz _ 0
   have hd : decide (((k : Nat) : Int) > 0) = decide (k > 0) := by
    rw [Bool.eq_iff_iff, decide_eq_true_iff, decide_eq_true_iff]; omega
   rw [hm, hd]
   cases hk0 : decide (k > 0)
   ·simp only [cond_false, Option.bind_some, Bool.false_and]
    rw [Za (by omega)]
    rfl
   ·simp only [cond_true, Bool.true_and]
    rw [Za (by omega)]
    simp only [Option.bind_some]
    cases k % b.Size.toNat == 0
    ·simp only [cond_false]
     rw [Za (by simp only [List.length_cons, List.length_nil]; omega)]
     simp only [Option.bind_some]
     rw [Za (by simp only [sadd, List.length_append, List.length_cons, List.length_nil]; omega)]
     simp [sadd]
    ·simp only [cond_true]
     rw [Za (by simp only [List.length_cons, List.length_nil]; omega)]
     simp only [Option.bind_some]
     rw [Za (by simp only [sadd, List.length_append, List.length_cons, List.length_nil]; omega)]
     simp [sadd])]
  rfl

theorem Zp7 (sep : List UInt8) : ∀ (xs : List (List UInt8)) (B : Nat), (∀ x ∈ xs, x.length ≤ B) → sep.length ≤ 1 → (Lib.join xs sep).length ≤ (B + 1) * xs.length
 | [], _, _, _ => by simp [Lib.join_nil]
 | x :: r, B, h, hs => by
  have hx := h x (by simp)
  have ht : ∀ r : List (List UInt8), (∀ x ∈ r, x.length ≤ B) → (Lib.joinTail sep r).length ≤ (B + 1) * r.length := fun r => by
   induction r with
   | nil => intro _; simp [Lib.joinTail]
   | cons y r ih =>
    intro hr
    have h1 := ih fun z hz => hr z (by simp [hz])
    have h2 := hr y (by simp)
    unfold Lib.joinTail at h1 ⊢
    simp only [List.map_cons, List.flatten_cons, List.length_append, List.length_cons] at h1 ⊢
    rw [Nat.mul_add]; omega
  have h2 := ht r fun y hy => h y (by simp [hy])
  rw [Lib.join_cons, List.length_append, List.length_cons, Nat.mul_add]
  omega
theorem Znf (b : GBlock) : Ze7 b = some ⟨Zfh b⟩ := by
 unfold Ze7 Zfh
 rw [ZV]
 simp only [Option.bind_some]
 cases h : Ze b
 ·rfl
 ·obtain ⟨n, hn, n1, n4, hl, hc⟩ := Zu h
  have hnn : n * n ≤ 4 * 4 := Nat.mul_le_mul n4 n4
  have row : ∀ y, y < n → lpO (Zdh b y) n ([] : List Str) = some ((List.range n).map fun x => (⟨Zab (gx b.Cells (y * n + x))⟩ : Str)) := fun y hy => by
   rw [ZbN (f := Zdh b y) (xs := []) (fun x => (⟨Zab (gx b.Cells (y * n + x))⟩ : Str)) (fun x s hx hs => by
    have hi := ZiZ hy hx
    simp only [Zdh, Zhi, Option.bind_some]
    rw [ZiM h hn hx hy, ZjX (hc _ (Z3 (by omega)))]
    simp only [Option.bind_some]
    rw [Za (by simp at hs; omega)])]
   rfl
  have rowj : ∀ y, y < n → strings_Join ((List.range n).map fun x => (⟨Zab (gx b.Cells (y * n + x))⟩ : Str)) ⟨[44]⟩ = some ⟨Lib.join ((List.range n).map fun x => Zab (gx b.Cells (y * n + x))) [44]⟩ := fun y hy => by
   have e : ((List.range n).map fun x => (⟨Zab (gx b.Cells (y * n + x))⟩ : Str)).map Str.b = (List.range n).map fun x => Zab (gx b.Cells (y * n + x)) := by rw [List.map_map]; rfl
   have hle := Zp7 [44] ((List.range n).map fun x => Zab (gx b.Cells (y * n + x))) 3 (fun z hz => by
    obtain ⟨x, _, rfl⟩ := List.mem_map.1 hz
    exact ZhD _) (by simp)
   simp only [List.length_map, List.length_range] at hle
   unfold strings_Join
   rw [e, Za ⟨by simp; omega, by simp only; omega⟩]
  have hrl : ∀ y, (Lib.join ((List.range n).map fun x => Zab (gx b.Cells (y * n + x))) [44]).length ≤ 16 := fun y => by
   have hle := Zp7 [44] ((List.range n).map fun x => Zab (gx b.Cells (y * n + x))) 3 (fun z hz => by
    obtain ⟨x, _, rfl⟩ := List.mem_map.1 hz
    exact ZhD _) (by simp)
   simp only [List.length_map, List.length_range] at hle
   omega
  simp only [Bool.not_true, cond_false, cond_true, hn, Int.toNat_natCast]
  rw [Za (by omega), ZbN (f := ZeD b) (xs := []) (fun y => (⟨Lib.join ((List.range n).map fun x => Zab (gx b.Cells (y * n + x))) [44]⟩ : Str)) (fun y s hy hs => by
   unfold ZeD
   rw [hn, Int.toNat_natCast, row y hy]
   simp only [Option.bind_some]
   rw [rowj y hy]
   simp only [Option.bind_some]
   rw [Za (by simp at hs; omega)])]
  have e : (([] : List Str) ++ (List.range n).map fun y => (⟨Lib.join ((List.range n).map fun x => Zab (gx b.Cells (y * n + x))) [44]⟩ : Str)).map Str.b = (List.range n).map fun y => Lib.join ((List.range n).map fun x => Zab (gx b.Cells (y * n + x))) [44] := by rw [List.nil_append, List.map_map]; rfl
  have hle := Zp7 [59] ((List.range n).map fun y => Lib.join ((List.range n).map fun x => Zab (gx b.Cells (y * n + x))) [44]) 16 (fun z hz => by
   obtain ⟨y, _, rfl⟩ := List.mem_map.1 hz
   exact hrl y) (by simp)
  simp only [List.length_map, List.length_range] at hle
  simp only [Option.bind_some]
  unfold strings_Join
  rw [e, Za ⟨by simp; omega, by simp only; omega⟩]
  simp only [Option.bind_some]
  rw [Zuh (fun k => Zab (gx b.Cells k)) n1 n4, hl]

def entL (e : GEntry) : Str := ⟨((Lib.itoa e.Owner ++ [32]) ++ Lib.itoa e.Day) ++ [32] ++ Zfh e.Block⟩
def Zq4 (g : GGuild) : Str := ⟨([114, 111, 117, 110, 100, 32] ++ Lib.itoa g.Round) ++ [47] ++ Lib.itoa (ZbP g)⟩
def Zij (g : GGuild) : List Str := [⟨ZbU [109, 101, 109, 98, 101, 114, 115] (g.Members.map fun m => m.Number)⟩, ⟨ZbU [115, 116, 111, 99, 107] g.Stock⟩]
def ZaP (g : GGuild) : List Str := bif Zs g then Zij g ++ g.Entries.map entL ++ [Zq4 g, ⟨ZbU [121, 101, 97, 114] [g.Year]⟩] else []
theorem ZlB {g : GGuild} (h : Zs g = true) : g.Members.length ≤ 40 ∧ g.Stock.length = 6 ∧ g.Entries.length ≤ 10 ∧ (∀ n ∈ g.Members.map (fun m => m.Number), 0 ≤ n ∧ n ≤ 1000000000) ∧ (∀ n ∈ g.Stock, 0 ≤ n ∧ n ≤ 1000000000) ∧ (∀ k, k < g.Entries.length → (0 ≤ (gx g.Entries k).Owner ∧ (gx g.Entries k).Owner ≤ 1000000000) ∧ (0 ≤ (gx g.Entries k).Day ∧ (gx g.Entries k).Day ≤ 1000000000)) ∧ (0 ≤ g.Round ∧ g.Round ≤ 1000000000) ∧ (0 ≤ ZbP g ∧ ZbP g ≤ 1000000000) ∧ 0 ≤ g.Year ∧ g.Year ≤ 1000000000 := by
 obtain ⟨m1, m2, m3, m4, m5⟩ := Zf4 h
 obtain ⟨sl, sb⟩ := ZfC m2
 have rb := ZrU g
 have gr := Zr4 h
 have gy := ZsI h
 refine ⟨Zi5 m1, sl, m4, fun n hn => ?_, fun n hn => ?_, fun k hk => ?_, by omega, by omega, by omega⟩
 ·obtain ⟨m, hm, rfl⟩ := List.mem_map.1 hn
  simp only [ZK, Bool.and_eq_true, List.all_eq_true, List.mem_range] at m1
  obtain ⟨k, hk, rfl⟩ := List.getElem_of_mem hm
  have := m1.1 k hk
  rw [← Zbq hk]
  simp only [memP, Bool.and_eq_true] at this
  have := ZT.1 this.1.1.1
  omega
 ·obtain ⟨k, hk, rfl⟩ := List.getElem_of_mem hn
  have := sb k (by omega)
  rw [← Zbq hk]
  omega
 ·simp only [Zs, Bool.and_eq_true, List.all_eq_true, List.mem_range] at h
  have := h.1.2 k hk
  simp only [entP, Zdc, Bool.and_eq_true] at this
  have o := ZT.1 this.1.1.1.1
  have d := ZT.1 this.1.1.1.2
  omega

theorem Zgc {g : GGuild} (hg : GL g) : ZcQ g = some (ZaP g) := by
 unfold ZcQ ZaP
 rw [ZbK g hg]
 simp only [Option.bind_some]
 cases h : Zs g
 ·rfl
 obtain ⟨ml, sl, el, hm, hs, he, ⟨r0, r1⟩, ⟨q0, q1⟩, y0, y1⟩ := ZlB h
 have i1 := Za7 r0 r1
 have i2 := Za7 q0 q1
 simp only [Bool.not_true, cond_false, cond_true]
 rw [Za (by omega), ZbN (f := Zd3 g) (xs := []) (fun k => (gx g.Members k).Number) (fun k s hk hs => by
  unfold Zd3
  rw [Za (by simp at hs; omega)]), Zdj (fun m : GMember => m.Number) g.Members, List.nil_append]
 simp only [Option.bind_some]
 rw [ZcS (by simp) hm (by simp; omega)]
 simp only [Option.bind_some]
 rw [ZcS (by simp) hs (by omega)]
 simp only [Option.bind_some]
 rw [show ([(⟨ZbU [109, 101, 109, 98, 101, 114, 115] (g.Members.map fun m => m.Number)⟩ : Str), ⟨ZbU [115, 116, 111, 99, 107] g.Stock⟩] : List Str) = Zij g from rfl]
 rw [Za (by omega), ZbN (f := ZdZ g) (xs := Zij g) (fun k => entL (gx g.Entries k)) (fun k s hk hs => by
  obtain ⟨⟨o0, o1⟩, d0, d1⟩ := he k hk
  have a1 := Za7 o0 o1
  have a2 := Za7 d0 d1
  have a3 := Zjb (gx g.Entries k).Block
  have hsl : s.length ≤ 12 := by simp [Zij] at hs; omega
  unfold ZdZ
  rw [Zbj o0 o1]
  simp only [Option.bind_some]
  rw [Za (by simp only [List.length_cons, List.length_nil]; omega), Zbj d0 d1]
  simp only [Option.bind_some]
  rw [Za (by simp only [sadd, List.length_append, List.length_cons, List.length_nil]; omega), Za (by simp only [sadd, List.length_append, List.length_cons, List.length_nil]; omega), Znf]
  simp only [Option.bind_some]
  rw [Za (by simp only [sadd, List.length_append, List.length_cons, List.length_nil]; omega), Za (by omega)]
  rfl), Zdj entL g.Entries]
 simp only [Option.bind_some]
 rw [Zbj r0 r1]
 simp only [Option.bind_some]
 rw [Za (by simp only [List.length_cons, List.length_nil]; omega), Za (by simp only [sadd, List.length_append, List.length_cons, List.length_nil]; omega), ZgF g hg.1]
 simp only [Option.bind_some]
 rw [Zbj q0 q1]
 simp only [Option.bind_some]
 rw [Za (by simp only [sadd, List.length_append, List.length_cons, List.length_nil]; omega), ZcS (by simp) (fun n hn => by rw [List.mem_singleton.1 hn]; exact ⟨y0, y1⟩) (by simp)]
 simp only [Option.bind_some]
 rw [Za (by simp [Zij]; omega)]
 rfl

theorem Zis {g : GGuild} (hg : GL g) : ZcJ g = some (ZaP g) := by
 unfold ZcJ ZaP
 rw [Zav g hg]
 simp only [Option.bind_some]
 cases h : Zs g
 ·rfl
 obtain ⟨ml, sl, el, hm, hs, he, ⟨r0, r1⟩, ⟨q0, q1⟩, y0, y1⟩ := ZlB h
 have i1 := Za7 r0 r1
 have i2 := Za7 q0 q1
 have i3 := Za7 y0 y1
 have hmk : ∀ k, k < g.Members.length → 0 ≤ (gx g.Members k).Number ∧ (gx g.Members k).Number ≤ 1000000000 := fun k hk => hm _ (List.mem_map.2 ⟨_, Z3 hk, rfl⟩)
 have hsk : ∀ k, k < g.Stock.length → 0 ≤ gx g.Stock k ∧ gx g.Stock k ≤ 1000000000 := fun k hk => hs _ (Z3 hk)
 simp only [Bool.not_true, cond_false, cond_true]
 rw [Za (by omega), Zms (f := Zeb g) (x := fun k => (gx g.Members k).Number) _ (by simp) hmk (by omega) (fun k s hk hs => by
  obtain ⟨h1, h2⟩ := hmk k hk
  have h3 := Za7 h1 h2
  unfold Zeb
  rw [Za (by simp only [List.length_cons, List.length_nil]; omega), Zaz h1 h2]
  simp only [Option.bind_some, sadd, List.length_append, List.length_cons, List.length_nil]
  rw [Za (by omega)]), Zdj (fun m : GMember => m.Number) g.Members]
 simp only [Option.bind_some]
 rw [Za (by omega), Zms (f := Zed g) (x := fun k => gx g.Stock k) _ (by simp) hsk (by omega) (fun k s hk hs => by
  obtain ⟨h1, h2⟩ := hsk k hk
  have h3 := Za7 h1 h2
  unfold Zed
  rw [Za (by simp only [List.length_cons, List.length_nil]; omega), Zaz h1 h2]
  simp only [Option.bind_some, sadd, List.length_append, List.length_cons, List.length_nil]
  rw [Za (by omega)])]
 have hst : (List.range g.Stock.length).map (fun k => gx g.Stock k) = g.Stock := by
  have := Zdj id g.Stock
  simpa using this
 rw [hst]
 simp only [Option.bind_some]
 rw [show ([(⟨ZbU [109, 101, 109, 98, 101, 114, 115] (g.Members.map fun m => m.Number)⟩ : Str), ⟨ZbU [115, 116, 111, 99, 107] g.Stock⟩] : List Str) = Zij g from rfl]
 rw [Za (by omega), ZbN (f := Zd2 g) (xs := Zij g) (fun k => entL (gx g.Entries k)) (fun k s hk hs => by
  obtain ⟨⟨o0, o1⟩, d0, d1⟩ := he k hk
  have a1 := Za7 o0 o1
  have a2 := Za7 d0 d1
  have a3 := Zjb (gx g.Entries k).Block
  have hb := ZbR (Zdr ((Zf4 h).2.2.2.2 k hk))
  have hsl : s.length ≤ 12 := by simp [Zij] at hs; omega
  unfold Zd2
  rw [Zaz o0 o1]
  simp only [Option.bind_some]
  rw [Za (by simp only [List.length_cons, List.length_nil]; omega), Zaz d0 d1]
  simp only [Option.bind_some]
  rw [Za (by simp only [sadd, List.length_append, List.length_cons, List.length_nil]; omega), Za (by simp only [sadd, List.length_append, List.length_cons, List.length_nil]; omega), Znh hb]
  simp only [Option.bind_some]
  rw [Za (by simp only [sadd, List.length_append, List.length_cons, List.length_nil]; omega), Za (by omega)]
  rfl), Zdj entL g.Entries]
 simp only [Option.bind_some]
 rw [Zaz r0 r1]
 simp only [Option.bind_some]
 rw [Za (by simp only [List.length_cons, List.length_nil]; omega), Za (by simp only [sadd, List.length_append, List.length_cons, List.length_nil]; omega), ZgO g hg.1]
 simp only [Option.bind_some]
 rw [Zaz q0 q1]
 simp only [Option.bind_some]
 rw [Za (by simp only [sadd, List.length_append, List.length_cons, List.length_nil]; omega), Zaz y0 y1]
 simp only [Option.bind_some]
 rw [Za (by simp only [List.length_cons, List.length_nil]; omega), Za (by simp [Zij]; omega)]
 simp [Zq4, sadd, ZbU, ZiN]

theorem Zki {g : GGuild} (h : Zs g = true) : (ZaP g).length = g.Entries.length + 4 := by
 unfold ZaP Zij
 rw [h]
 simp

theorem Znd {g : GGuild} (h : Zs g = true) : ∀ x ∈ ZaP g, x.b.length ≤ 1048576 := fun x hx => by
 obtain ⟨ml, sl, el, hm, hs, he, ⟨r0, r1⟩, ⟨q0, q1⟩, y0, y1⟩ := ZlB h
 have i1 := Za7 r0 r1
 have i2 := Za7 q0 q1
 unfold ZaP Zij at hx
 rw [h, cond_true] at hx
 simp only [List.mem_append, List.mem_cons, List.not_mem_nil, or_false, List.mem_map] at hx
 rcases hx with ((rfl | rfl) | ⟨e, hme, rfl⟩) | rfl | rfl
 ·have := ZiW (word := [109, 101, 109, 98, 101, 114, 115]) (by simp) hm (by simp; omega)
  show (ZbU _ _).length ≤ _
  omega
 ·have := ZiW (word := [115, 116, 111, 99, 107]) (by simp) hs (by omega)
  show (ZbU _ _).length ≤ _
  omega
 ·obtain ⟨k, hk, rfl⟩ := List.getElem_of_mem hme
  obtain ⟨⟨o0, o1⟩, d0, d1⟩ := he k hk
  rw [← Zbq hk]
  have a1 := Za7 o0 o1
  have a2 := Za7 d0 d1
  have a3 := Zjb (gx g.Entries k).Block
  simp only [entL, List.length_append, List.length_cons, List.length_nil]
  omega
 ·simp only [Zq4, List.length_append, List.length_cons, List.length_nil]
  omega
 ·have := ZiW (word := [121, 101, 97, 114]) (ns := [g.Year]) (by simp) (fun n hn => by rw [List.mem_singleton.1 hn]; exact ⟨y0, y1⟩) (by simp)
  show (ZbU _ _).length ≤ _
  omega

theorem Zol (g : GGuild) (h : Sm.ok g) : ∃ w, ZcJ g = some w ∧ ZcQ g = some w ∧ Sm.ok w := by
 have hg := Zd9 h
 refine ⟨_, Zis hg, Zgc hg, ?_⟩
 cases hk : Zs g
 ·have : ZaP g = [] := by unfold ZaP; rw [hk]; rfl
  rw [this]
  exact ⟨by simp, fun _ hx => by cases hx⟩
 ·have h1 := Zki hk
  have h2 := (Zf4 hk).2.2.2.1
  exact ⟨by omega, fun x hx => Znd hk x hx⟩

theorem Zr2 {k : Int} (h0 : 0 ≤ k) (h1 : k ≤ 1000000000) : ∃ t, Zek k = some t := by
 unfold Zek
 by_cases hk : k ≤ 0
 ·rw [decide_eq_true hk]; exact ⟨_, rfl⟩
 ·rw [decide_eq_false hk, cond_false]
  obtain ⟨s, ⟨s1, s2⟩, es⟩ := Zui (f := ZfG) (fun s => 0 ≤ s.1 ∧ (s.2.b.length : Int) + s.1 ≤ 1000000000) (fun s => s.1.toNat) (fun s hs => by
   obtain ⟨s1, s2⟩ := hs
   unfold ZfG
   by_cases hp : s.1 > 0
   ·left
    obtain ⟨m, hm⟩ := Int.eq_ofNat_of_zero_le s1
    have hd : s.1.tdiv 10 = ((m / 10 : Nat) : Int) := by rw [hm]; rfl
    rw [decide_eq_true hp, cond_true, Za (by simp only [List.length_cons, List.length_nil]; omega)]
    refine ⟨_, ⟨?_, ?_⟩, ?_, rfl⟩
    ·simp only [hd]; rw [Z6 (by omega) (by omega)]; omega
    ·simp only [hd, sadd, List.length_append, List.length_cons, List.length_nil]; rw [Z6 (by omega) (by omega)]; omega
    ·simp only [hd]; rw [Z6 (by omega) (by omega)]; omega
   ·right
    rw [decide_eq_false hp, cond_false]
    exact ⟨s, ⟨s1, s2⟩, rfl⟩) (s := (k, ⟨[]⟩)) (fuel := 18446744073709551616) ⟨h0, by simp only [List.length_nil]; omega⟩ (by simp only; omega)
  rw [es]
  simp only [Option.bind_some]
  rw [Za (by simp only [List.length_cons, List.length_nil]; omega)]
  exact ⟨_, rfl⟩
theorem Zs5 (a : List Str) (j : Int) (hs : Sm.ok a) (h0 : 0 ≤ j) (h1 : j ≤ 1048576) : ∃ a' j', ZdU a j = some (j', a') ∧ ZcP a' j = some j' ∧ a'.length = a.length ∧ j ≤ j' ∧ j' ≤ j + 1048576 := by
 have hl := ZbR hs
 have hst : ∀ k s i, k < a.length → s.length = a.length → gx s k = gx a k → j ≤ i → i + 1 ≤ j + 1048576 → ∃ e j', ZcC k (s, i) = some (.next (s.set k e, j')) ∧ i ≤ j' ∧ j' ≤ i + 1 ∧ (fun e p q => ∀ l n, gx l n = e → ZbO l n p = some (.next q)) e i j' := fun k s i hk hl' hg g0 g1 => by
  have e0 : wr (i + 1) = i + 1 := Z6 (by omega) (by omega)
  obtain ⟨t, ht⟩ := Zr2 (k := i) (by omega) (by omega)
  exact ⟨t, i + 1, by simp only [ZcC, ht, e0, Option.bind_some], by omega, by omega, fun l n he => by
   simp only [ZbO, ht, he, e0, Zn7, Bool.not_true, cond_false, Option.bind_some]⟩
 obtain ⟨a', js, q1, q2, q3, q4, q5, q6⟩ := Ztj (f := ZcC) a j 1 (j + 1048576) (fun e p q => ∀ l n, gx l n = e → ZbO l n p = some (.next q)) (by decide) (by omega) hst
 refine ⟨a', js a.length, ?_, ?_, q2, q4, by omega⟩
 ·unfold ZdU; rw [Za (by omega), q1]; rfl
 ·unfold ZcP; rw [Za (by omega), q2, Ztm (f := ZbO a') (N := a.length) js q3 (fun k hk => (q6 k hk).1 a' k rfl)]; rfl

theorem Zma {l : List UInt8} {b : UInt8} {n d : Nat} (h : Lib.decFrom 0 l = some n) (hd : Lib.digitVal b = some d) : Lib.decFrom 0 (l ++ [b]) = some (n * 10 + d) := by
 have := Lib.decFrom_take (l ++ [b]) l.length 0 n b d (by simpa using h) (by simp) hd
 rwa [List.take_of_length_le (by simp)] at this
theorem Zp5 {m : Nat} (h : m < 10) : (UInt8.ofNat (48 + m)).toNat = 48 + m := by
 rw [UInt8.toNat_ofNat']
 omega
theorem Zsm {m : Nat} (h : m < 10) : Lib.digitVal (UInt8.ofNat (48 + m)) = some m := by
 unfold Lib.digitVal
 rw [Zp5 h, if_pos (by omega)]
 congr 1; omega
theorem ZpZ : ∀ (k m : Nat), m ≤ k → Lib.decFrom 0 (Lib.decDigits m) = some m
 | 0, m, h => by
  have e : m = 0 := by omega
  subst e
  rw [Lib.decDigits, dif_pos (by omega)]; rfl
 | k + 1, m, h => by
  by_cases h10 : m < 10
  ·rw [Lib.decDigits, dif_pos h10]
   have := Zma (l := []) (n := 0) rfl (Zsm h10)
   simpa using this
  ·rw [Lib.decDigits, dif_neg h10, Zma (ZpZ k (m / 10) (by omega)) (Zsm (by omega))]
   congr 1; omega
theorem Zqg {m : Nat} {b : UInt8} (hb : b ∈ Lib.decDigits m) : 48 ≤ b.toNat ∧ b.toNat ≤ 57 := by
 obtain ⟨i, hi⟩ := List.mem_iff_getElem?.1 hb
 obtain ⟨d, hd⟩ := Lib.digit_of_decFrom _ _ _ (ZpZ m m (Nat.le_refl _)) i b hi
 have := Lib.digitVal_eq hd
 omega
theorem Ztn {m : Nat} : Lib.decDigits m ≠ [] := by
 rw [Lib.decDigits]
 split <;> simp
theorem ZnM (m : Nat) : Lib.atoi (Lib.decDigits m) = some (m : Int) := by
 have hv := ZpZ m m (Nat.le_refl _)
 cases hd : Lib.decDigits m with
 | nil => exact absurd hd Ztn
 | cons b r =>
  have hb := Zqg (m := m) (b := b) (by rw [hd]; simp)
  rw [hd] at hv
  have h1 : (b == 45) = false := by
   rw [beq_eq_false_iff_ne]
   intro e; subst e
   have : (45 : UInt8).toNat = 45 := rfl
   omega
  have h2 : (b == 43) = false := by
   rw [beq_eq_false_iff_ne]
   intro e; subst e
   have : (43 : UInt8).toNat = 43 := rfl
   omega
  simp [Lib.atoi, h1, h2, Lib.decNat, hv]
theorem Zoc {n m : Int} (h0 : 0 ≤ n) (h1 : 0 ≤ m) (h : Lib.itoa n = Lib.itoa m) : n = m := by
 rw [ZgM h0, ZgM h1] at h
 have a := ZnM n.toNat
 have b := ZnM m.toNat
 rw [h, b] at a
 have := Option.some.inj a
 omega
theorem Zlg {n : Int} (h0 : 0 ≤ n) {b : UInt8} (hb : b ∈ Lib.itoa n) : 48 ≤ b.toNat ∧ b.toNat ≤ 57 := by
 rw [ZgM h0] at hb
 exact Zqg hb
theorem ZsC {n : Int} (h0 : 0 ≤ n) : Lib.itoa n ≠ [] := by
 rw [ZgM h0]
 exact Ztn

theorem Zja (n a b : Int) : Zt n a b = some (decide (n ≥ a) && decide (n ≤ b)) := rfl
theorem Zi8 {n : Int} (h0 : 0 ≤ n) (h1 : n ≤ 1000000000) : Zb4 ⟨Lib.itoa n⟩ = some (n, true) := by
 have hl := Za7 h0 h1
 unfold Zb4
 rw [decide_eq_false (show ¬ (((Lib.itoa n).length : Nat) : Int) > 10 by omega), cond_false]
 unfold strconv_Atoi
 rw [Za (show (Lib.itoa n).length ≤ 18 by omega)]
 have ha : Lib.atoi (Lib.itoa n) = some n := by
  rw [ZgM h0, ZnM]
  congr 1; omega
 simp only [ha, Option.bind_some, Zja, cond_false]
 rw [decide_eq_true (show n ≥ 0 from h0), decide_eq_true (show n ≤ 1000000000 from h1)]
 simp only [Bool.and_self, Bool.not_true, cond_false]
 rw [Zbj h0 h1]
 simp only [Option.bind_some, Zn7, Bool.not_true, cond_false]
theorem Zno {s : Str} (h : ∀ n : Int, 0 ≤ n → n ≤ 1000000000 → s.b ≠ Lib.itoa n) : Zb4 s = some (0, false) := by
 unfold Zb4
 cases hd : decide (((s.b.length : Nat) : Int) > 10)
 ·have hl : s.b.length ≤ 10 := by simp at hd; omega
  simp only [cond_false]
  unfold strconv_Atoi
  rw [Za (show s.b.length ≤ 18 by omega)]
  cases ha : Lib.atoi s.b with
  | none => simp only [Option.bind_some, cond_true]
  | some n =>
   simp only [Option.bind_some, Zja, cond_false]
   cases hw : decide (n ≥ 0) && decide (n ≤ 1000000000)
   ·simp only [Bool.not_false, cond_true, Option.bind_some]
   ·simp only [Bool.and_eq_true, decide_eq_true_eq] at hw
    simp only [Bool.not_true, cond_false]
    rw [Zbj hw.1 hw.2]
    have hs : seq ⟨Lib.itoa n⟩ s = false := by
     unfold seq
     rw [beq_eq_false_iff_ne]
     exact fun e => h n hw.1 hw.2 e.symm
    simp only [Option.bind_some, hs, Bool.not_false, cond_true]
 ·simp only [cond_true]

def dval : List UInt8 → Nat → Nat
 | [], n => n
 | b :: r, n => dval r (10 * n + (b.toNat - 48))
theorem Zi6 : ∀ (l : List UInt8) (b : UInt8) (n : Nat), dval (l ++ [b]) n = 10 * dval l n + (b.toNat - 48)
 | [], _, _ => rfl
 | _ :: r, b, _ => Zi6 r b _
theorem ZrJ : ∀ (k m : Nat), m ≤ k → dval (Lib.decDigits m) 0 = m
 | 0, m, h => by
  have e : m = 0 := by omega
  subst e
  rw [Lib.decDigits, dif_pos (by omega)]; rfl
 | k + 1, m, h => by
  by_cases h10 : m < 10
  ·rw [Lib.decDigits, dif_pos h10]
   have := Zi6 [] (UInt8.ofNat (48 + m)) 0
   rw [List.nil_append] at this
   rw [this, Zp5 h10]
   show 10 * 0 + (48 + m - 48) = m
   omega
  ·rw [Lib.decDigits, dif_neg h10, Zi6, ZrJ k (m / 10) (by omega), Zp5 (by omega)]
   omega
def isDg (b : UInt8) : Bool := !(decide ((b.toNat : Int) < 48) || decide ((b.toNat : Int) > 57))
theorem Zoy {b : UInt8} : isDg b = true ↔ 48 ≤ b.toNat ∧ b.toNat ≤ 57 := by
 unfold isDg
 simp
 omega
theorem ZmA {l : List UInt8} : ∀ k, k ≤ l.length → (∀ j, j < k → isDg (l.getD j 0) = true) → dval (l.take k) 0 < 10 ^ k
 | 0, _, _ => by simp [dval]
 | k + 1, hk, h => by
  have h1 := ZmA k (by omega) fun j hj => h j (by omega)
  have h2 := Zoy.1 (h k (by omega))
  have hx : l[k]? = some l[k] := List.getElem?_eq_getElem (by omega)
  have hg : l.getD k 0 = l[k] := by simp [List.getD, hx]
  rw [hg] at h2
  rw [List.take_add_one, hx]
  simp only [Option.toList]
  rw [Zi6, Nat.pow_succ]
  omega

theorem Ziu {s : Str} (hl : s.b.length ≤ 10) : forO (Zdm s) s.b.length 0 0 = some (bif (List.range s.b.length).all (fun k => isDg (s.b.getD k 0)) then .inl ((dval s.b 0 : Nat) : Int) else .inr ((0 : Int), false)) := by
 rw [Zo0 (f := Zdm s) (N := s.b.length) (s0 := 0) (c := ((0 : Int), false)) (fun k => isDg (s.b.getD k 0)) (fun k => ((dval (s.b.take k) 0 : Nat) : Int)) (by simp [dval]) (fun k hk hp => by
  unfold Zdm sat_
  have hlt := ZmA (l := s.b) k (by omega) hp
  have hpw : (10 : Nat) ^ k ≤ 10 ^ 10 := Nat.pow_le_pow_right (by decide) (by omega)
  have e10 : (10 : Nat) ^ 10 = 10000000000 := by decide
  have hx : s.b[k]? = some s.b[k] := List.getElem?_eq_getElem (by omega)
  have hg : s.b.getD k 0 = s.b[k] := by simp [List.getD, hx]
  have hb := s.b[k].toNat_lt
  rw [hg]
  cases hd : isDg s.b[k]
  ·have : (decide ((s.b[k].toNat : Int) < 48) || decide ((s.b[k].toNat : Int) > 57)) = true := by simpa only [isDg, Bool.not_eq_eq_eq_not, Bool.not_false] using hd
   rw [this]; rfl
  ·have : (decide ((s.b[k].toNat : Int) < 48) || decide ((s.b[k].toNat : Int) > 57)) = false := by simpa only [isDg, Bool.not_eq_eq_eq_not, Bool.not_true] using hd
   rw [this, cond_false, cond_true]
   have h2 := Zoy.1 hd
   rw [List.take_add_one, hx]
   simp only [Option.toList]
   rw [Zi6, Z6 (n := 10 * _) (by omega) (by omega), Z6 (n := _ + _) (by omega) (by omega), Z6 (by omega) (by omega)]
   congr 2; omega)]
 simp
theorem ZiY {n : Int} (h0 : 0 ≤ n) (h1 : n ≤ 1000000000) : ZbE ⟨Lib.itoa n⟩ = some (n, true) := by
 have hl := Za7 h0 h1
 unfold ZbE
 rw [decide_eq_false (show ¬ (((Lib.itoa n).length : Nat) : Int) > 10 by omega), cond_false, Za (show (Lib.itoa n).length ≤ 4611686018427387904 by omega), Ziu (s := ⟨Lib.itoa n⟩) hl]
 have ha : (List.range (Lib.itoa n).length).all (fun k => isDg ((Lib.itoa n).getD k 0)) = true := by
  rw [List.all_eq_true]
  intro k hk
  have hk' : k < (Lib.itoa n).length := by simpa using hk
  have hg : (Lib.itoa n).getD k 0 = (Lib.itoa n)[k] := by simp [List.getD, hk']
  rw [hg]
  exact Zoy.2 (Zlg h0 (List.getElem_mem hk'))
 have hv : ((dval (Lib.itoa n) 0 : Nat) : Int) = n := by
  rw [ZgM h0, ZrJ _ _ (Nat.le_refl _)]; omega
 simp only [ha, cond_true, Zdg, hv]
 rw [decide_eq_false (show ¬ n > 1000000000 by omega), cond_false, Zaz h0 h1]
 simp only [Option.bind_some, Zn7, Bool.not_true, cond_false]
theorem Zm1 {s : Str} (h : ∀ n : Int, 0 ≤ n → n ≤ 1000000000 → s.b ≠ Lib.itoa n) : ZbE s = some (0, false) := by
 unfold ZbE
 cases hd : decide (((s.b.length : Nat) : Int) > 10)
 ·have hl : s.b.length ≤ 10 := by simp at hd; omega
  simp only [cond_false]
  rw [Za (by omega), Ziu hl]
  cases (List.range s.b.length).all (fun k => isDg (s.b.getD k 0))
  ·rfl
  ·simp only [cond_true, Zdg]
   generalize dval s.b 0 = m
   cases hm : decide (((m : Nat) : Int) > 1000000000)
   ·have hm' : ((m : Nat) : Int) ≤ 1000000000 := by simp at hm; omega
    simp only [cond_false]
    rw [Zaz (by omega) hm']
    have hs : seq ⟨Lib.itoa ((m : Nat) : Int)⟩ s = false := by
     unfold seq
     rw [beq_eq_false_iff_ne]
     exact fun e => h _ (by omega) hm' e.symm
    simp only [Option.bind_some, hs, Bool.not_false, cond_true]
   ·simp only [cond_true, Option.bind_some]
 ·simp only [cond_true]

theorem Zvn (s : Str) : (∃ n : Int, 0 ≤ n ∧ n ≤ 1000000000 ∧ s = ⟨Lib.itoa n⟩) ∨ ∀ n : Int, 0 ≤ n → n ≤ 1000000000 → s.b ≠ Lib.itoa n := by
 rcases Classical.em (∃ n : Int, 0 ≤ n ∧ n ≤ 1000000000 ∧ s.b = Lib.itoa n) with ⟨n, a, b, c⟩ | h
 ·exact .inl ⟨n, a, b, by cases s; simp at c; rw [c]⟩
 ·exact .inr fun n a b c => h ⟨n, a, b, c⟩
theorem Zh3 (s : Str) : ∃ r : Int × Bool, ZbE s = some r ∧ Zb4 s = some r := by
 rcases Zvn s with ⟨n, a, b, rfl⟩ | h
 ·exact ⟨_, ZiY a b, Zi8 a b⟩
 ·exact ⟨_, Zm1 h, Zno h⟩

def okB (b : UInt8) : Bool := !(decide ((b.toNat : Int) < 32) || decide ((b.toNat : Int) > 126))
def endF (c : List UInt8) : List Str := bif c.isEmpty then [] else [⟨c⟩]
def fldF : List UInt8 → List UInt8 → List Str
 | [], c => endF c
 | x :: r, c => bif x == 32 then endF c ++ fldF r [] else fldF r (c ++ [x])
def ZG (l : Str) : List Str × Bool := bif decide (((l.b.length : Nat) : Int) > 600) then ([], false) else bif l.b.all okB then (bif decide ((((fldF l.b []).length : Nat) : Int) > 24) then ([], false) else (fldF l.b [], true)) else ([], false)
theorem ZuK (x : UInt8) : ((x.toNat : Int) != 32) = !(x == 32) := by
 by_cases h : x = 32
 ·subst h; rfl
 ·have e : (32 : UInt8).toNat = 32 := rfl
  have h1 : (x == 32) = false := by rw [beq_eq_false_iff_ne]; exact h
  have h2 : x.toNat ≠ (32 : UInt8).toNat := fun e => h (UInt8.toNat_inj.1 e)
  rw [h1]
  simp only [Bool.not_false, bne_iff_ne, ne_eq]
  omega
theorem ZwP (x : UInt8) : ((x.toNat : Int) == 32) = (x == 32) := by
 have := ZuK x
 unfold bne at this
 cases h : ((x.toNat : Int) == 32) <;> rw [h] at this <;> simpa using this
theorem Zlr {l : List UInt8} {k : Nat} (h : k < l.length) : l.drop k = sat_ ⟨l⟩ k :: l.drop (k + 1) := by
 rw [List.drop_eq_getElem_cons h]
 congr 1
 simp [sat_, List.getD, h]
theorem Zmw {l : List UInt8} {b k : Nat} {c : List UInt8} (h : k < l.length) (hb : b + c.length = k) (hc : (l.drop b).take c.length = c) : (l.drop b).take (c ++ [sat_ ⟨l⟩ k]).length = c ++ [sat_ ⟨l⟩ k] := by
 rw [List.length_append, List.length_singleton, List.take_add_one, hc]
 congr 1
 rw [List.getElem?_drop, hb]
 simp [sat_, List.getD, h]

theorem Zjd (l : Str) (hl : l.b.length ≤ 600) : ∀ (m k b : Nat) (d : List Str) (c : List UInt8), k + m = l.b.length + 1 → b + c.length = k → (l.b.drop b).take c.length = c → d.length ≤ k → k ≤ l.b.length →
  forO (Zbh l) m k (d, (b : Int)) = some (bif (l.b.drop k).all okB then .inl (d ++ fldF (l.b.drop k) c, ((l.b.length + 1 : Nat) : Int)) else .inr (([] : List Str), false))
 | 0, k, b, d, c, hk, _, _, _, hle => by omega
 | m + 1, k, b, d, c, hk, hb, hc, hd, hle => by
  have hsub : ssub l b k = ⟨c⟩ := by unfold ssub; rw [show k - b = c.length by omega, hc]
  have fin : (bif decide ((b : Int) < ((k : Nat) : Int)) then gd (0 ≤ (b : Int) ∧ ((b : Int)).toNat ≤ k ∧ k ≤ l.b.length) <| gd (d.length + 1 ≤ 1099511627776) <| some (d ++ [ssub l (((b : Int)).toNat) k]) else some d) = some (d ++ endF c) := by
   cases c with
   | nil =>
    have e : b = k := by simpa using hb
    rw [decide_eq_false (by omega)]
    simp [endF]
   | cons y r =>
    have e : b < k := by simp at hb; omega
    rw [decide_eq_true (by omega), cond_true, Za ⟨by omega, by omega, hle⟩, Za (by omega), Int.toNat_natCast, hsub]
    rfl
  rw [forO]
  rcases Nat.lt_or_ge k l.b.length with hlt | hge
  ·have hk1 : decide (((k : Nat) : Int) < ((l.b.length : Nat) : Int)) = true := decide_eq_true (by omega)
   have step : Zbh l k (d, (b : Int)) = some (bif okB (sat_ l k) then (bif sat_ l k == 32 then .next (d ++ endF c, ((k + 1 : Nat) : Int)) else .next (d, (b : Int))) else .ret (([] : List Str), false)) := by
    unfold Zbh okB
    simp only [hk1, cond_true, Za hlt, fin, ZuK, Option.bind_some]
    cases h1 : decide (((sat_ l k).toNat : Int) < 32)
    ·cases h2 : decide (((sat_ l k).toNat : Int) > 126)
     ·cases h3 : sat_ l k == 32 <;> rfl
     ·rfl
    ·rfl
   rw [step, Zlr hlt]
   simp only [Option.bind_some, List.all_cons, fldF]
   have hsat : sat_ (⟨l.b⟩ : Str) k = sat_ l k := rfl
   rw [hsat]
   cases ho : okB (sat_ l k)
   ·simp only [cond_false, Bool.false_and]
   ·simp only [cond_true, Bool.true_and]
    cases h3 : sat_ l k == 32
    ·simp only [cond_false]
     exact Zjd l hl m (k + 1) b d (c ++ [sat_ l k]) (by omega) (by rw [List.length_append, List.length_singleton]; omega) (Zmw hlt hb hc) (by omega) (by omega)
    ·simp only [cond_true]
     have hel : (endF c).length ≤ 1 := by unfold endF; cases c.isEmpty <;> simp
     rw [Zjd l hl m (k + 1) (k + 1) (d ++ endF c) [] (by omega) (by simp) (by simp) (by rw [List.length_append]; omega) (by omega), List.append_assoc]
  ·have e : k = l.b.length := by omega
   subst e
   have hk1 : decide (((l.b.length : Nat) : Int) < ((l.b.length : Nat) : Int)) = false := decide_eq_false (by omega)
   have step : Zbh l l.b.length (d, (b : Int)) = some (.next (d ++ endF c, ((l.b.length + 1 : Nat) : Int))) := by
    unfold Zbh
    simp only [hk1, cond_false, fin, Option.bind_some]
   have e0 : m = 0 := by omega
   subst e0
   rw [step, List.drop_length]
   rfl

theorem Zit (l : Str) : ZbV l = some (ZG l) := by
 unfold ZbV ZG
 cases hd : decide (((l.b.length : Nat) : Int) > 600)
 ·have hl : l.b.length ≤ 600 := by simp at hd; omega
  simp only [cond_false]
  have := Zjd l hl (l.b.length + 1) 0 0 [] [] (by omega) rfl (by simp) (by simp) (by omega)
  rw [List.drop_zero, List.nil_append] at this
  rw [Za (by omega), show ((0 : Int)) = ((0 : Nat) : Int) from rfl, this]
  cases l.b.all okB
  ·rfl
  ·simp only [cond_true, Zdg]
   cases decide ((((fldF l.b []).length : Nat) : Int) > 24) <;> rfl
 ·rfl

def Zc2 (c : List UInt8) (b : Nat) : Int := bif c.isEmpty then -1 else (b : Int)
theorem Zje (l : Str) (hl : l.b.length ≤ 600) : ∀ (m k b : Nat) (d : List Str) (c : List UInt8), k + m = l.b.length → b + c.length = k → (l.b.drop b).take c.length = c → d.length ≤ k →
  ((l.b.drop k).all okB = false → forO (ZbL l) m k (d, Zc2 c b) = some (.inr (([] : List Str), false))) ∧
  ((l.b.drop k).all okB = true → ∃ (d' : List Str) (c' : List UInt8) (b' : Nat), forO (ZbL l) m k (d, Zc2 c b) = some (.inl (d', Zc2 c' b')) ∧ b' + c'.length = l.b.length ∧ (l.b.drop b').take c'.length = c' ∧ d'.length ≤ l.b.length ∧ d' ++ endF c' = d ++ fldF (l.b.drop k) c)
 | 0, k, b, d, c, hk, hb, hc, hd => by
  have e : k = l.b.length := by omega
  subst e
  rw [List.drop_length]
  exact ⟨fun h => by simp at h, fun _ => ⟨d, c, b, rfl, hb, hc, hd, rfl⟩⟩
 | m + 1, k, b, d, c, hk, hb, hc, hd => by
  have hlt : k < l.b.length := by omega
  have hsub : ssub l b k = ⟨c⟩ := by unfold ssub; rw [show k - b = c.length by omega, hc]
  have step : ZbL l k (d, Zc2 c b) = some (bif okB (sat_ l k) then (bif sat_ l k == 32 then .next (d ++ endF c, Zc2 [] (k + 1)) else .next (d, Zc2 (c ++ [sat_ l k]) b)) else .ret (([] : List Str), false)) := by
   unfold ZbL okB
   cases h0 : (decide (((sat_ l k).toNat : Int) < 32) || decide (((sat_ l k).toNat : Int) > 126))
   ·simp only [cond_false, Bool.not_false, cond_true, ZwP]
    cases h3 : sat_ l k == 32
    ·simp only [cond_false]
     cases c with
     | nil =>
      have e : b = k := by simpa using hb
      have e1 : Zc2 ([] : List UInt8) b = -1 := rfl
      have e2 : Zc2 ([] ++ [sat_ l k]) b = (b : Int) := rfl
      rw [e1, e2, e]
      rfl
     | cons y r =>
      have e1 : Zc2 (y :: r) b = (b : Int) := rfl
      have e2 : Zc2 ((y :: r) ++ [sat_ l k]) b = (b : Int) := rfl
      rw [e1, e2, decide_eq_false (show ¬ (b : Int) < 0 by omega)]
      rfl
    ·simp only [cond_true]
     cases c with
     | nil =>
      have e1 : Zc2 ([] : List UInt8) b = -1 := rfl
      rw [e1, decide_eq_false (show ¬ (-1 : Int) ≥ 0 by omega)]
      simp only [cond_false, Option.bind_some]
      simp [endF, Zc2]
     | cons y r =>
      have e1 : Zc2 (y :: r) b = (b : Int) := rfl
      rw [e1, decide_eq_true (show (b : Int) ≥ 0 by omega)]
      simp only [cond_true]
      rw [Za ⟨by omega, by omega, by omega⟩, Za (by omega), Int.toNat_natCast, hsub]
      rfl
   ·rfl
  rw [forO, step, Zlr hlt]
  have hsat : sat_ (⟨l.b⟩ : Str) k = sat_ l k := rfl
  simp only [Option.bind_some, List.all_cons, fldF, hsat]
  cases ho : okB (sat_ l k)
  ·simp only [cond_false, Bool.false_and]
   exact ⟨fun _ => trivial, fun h => by cases h⟩
  ·simp only [cond_true, Bool.true_and]
   cases h3 : sat_ l k == 32
   ·simp only [cond_false]
    exact Zje l hl m (k + 1) b d (c ++ [sat_ l k]) (by omega) (by rw [List.length_append, List.length_singleton]; omega) (Zmw hlt hb hc) (by omega)
   ·simp only [cond_true]
    have hel : (endF c).length ≤ 1 := by unfold endF; cases c.isEmpty <;> simp
    have ih := Zje l hl m (k + 1) (k + 1) (d ++ endF c) [] (by omega) (by simp) (by simp) (by rw [List.length_append]; omega)
    rw [List.append_assoc] at ih
    exact ih

theorem Zix (l : Str) : ZcW l = some (ZG l) := by
 unfold ZcW ZG
 cases hd : decide (((l.b.length : Nat) : Int) > 600)
 ·have hl : l.b.length ≤ 600 := by simp at hd; omega
  simp only [cond_false]
  obtain ⟨g1, g2⟩ := Zje l hl l.b.length 0 0 [] [] (by omega) rfl (by simp) (by simp)
  rw [List.drop_zero, List.nil_append] at g2
  rw [List.drop_zero] at g1
  rw [Za (by omega), show ((-1 : Int)) = Zc2 [] 0 from rfl]
  cases ha : l.b.all okB
  ·rw [g1 ha]; rfl
  ·obtain ⟨d', c', b', e1, e2, e3, e4, e5⟩ := g2 ha
   rw [e1, ← e5]
   simp only [Zdg, cond_true]
   have hsub : ssub l b' l.b.length = ⟨c'⟩ := by unfold ssub; rw [show l.b.length - b' = c'.length by omega, e3]
   have fin : (bif decide (Zc2 c' b' ≥ 0) then gd (0 ≤ Zc2 c' b' ∧ (Zc2 c' b').toNat ≤ l.b.length ∧ l.b.length ≤ l.b.length) <| gd (d'.length + 1 ≤ 1099511627776) <| some (d' ++ [ssub l ((Zc2 c' b').toNat) l.b.length]) else some d') = some (d' ++ endF c') := by
    cases c' with
    | nil =>
     have q : Zc2 ([] : List UInt8) b' = -1 := rfl
     rw [q, decide_eq_false (show ¬ (-1 : Int) ≥ 0 by omega)]
     simp [endF]
    | cons y r =>
     have q : Zc2 (y :: r) b' = (b' : Int) := rfl
     rw [q, decide_eq_true (show (b' : Int) ≥ 0 by omega), cond_true, Za ⟨by omega, by omega, by omega⟩, Za (by omega), Int.toNat_natCast, hsub]
     rfl
   rw [fin]
   simp only [Option.bind_some]
   cases decide ((((d' ++ endF c').length : Nat) : Int) > 24) <;> rfl
 ·rfl

def Word (c : List UInt8) : Prop := c ≠ [] ∧ ∀ x ∈ c, (x == 32) = false
theorem Zql {c : List UInt8} (h : c ≠ []) : endF c = [⟨c⟩] := by
 cases c with
 | nil => exact absurd rfl h
 | cons _ _ => rfl
theorem Zom : ∀ (w r c : List UInt8), (∀ x ∈ w, (x == 32) = false) → fldF (w ++ r) c = fldF r (c ++ w)
 | [], r, c, _ => by simp
 | x :: w, r, c, h => by
  rw [List.cons_append, fldF, h x (by simp), cond_false, Zom w r (c ++ [x]) fun y hy => h y (by simp [hy])]
  simp
theorem ZmH : ∀ (r c : List UInt8), (∀ x ∈ c, (x == 32) = false) → ∀ f ∈ fldF r c, Word f.b ∧ f.b.length ≤ r.length + c.length
 | [], c, hc, f, hf => by
  cases c with
  | nil => cases hf
  | cons y t =>
   have e : f = ⟨y :: t⟩ := by simpa [fldF, endF] using hf
   rw [e]
   exact ⟨⟨by simp, hc⟩, by simp⟩
 | x :: r, c, hc, f, hf => by
  unfold fldF at hf
  cases h : x == 32
  ·rw [h, cond_false] at hf
   have := ZmH r (c ++ [x]) (fun y hy => by
    rcases List.mem_append.1 hy with h' | h'
    ·exact hc y h'
    ·rw [List.mem_singleton.1 h']; exact h) f hf
   refine ⟨this.1, ?_⟩
   have h2 := this.2
   simp only [List.length_append, List.length_cons, List.length_nil] at h2 ⊢
   omega
  ·rw [h, cond_true] at hf
   rcases List.mem_append.1 hf with h' | h'
   ·cases c with
    | nil => cases h'
    | cons y t =>
     have e : f = ⟨y :: t⟩ := by simpa [endF] using h'
     rw [e]
     exact ⟨⟨by simp, hc⟩, by simp⟩
   ·have := ZmH r [] (by simp) f h'
    refine ⟨this.1, ?_⟩
    have h2 := this.2
    simp only [List.length_cons, List.length_nil] at h2 ⊢
    omega
def Zev (p : List Str) : List UInt8 := (p.map fun f => 32 :: f.b).flatten
theorem Zrs (z : List UInt8) (hz : ∀ c, fldF z c = endF c) : ∀ (p : List Str) (c : List UInt8), (∀ f ∈ p, Word f.b) → fldF (Zev p ++ z) c = endF c ++ p
 | [], c, _ => by simpa [Zev] using hz c
 | f :: p, c, h => by
  have hf := h f (by simp)
  have e : Zev (f :: p) ++ z = 32 :: (f.b ++ (Zev p ++ z)) := by simp [Zev]
  rw [e, fldF]
  have h32 : ((32 : UInt8) == 32) = true := rfl
  rw [h32, cond_true, Zom f.b _ [] hf.2, List.nil_append, Zrs z hz p f.b fun g hg => h g (by simp [hg]), Zql hf.1]
  rfl
theorem Zvb (c : List UInt8) : fldF [] c = endF c := rfl
theorem Zrc {w : List UInt8} {q : List Str} (hw : Word w) (hq : ∀ f ∈ q, Word f.b) : fldF (w ++ Zev q) [] = ⟨w⟩ :: q := by
 rw [Zom w _ [] hw.2, List.nil_append]
 have := Zrs [] Zvb q w hq
 rw [List.append_nil] at this
 rw [this, Zql hw.1]
 rfl
def ZbB : List Str → List UInt8
 | [] => []
 | f :: p => f.b ++ Zev p
theorem ZtY {p : List Str} (h : ∀ f ∈ p, Word f.b) : fldF (ZbB p) [] = p := by
 cases p with
 | nil => rfl
 | cons f p =>
  have := Zrc (h f (by simp)) fun g hg => h g (List.mem_cons_of_mem _ hg)
  rw [ZbB, this]
theorem Zup (p : List Str) : Lib.join (p.map Str.b) [32] = ZbB p := by
 cases p with
 | nil => rfl
 | cons f p =>
  rw [List.map_cons, Lib.join_cons]
  unfold ZbB Zev Lib.joinTail
  rw [List.map_map]
  rfl

def Zc6 (a : GAct) : List Str := (Zbo a).map fun n => ⟨Lib.itoa n⟩
theorem ZsG (ns : List Int) : ZiN ns = Zev (ns.map fun n => (⟨Lib.itoa n⟩ : Str)) := by
 unfold ZiN Zev
 rw [List.map_map]
 rfl
theorem ZjM {a : GAct} (h : ZaE a = true) : ∀ n ∈ Zbo a, 0 ≤ n ∧ n ≤ 1000000000 := by
 obtain ⟨hk, a0, a1, b0, b1⟩ := Zb9 h
 intro n hn
 unfold Zbo at hn
 cases h2 : a.Kind == 2
 ·cases h4 : a.Kind == 4 || a.Kind == 5
  ·rw [h2, h4] at hn
   rw [List.mem_singleton.1 hn]; omega
  ·rw [h2, h4] at hn; cases hn
 ·rw [h2] at hn
  simp only [cond_true, List.mem_cons, List.not_mem_nil, or_false] at hn
  rcases hn with rfl | rfl <;> omega
theorem Zuq {a : GAct} (h : ZaE a = true) : Word (Zb6 a.Kind) := by
 obtain ⟨hk, _⟩ := Zb9 h
 unfold Zb6 Word
 rcases hk with k | k | k | k | k | k <;> rw [k] <;> decide
theorem Ztb {a : GAct} (h : ZaE a = true) : ∀ f ∈ Zc6 a, Word f.b := by
 intro f hf
 obtain ⟨n, hn, rfl⟩ := List.mem_map.1 hf
 have h0 := (ZjM h n hn).1
 refine ⟨ZsC h0, fun x hx => ?_⟩
 have := Zlg h0 hx
 rw [beq_eq_false_iff_ne]
 intro e
 subst e
 have e2 : (32 : UInt8).toNat = 32 := rfl
 omega
theorem Zue (a : GAct) : (actL a).b = Zb6 a.Kind ++ Zev (Zc6 a) := by
 unfold actL ZbU Zc6
 rw [ZsG]
theorem ZlE {a : GAct} (h : ZaE a = true) : fldF (actL a).b [] = ⟨Zb6 a.Kind⟩ :: Zc6 a := by
 rw [Zue]
 exact Zrc (Zuq h) (Ztb h)
theorem Zkw {a : GAct} (h : ZaE a = true) {p : List Str} (hp : ∀ f ∈ p, Word f.b) (hj : ZbB p = (actL a).b) : p = ⟨Zb6 a.Kind⟩ :: Zc6 a := by
 rw [← ZtY hp, hj, ZlE h]
theorem Zut {i j : Int} (hi : i = 1 ∨ i = 2 ∨ i = 3 ∨ i = 4 ∨ i = 5 ∨ i = 6) (hj : j = 1 ∨ j = 2 ∨ j = 3 ∨ j = 4 ∨ j = 5 ∨ j = 6) (h : Zb6 i = Zb6 j) : i = j := by
 rcases hi with rfl | rfl | rfl | rfl | rfl | rfl <;> rcases hj with rfl | rfl | rfl | rfl | rfl | rfl <;> first | rfl | (exfalso; revert h; decide)
theorem Zlb {a : GAct} (h : ZaE a = true) : (a.Kind ≠ 2 → a.B = 0) ∧ (a.Kind = 4 ∨ a.Kind = 5 → a.A = 0) := by
 obtain ⟨hk, _⟩ := Zb9 h
 unfold ZaE at h
 rcases hk with k | k | k | k | k | k <;> rw [k] at h ⊢ <;> simp [inR] at h ⊢ <;> omega
theorem Zvi {a a' : GAct} (h : ZaE a = true) (h' : ZaE a' = true) (e : (actL a).b = (actL a').b) : a = a' := by
 have h1 := ZlE h
 rw [e, ZlE h'] at h1
 injection h1 with h2 h3
 have h4 : Zb6 a'.Kind = Zb6 a.Kind := congrArg Str.b h2
 have hk := Zut (Zb9 h').1 (Zb9 h).1 h4
 obtain ⟨p1, p2⟩ := Zlb h
 obtain ⟨q1, q2⟩ := Zlb h'
 have hn := ZjM h
 have hn' := ZjM h'
 unfold Zc6 Zbo at h3
 unfold Zbo at hn hn'
 rw [hk] at h3 q1 q2 hn'
 obtain ⟨ak, aA, aB⟩ := a
 obtain ⟨ak', aA', aB'⟩ := a'
 simp only at hk h3 p1 p2 q1 q2 hn hn'
 subst hk
 cases e2 : ak' == 2
 ·have n2 : ak' ≠ 2 := by simpa using e2
  have b1 := p1 n2
  have b2 := q1 n2
  cases e4 : ak' == 4 || ak' == 5
  ·rw [e2, e4] at h3 hn hn'
   simp only [cond_false, List.map_cons, List.map_nil, List.cons.injEq, and_true, List.mem_singleton] at h3 hn hn'
   have := Zoc (hn' _ rfl).1 (hn _ rfl).1 (congrArg Str.b h3)
   subst this
   rw [b1, b2]
  ·have hk4 : ak' = 4 ∨ ak' = 5 := by
    simp only [Bool.or_eq_true, beq_iff_eq] at e4
    exact e4
   rw [p2 hk4, q2 hk4, b1, b2]
 ·rw [e2] at h3 hn hn'
  simp only [cond_true, List.map_cons, List.map_nil, List.cons.injEq, and_true, List.mem_cons, List.not_mem_nil, or_false] at h3 hn hn'
  have i1 := Zoc (hn' _ (.inl rfl)).1 (hn _ (.inl rfl)).1 (congrArg Str.b h3.1)
  have i2 := Zoc (hn' _ (.inr rfl)).1 (hn _ (.inr rfl)).1 (congrArg Str.b h3.2)
  rw [i1, i2]

theorem ZiS {l : Str} (h : (ZG l).2 = true) : l.b.length ≤ 600 ∧ (ZG l).1 = fldF l.b [] ∧ ∀ f ∈ (ZG l).1, Word f.b ∧ f.b.length ≤ 600 := by
 unfold ZG at h ⊢
 cases hd : decide (((l.b.length : Nat) : Int) > 600)
 ·rw [hd] at h
  simp only [cond_false] at h ⊢
  cases ha : l.b.all okB
  ·rw [ha] at h; cases h
  ·rw [ha] at h
   simp only [cond_true] at h ⊢
   cases hc : decide ((((fldF l.b []).length : Nat) : Int) > 24)
   ·refine ⟨by simp at hd; omega, rfl, fun f hf => ?_⟩
    have := ZmH l.b [] (by simp) f hf
    refine ⟨this.1, ?_⟩
    have h2 := this.2
    simp only [List.length_nil] at h2
    simp at hd
    omega
   ·rw [hc] at h; cases h
 ·rw [hd] at h; cases h
def ZhE (l : Str) (a : GAct) : Prop := ZaE a = true ∧ (ZG l).2 = true ∧ 1 ≤ (ZG l).1.length ∧ (ZG l).1.length ≤ 3 ∧ ZbB (ZG l).1 = (actL a).b
theorem Zte {l : Str} {a a' : GAct} (h : ZhE l a) (h' : ZhE l a') : a = a' := Zvi h.1 h'.1 (by rw [← h.2.2.2.2, ← h'.2.2.2.2])
theorem len3 {α : Type} {p : List α} (h1 : 1 ≤ p.length) (h3 : p.length ≤ 3) : (∃ x, p = [x]) ∨ (∃ x y, p = [x, y]) ∨ ∃ x y z, p = [x, y, z] := by
 match p, h1, h3 with
 | [x], _, _ => exact .inl ⟨x, rfl⟩
 | [x, y], _, _ => exact .inr (.inl ⟨x, y, rfl⟩)
 | [x, y, z], _, _ => exact .inr (.inr ⟨x, y, z, rfl⟩)
 | _ :: _ :: _ :: _ :: _, _, h => exact absurd h (by simp)

def numM (s : Str) : Int := (ZbY s).getD 0
theorem ZrN (s : Str) : ZbY s = some (numM s) := by
 have key : ∃ n, ZbY s = some n := by
  unfold ZbY
  obtain ⟨r1, e1, _⟩ := Zh3 s
  obtain ⟨r2, e2, _⟩ := Zh3 (ssub s 1 s.b.length)
  cases hd : decide (((s.b.length : Nat) : Int) > 1)
  ·simp only [cond_false, Option.bind_some, e1]
   exact ⟨_, rfl⟩
  ·have h1 : 1 < s.b.length := by simp at hd; omega
   simp only [cond_true]
   rw [Za (show 0 < s.b.length by omega)]
   simp only [Option.bind_some]
   cases ((sat_ s 0).toNat : Int) == 45
   ·simp only [cond_false, e1, Option.bind_some]
    exact ⟨_, rfl⟩
   ·simp only [cond_true]
    rw [Za ⟨by omega, by omega⟩, e2]
    exact ⟨_, rfl⟩
 obtain ⟨n, hn⟩ := key
 unfold numM
 rw [hn]; rfl
theorem Zud {n : Int} (h0 : 0 ≤ n) (h1 : n ≤ 1000000000) : numM ⟨Lib.itoa n⟩ = n := by
 have hs := ZrN ⟨Lib.itoa n⟩
 unfold ZbY at hs
 rw [ZiY h0 h1] at hs
 have h45 : (sat_ ⟨Lib.itoa n⟩ 0).toNat ≠ 45 := by
  cases hi : Lib.itoa n with
  | nil => exact absurd hi (ZsC h0)
  | cons b r =>
   have := Zlg h0 (b := b) (by rw [hi]; simp)
   show b.toNat ≠ 45
   omega
 have hb : (((sat_ ⟨Lib.itoa n⟩ 0).toNat : Int) == 45) = false := by
  rw [beq_eq_false_iff_ne]
  omega
 rw [hb] at hs
 cases hd : decide ((((Lib.itoa n).length : Nat) : Int) > 1)
 ·rw [hd] at hs
  simp only [cond_false, Option.bind_some, Option.some.injEq] at hs
  exact hs.symm
 ·have h1 : 1 < (Lib.itoa n).length := by simp at hd; omega
  rw [hd] at hs
  simp only [cond_true] at hs
  rw [Za (show 0 < (Lib.itoa n).length by omega)] at hs
  simp only [cond_false, Option.bind_some, Option.some.injEq] at hs
  exact hs.symm
def nthN (p : List Str) (k : Nat) : Int := gx (((p.drop 1).map numM) ++ [0, 0]) k

theorem ZqB {p : List Str} {ok : Bool} (h1 : 1 ≤ p.length) (h3 : p.length ≤ 3) (hw : ∀ f ∈ p, f.b.length ≤ 600) : lpO (ZdW (p, ok)) (p.length - 1) ((gx p 0), ([] : List Int)) = some (⟨ZbB p⟩, (p.drop 1).map numM) := by
 have st : ∀ (k : Nat) (s : Str) (ns : List Int), k + 1 < p.length → s.b.length ≤ 10000 → ns.length ≤ 10 → ZdW (p, ok) k (s, ns) = some (.next (⟨s.b ++ (32 :: (gx p (k + 1)).b)⟩, ns ++ [numM (gx p (k + 1))])) := fun k s ns hk hs hn => by
  have hl := hw _ (Z3 hk)
  unfold ZdW
  rw [Za (by simp only [List.length_cons, List.length_nil]; omega), Za hk, Za (by simp only [sadd, List.length_append, List.length_cons, List.length_nil]; omega), ZrN]
  simp only [Option.bind_some]
  rw [Za (by omega)]
  simp [sadd]
 rcases len3 h1 h3 with ⟨x, rfl⟩ | ⟨x, y, rfl⟩ | ⟨x, y, z, rfl⟩
 ·simp [lpO, forO, ZbB, Zev, lpk, gx]
 ·have hx := hw x (by simp)
  have e : ([x, y] : List Str).length - 1 = 1 := rfl
  rw [e]
  unfold lpO
  rw [forO, st 0 _ _ (by simp) (by show x.b.length ≤ 10000; omega) (by simp)]
  simp [forO, ZbB, Zev, lpk, gx]
 ·have hx := hw x (by simp)
  have hy := hw y (by simp)
  have e : ([x, y, z] : List Str).length - 1 = 2 := rfl
  rw [e]
  unfold lpO
  rw [forO, st 0 _ _ (by simp) (by show x.b.length ≤ 10000; omega) (by simp)]
  simp only [Option.bind_some]
  rw [forO, st 1 _ _ (by simp) (by
   show (x.b ++ 32 :: y.b).length ≤ 10000
   simp only [List.length_append, List.length_cons]; omega) (by simp)]
  simp [forO, ZbB, Zev, lpk, gx]
theorem in13 (p : List Str) : ZI ((p.length : Nat) : Int) 1 3 = some (decide (((p.length : Nat) : Int) ≥ 1) && decide (((p.length : Nat) : Int) ≤ 3)) := rfl
def Zd8 (p : List Str) (k : Nat) : GAct := ⟨((k + 1 : Nat) : Int), nthN p 0, nthN p 1⟩
theorem ZqT {p : List Str} : forO (Zfi ((⟨ZbB p⟩ : Str), (p.drop 1).map numM)) 6 0 () = some (match (List.range 6).find? (fun k => ZaE (Zd8 p k) && seq (actL (Zd8 p k)) ⟨ZbB p⟩) with | some k => .inr (Zd8 p k, true) | none => .inl ()) :=
 Zqj (N := 6) (s := ()) (fun k => ZaE (Zd8 p k) && seq (actL (Zd8 p k)) ⟨ZbB p⟩) (fun k => (Zd8 p k, true)) fun k hk => by
  unfold Zfi
  rw [Za (by simp), Za (by simp)]
  have e : (GAct.mk (((k + 1) : Nat) : Int) (gx (((p.drop 1).map numM) ++ [0, 0]) 0) (gx (((p.drop 1).map numM) ++ [0, 0]) 1)) = Zd8 p k := rfl
  simp only [e]
  rw [Zns]
  unfold ZgT
  cases ho : ZaE (Zd8 p k)
  ·rfl
  ·simp only [cond_true, Option.bind_some, Bool.true_and]
   cases seq (actL (Zd8 p k)) ⟨ZbB p⟩ <;> rfl
theorem ZuD {l : Str} {a : GAct} (h : ZhE l a) : ∃ k, k < 6 ∧ Zd8 (ZG l).1 k = a := by
 obtain ⟨ho, hs, _, _, hj⟩ := h
 have hp := Zkw ho (fun f hf => (ZiS hs).2.2 f hf |>.1) hj
 rw [hp]
 have hn := ZjM ho
 obtain ⟨r1, r2⟩ := Zlb ho
 obtain ⟨hk, _⟩ := Zb9 ho
 obtain ⟨ak, aA, aB⟩ := a
 simp only at hk r1 r2
 unfold Zd8 nthN Zc6
 have mp : (((⟨Zb6 ak⟩ : Str) :: (Zbo ⟨ak, aA, aB⟩).map fun n => (⟨Lib.itoa n⟩ : Str)).drop 1).map numM = Zbo ⟨ak, aA, aB⟩ := by
  rw [List.drop_succ_cons, List.drop_zero, List.map_map]
  calc (Zbo ⟨ak, aA, aB⟩).map (numM ∘ fun n => (⟨Lib.itoa n⟩ : Str)) = (Zbo ⟨ak, aA, aB⟩).map id := List.map_congr_left fun n hm => Zud (hn n hm).1 (hn n hm).2
   _ = _ := by simp
 rw [mp]
 unfold Zbo
 rcases hk with rfl | rfl | rfl | rfl | rfl | rfl
 ·have := r1 (by omega); subst this; exact ⟨0, by omega, rfl⟩
 ·exact ⟨1, by omega, rfl⟩
 ·have := r1 (by omega); subst this; exact ⟨2, by omega, rfl⟩
 ·have := r1 (by omega); subst this; have := r2 (by omega); subst this; exact ⟨3, by omega, rfl⟩
 ·have := r1 (by omega); subst this; have := r2 (by omega); subst this; exact ⟨4, by omega, rfl⟩
 ·have := r1 (by omega); subst this; exact ⟨5, by omega, rfl⟩
theorem Zlt {s t : Str} : seq s t = true ↔ s.b = t.b := by unfold seq; simp
theorem ZjZ (l : Str) : (∀ a, ZhE l a → Zbw l = some (a, true)) ∧ ((∀ a, ¬ ZhE l a) → Zbw l = some (⟨0, 0, 0⟩, false)) := by
 unfold Zbw
 rw [Zit]
 simp only [Option.bind_some, in13]
 cases hs : (ZG l).2
 ·exact ⟨fun a h => absurd h.2.1 (by rw [hs]; simp), fun _ => rfl⟩
 ·cases hi : decide ((((ZG l).1.length : Nat) : Int) ≥ 1) && decide ((((ZG l).1.length : Nat) : Int) ≤ 3)
  ·refine ⟨fun a h => ?_, fun _ => rfl⟩
   have e1 : decide ((((ZG l).1.length : Nat) : Int) ≥ 1) = true := decide_eq_true (by have := h.2.2.1; omega)
   have e3 : decide ((((ZG l).1.length : Nat) : Int) ≤ 3) = true := decide_eq_true (by have := h.2.2.2.1; omega)
   rw [e1, e3] at hi
   cases hi
  ·simp only [Bool.and_eq_true, decide_eq_true_eq] at hi
   have h1 : 1 ≤ (ZG l).1.length := by omega
   have h3 : (ZG l).1.length ≤ 3 := by omega
   obtain ⟨_, _, hw⟩ := ZiS hs
   have hfind : ∀ k, k < 6 → (ZaE (Zd8 (ZG l).1 k) && seq (actL (Zd8 (ZG l).1 k)) ⟨ZbB (ZG l).1⟩) = true → ZhE l (Zd8 (ZG l).1 k) := fun k _ h => by
    simp only [Bool.and_eq_true] at h
    exact ⟨h.1, hs, h1, h3, (Zlt.1 h.2).symm⟩
   simp only [Bool.not_true, cond_false, Option.bind_some]
   rw [Za (by omega), Za (by omega)]
   have hl := ZqB (p := (ZG l).1) (ok := (ZG l).2) h1 h3 fun f hf => (hw f hf).2
   have e : ((ZG l).1, (ZG l).2) = ZG l := rfl
   rw [e] at hl
   rw [hl]
   simp only [Option.bind_some]
   rw [Za (by simp; omega), ZqT]
   cases hf : (List.range 6).find? (fun k => ZaE (Zd8 (ZG l).1 k) && seq (actL (Zd8 (ZG l).1 k)) ⟨ZbB (ZG l).1⟩) with
   | none =>
    refine ⟨fun a h => ?_, fun _ => rfl⟩
    obtain ⟨k, hk, e⟩ := ZuD h
    rw [List.find?_eq_none] at hf
    have := hf k (by simpa using hk)
    rw [e, h.1] at this
    simp only [Bool.true_and] at this
    exact absurd (Zlt.2 h.2.2.2.2.symm) this
   | some k =>
    have hk := hfind k (by simpa using List.mem_of_find?_eq_some hf) (List.find?_some (p := fun k => ZaE (Zd8 (ZG l).1 k) && seq (actL (Zd8 (ZG l).1 k)) ⟨ZbB (ZG l).1⟩) hf)
    exact ⟨fun a h => by rw [Zte h hk]; rfl, fun h => absurd hk (h _)⟩

theorem ZqD (p : List Str) (ok : Bool) (h1 : 1 ≤ p.length) : ∃ k : Int, lpO (ZdP (p, ok)) 7 0 = some k ∧ ∀ i : Int, (i = 1 ∨ i = 2 ∨ i = 3 ∨ i = 4 ∨ i = 5 ∨ i = 6) → gx p 0 = ⟨Zb6 i⟩ → k = i := by
 have st : ∀ (k : Nat) (s : Int), ZdP (p, ok) k s = some (.next (bif (seq (gx ([(⟨[]⟩ : Str), (⟨[97, 100, 109, 105, 116]⟩ : Str), (⟨[115, 117, 98, 109, 105, 116]⟩ : Str), (⟨[115, 101, 119]⟩ : Str), (⟨[114, 111, 117, 110, 100]⟩ : Str), (⟨[121, 101, 97, 114]⟩ : Str), (⟨[108, 97, 99, 107]⟩ : Str)] : List Str) k) (gx p 0)) then ((k : Nat) : Int) else s)) := fun k s => by
  unfold ZdP
  rw [Za (show 0 < p.length by omega)]
 unfold lpO
 simp only [forO, st, Option.bind_some, Option.map_some, lpk]
 refine ⟨_, rfl, fun i hi hw => ?_⟩
 rw [hw]
 rcases hi with rfl | rfl | rfl | rfl | rfl | rfl <;> rfl
theorem Zpa {p : List Str} (h1 : 1 ≤ p.length) (h3 : p.length ≤ 3) (hw : ∀ f ∈ p, f.b.length ≤ 600) : strings_Join p ⟨[32]⟩ = some ⟨ZbB p⟩ := by
 have hj : Lib.join (p.map Str.b) [32] = ZbB p := Zup p
 have hl : (ZbB p).length ≤ 10000 := by
  rcases len3 h1 h3 with ⟨x, rfl⟩ | ⟨x, y, rfl⟩ | ⟨x, y, z, rfl⟩
  ·have := hw x (by simp)
   simp [ZbB, Zev]; omega
  ·have := hw x (by simp)
   have := hw y (by simp)
   simp [ZbB, Zev]; omega
  ·have := hw x (by simp)
   have := hw y (by simp)
   have := hw z (by simp)
   simp [ZbB, Zev]; omega
 unfold strings_Join
 simp only [hj]
 rw [Za ⟨by omega, by omega⟩]
def endM (p : List Str) (e : Int × Int × Int) : GAct × Bool := bif ZaE ⟨e.1, e.2.1, e.2.2⟩ && seq (actL ⟨e.1, e.2.1, e.2.2⟩) ⟨ZbB p⟩ then (⟨e.1, e.2.1, e.2.2⟩, true) else (⟨0, 0, 0⟩, false)
theorem ZqG {p : List Str} {ok : Bool} (e1 : Int) :
  forO (Zax (p, ok)) ((p.drop 1).take (p.length - 1)).length 0 (e1, 0, 0) = some (.inr ((⟨0, 0, 0⟩ : GAct), false)) ∨
  ∃ e : Int × Int × Int, forO (Zax (p, ok)) ((p.drop 1).take (p.length - 1)).length 0 (e1, 0, 0) = some (.inl e) := by
 have st : ∀ (k : Nat) (s : Int × Int × Int), Zax (p, ok) k s = some (.ret ((⟨0, 0, 0⟩ : GAct), false)) ∨ ∃ s', Zax (p, ok) k s = some (.next s') := fun k s => by
  obtain ⟨r, _, hr⟩ := Zh3 (gx ((p.drop 1).take (p.length - 1)) k)
  unfold Zax
  simp only [hr, Option.bind_some]
  cases r.2
  ·exact .inl rfl
  ·exact .inr ⟨_, rfl⟩
 have key : ∀ (m k : Nat) (s : Int × Int × Int), forO (Zax (p, ok)) m k s = some (.inr ((⟨0, 0, 0⟩ : GAct), false)) ∨ ∃ e : Int × Int × Int, forO (Zax (p, ok)) m k s = some (.inl e) := by
  intro m
  induction m with
  | zero => exact fun k s => .inr ⟨s, rfl⟩
  | succ m ih =>
   intro k s
   rw [forO]
   rcases st k s with h | ⟨s', h⟩
   ·rw [h]; exact .inl rfl
   ·rw [h]; exact ih (k + 1) s'
 exact key _ _ _
theorem Zri {l : Str} {a : GAct} (h : ZhE l a) (ok : Bool) : forO (Zax ((ZG l).1, ok)) (((ZG l).1.drop 1).take ((ZG l).1.length - 1)).length 0 (a.Kind, 0, 0) = some (.inl (a.Kind, a.A, a.B)) := by
 obtain ⟨ho, hs, _, _, hj⟩ := h
 have hp := Zkw ho (fun f hf => (ZiS hs).2.2 f hf |>.1) hj
 rw [hp]
 have hn := ZjM ho
 obtain ⟨r1, r2⟩ := Zlb ho
 obtain ⟨hk, _⟩ := Zb9 ho
 have hd : (((⟨Zb6 a.Kind⟩ : Str) :: Zc6 a).drop 1).take (((⟨Zb6 a.Kind⟩ : Str) :: Zc6 a).length - 1) = Zc6 a := by simp
 have st : ∀ (k : Nat) (s : Int × Int × Int) (n : Int), 0 ≤ n → n ≤ 1000000000 → gx (Zc6 a) k = ⟨Lib.itoa n⟩ → Zax ((⟨Zb6 a.Kind⟩ :: Zc6 a), ok) k s = some (.next (s.1, (bif ((k : Nat) : Int) == 0 then n else s.2.1), (bif ((k : Nat) : Int) == 0 then s.2.2 else n))) := fun k s n h0 h1 hg => by
  unfold Zax
  simp only [hd, hg, Zi8 h0 h1, Option.bind_some, Bool.not_true, cond_false]
  cases ((k : Nat) : Int) == 0 <;> rfl
 rw [hd]
 have e0 : (((0 : Nat) : Int) == 0) = true := rfl
 have e1 : (((0 + 1 : Nat) : Int) == 0) = false := rfl
 cases h2 : a.Kind == 2
 ·have n2 : a.Kind ≠ 2 := by simpa using h2
  cases h4 : a.Kind == 4 || a.Kind == 5
  ·have ea : Zc6 a = [⟨Lib.itoa a.A⟩] := by unfold Zc6 Zbo; rw [h2, h4]; rfl
   have eb : Zbo a = [a.A] := by unfold Zbo; rw [h2, h4]; rfl
   have hA := hn a.A (by rw [eb]; simp)
   have hlen : (Zc6 a).length = 1 := by rw [ea]; rfl
   rw [hlen, forO, st 0 _ a.A hA.1 hA.2 (by rw [ea]; rfl)]
   simp only [Option.bind_some, forO, e0, cond_true, r1 n2]
  ·have hk4 : a.Kind = 4 ∨ a.Kind = 5 := by
    simp only [Bool.or_eq_true, beq_iff_eq] at h4
    exact h4
   have ea : Zc6 a = [] := by unfold Zc6 Zbo; rw [h2, h4]; rfl
   rw [ea, r1 n2, r2 hk4]
   rfl
 ·have ea : Zc6 a = [⟨Lib.itoa a.A⟩, ⟨Lib.itoa a.B⟩] := by unfold Zc6 Zbo; rw [h2]; rfl
  have eb : Zbo a = [a.A, a.B] := by unfold Zbo; rw [h2]; rfl
  have hA := hn a.A (by rw [eb]; simp)
  have hB := hn a.B (by rw [eb]; simp)
  have hlen : (Zc6 a).length = 2 := by rw [ea]; rfl
  rw [hlen, forO, st 0 _ a.A hA.1 hA.2 (by rw [ea]; rfl)]
  simp only [Option.bind_some, e0, cond_true]
  rw [forO, st (0 + 1) _ a.B hB.1 hB.2 (by rw [ea]; rfl)]
  simp only [Option.bind_some, forO, e1, cond_false]
theorem ZjE (l : Str) : (∀ a, ZhE l a → Zcw l = some (a, true)) ∧ ((∀ a, ¬ ZhE l a) → Zcw l = some (⟨0, 0, 0⟩, false)) := by
 unfold Zcw
 rw [Zix]
 simp only [Option.bind_some, Zja]
 cases hs : (ZG l).2
 ·exact ⟨fun a h => absurd h.2.1 (by rw [hs]; simp), fun _ => rfl⟩
 ·cases hi : decide ((((ZG l).1.length : Nat) : Int) ≥ 1) && decide ((((ZG l).1.length : Nat) : Int) ≤ 3)
  ·refine ⟨fun a h => ?_, fun _ => rfl⟩
   have e1 : decide ((((ZG l).1.length : Nat) : Int) ≥ 1) = true := decide_eq_true (by have := h.2.2.1; omega)
   have e3 : decide ((((ZG l).1.length : Nat) : Int) ≤ 3) = true := decide_eq_true (by have := h.2.2.2.1; omega)
   rw [e1, e3] at hi
   cases hi
  ·simp only [Bool.and_eq_true, decide_eq_true_eq] at hi
   have h1 : 1 ≤ (ZG l).1.length := by omega
   have h3 : (ZG l).1.length ≤ 3 := by omega
   obtain ⟨_, _, hw⟩ := ZiS hs
   have e : ((ZG l).1, (ZG l).2) = ZG l := rfl
   obtain ⟨kk, k1, k2⟩ := ZqD (ZG l).1 (ZG l).2 h1
   rw [e] at k1
   simp only [Bool.not_true, cond_false, Option.bind_some]
   rw [Za (by simp), show ([(⟨[]⟩ : Str), (⟨[97, 100, 109, 105, 116]⟩ : Str), (⟨[115, 117, 98, 109, 105, 116]⟩ : Str), (⟨[115, 101, 119]⟩ : Str), (⟨[114, 111, 117, 110, 100]⟩ : Str), (⟨[121, 101, 97, 114]⟩ : Str), (⟨[108, 97, 99, 107]⟩ : Str)] : List Str).length = 7 from rfl, k1]
   simp only [Option.bind_some]
   rw [Za ⟨h1, Nat.le_refl _⟩, Za (by simp; omega)]
   have fin : ∀ e : Int × Int × Int, ((ZdK (GAct.mk e.1 e.2.1 e.2.2)).bind fun v4 => (bif (!v4.2) then some true else (strings_Join (ZG l).1 (⟨[32]⟩ : Str)).bind fun v5 => some (!(seq v4.1 v5))).bind fun j4 => bif j4 then some ((GAct.mk 0 0 0), false) else some ((GAct.mk e.1 e.2.1 e.2.2), true)) = some (endM (ZG l).1 e) := fun e => by
    rw [Zna, Zpa h1 h3 fun f hf => (hw f hf).2]
    unfold ZgT endM
    cases ZaE (GAct.mk e.1 e.2.1 e.2.2)
    ·rfl
    ·simp only [cond_true, Option.bind_some, Bool.true_and, Bool.not_true, cond_false]
     cases seq (actL (GAct.mk e.1 e.2.1 e.2.2)) ⟨ZbB (ZG l).1⟩ <;> rfl
   constructor
   ·intro a h
    have hp := Zkw h.1 (fun f hf => (hw f hf).1) h.2.2.2.2
    have hkk := k2 a.Kind (Zb9 h.1).1 (by rw [hp]; rfl)
    have hy := Zri h (ZG l).2
    rw [e] at hy
    rw [hkk, hy]
    simp only [Zdg]
    rw [fin (a.Kind, a.A, a.B)]
    have es : seq (actL a) ⟨ZbB (ZG l).1⟩ = true := Zlt.2 h.2.2.2.2.symm
    have ea : (⟨a.Kind, a.A, a.B⟩ : GAct) = a := rfl
    unfold endM
    simp only [ea, h.1, es, Bool.and_self, cond_true]
   ·intro h
    have hc := ZqG (p := (ZG l).1) (ok := (ZG l).2) kk
    rw [e] at hc
    rcases hc with hc | ⟨v, hc⟩
    ·rw [hc]; rfl
    ·rw [hc]
     simp only [Zdg]
     rw [fin v]
     unfold endM
     cases hx : ZaE ⟨v.1, v.2.1, v.2.2⟩ && seq (actL ⟨v.1, v.2.1, v.2.2⟩) ⟨ZbB (ZG l).1⟩
     ·rfl
     ·simp only [Bool.and_eq_true] at hx
      exact absurd ⟨hx.1, hs, h1, h3, (Zlt.1 hx.2).symm⟩ (h ⟨v.1, v.2.1, v.2.2⟩)

theorem Zwy (l : Str) : (∃ a, ZhE l a) ∨ ∀ a, ¬ ZhE l a := (Classical.em (∃ a, ZhE l a)).elim .inl fun h => .inr fun a k => h ⟨a, k⟩
theorem ZlJ (l : Str) : ∃ w : GAct × Bool, Zbw l = some w ∧ Zcw l = some w := by
 rcases Zwy l with ⟨a, h⟩ | h
 ·exact ⟨_, (ZjZ l).1 a h, (ZjE l).1 a h⟩
 ·exact ⟨_, (ZjZ l).2 h, (ZjE l).2 h⟩
theorem ZjK (sg : Bool) : ∀ (k m : Nat), m < 10 ^ k → 0 < m → m ≤ 9223372036854775808 → ∀ (s : Str) (fuel : Nat), s.b.length + k ≤ 1000 → k + 1 < fuel → whO Zal fuel ((bif sg then -((m : Nat) : Int) else ((m : Nat) : Int)), s) = some (.inl (0, ⟨Lib.decDigits m ++ s.b⟩))
 | 0, m, h, hm, _, _, _, _, _ => absurd h (by simp; omega)
 | k + 1, m, h, hm, hb, s, fuel, hs, hf => by
  obtain ⟨fuel, rfl⟩ : ∃ q, fuel = q + 1 := ⟨fuel - 1, by omega⟩
  have hne : ((bif sg then -((m : Nat) : Int) else ((m : Nat) : Int)) != 0) = true := by
   cases sg <;> simp <;> omega
  have h2 : (m : Int).tmod 10 = ((m % 10 : Nat) : Int) := rfl
  have h3 : (m : Int).tdiv 10 = ((m / 10 : Nat) : Int) := rfl
  have hd : (bif decide ((bif sg then -((m : Nat) : Int) else ((m : Nat) : Int)).tmod 10 < 0) then wr (0 - (bif sg then -((m : Nat) : Int) else ((m : Nat) : Int)).tmod 10) else (bif sg then -((m : Nat) : Int) else ((m : Nat) : Int)).tmod 10) = ((m % 10 : Nat) : Int) := by
   cases sg
   ·simp only [cond_false, h2]
    rw [decide_eq_false (by omega), cond_false]
   ·simp only [cond_true, Int.neg_tmod, h2]
    cases hz : decide (-((m % 10 : Nat) : Int) < 0)
    ·have : ¬ (-((m % 10 : Nat) : Int) < 0) := by simpa using hz
     simp only [cond_false]; omega
    ·simp only [cond_true]
     rw [Z6 (by omega) (by omega)]; omega
  have hq : wr ((bif sg then -((m : Nat) : Int) else ((m : Nat) : Int)).tdiv 10) = (bif sg then -((m / 10 : Nat) : Int) else ((m / 10 : Nat) : Int)) := by
   cases sg
   ·simp only [cond_false, h3]
    exact Z6 (by omega) (by omega)
   ·simp only [cond_true, Int.neg_tdiv, h3]
    exact Z6 (by omega) (by omega)
  have hstep : Zal ((bif sg then -((m : Nat) : Int) else ((m : Nat) : Int)), s) = some (.next ((bif sg then -((m / 10 : Nat) : Int) else ((m / 10 : Nat) : Int)), ⟨UInt8.ofNat (48 + m % 10) :: s.b⟩)) := by
   unfold Zal
   simp only [hne, cond_true, hd]
   rw [ZnE (by omega)]
   simp only [Option.bind_some, List.length_cons, List.length_nil]
   rw [Za (by omega), hq]
   rfl
  rw [whO, hstep]
  simp only [Option.bind_some]
  by_cases h10 : m < 10
  ·obtain ⟨fuel, rfl⟩ : ∃ q, fuel = q + 1 := ⟨fuel - 1, by omega⟩
   have e0 : m / 10 = 0 := by omega
   have e1 : m % 10 = m := by omega
   have e2 : (bif sg then -((0 : Nat) : Int) else ((0 : Nat) : Int)) = 0 := by cases sg <;> rfl
   rw [e0, e1, e2, Lib.decDigits, dif_pos h10, whO]
   rfl
  ·rw [ZjK sg k (m / 10) (by rw [Nat.pow_succ] at h; omega) (by omega) (by omega) _ fuel (by simp only [List.length_cons]; omega) (by omega)]
   rw [show Lib.decDigits m = Lib.decDigits (m / 10) ++ [UInt8.ofNat (48 + m % 10)] by rw [Lib.decDigits, dif_neg h10]]
   simp
theorem Zmk {n : Int} (h0 : -9223372036854775808 ≤ n) (h1 : n ≤ 9223372036854775807) : ZB n = some ⟨Lib.itoa n⟩ := by
 have p20 : (10 : Nat) ^ 20 = 100000000000000000000 := by decide
 unfold ZB
 by_cases hz : n = 0
 ·subst hz
  unfold Lib.itoa
  rw [if_neg (by omega), Int.toNat_zero, Lib.decDigits]
  rfl
 ·have hb : (n == 0) = false := by simpa using hz
  rw [hb, cond_false]
  unfold wlO
  by_cases hn : n < 0
  ·have e : n = -((n.natAbs : Nat) : Int) := by omega
   have key := ZjK true 20 n.natAbs (by omega) (by omega) (by omega) ⟨[]⟩ 18446744073709551616 (by simp only [List.length_nil]; omega) (by omega)
   simp only [cond_true] at key
   rw [← e] at key
   rw [key, decide_eq_true hn]
   simp only [Option.map_some, lpk, Option.bind_some, cond_true]
   have hl := ZkQ 19 n.natAbs (by omega)
   rw [Za (by simp only [List.append_nil, List.length_cons, List.length_nil]; omega)]
   unfold Lib.itoa
   rw [if_pos hn]
   simp [sadd]
  ·have e : n = ((n.toNat : Nat) : Int) := by omega
   have key := ZjK false 20 n.toNat (by omega) (by omega) (by omega) ⟨[]⟩ 18446744073709551616 (by simp only [List.length_nil]; omega) (by omega)
   simp only [cond_false] at key
   rw [← e] at key
   rw [key, decide_eq_false hn]
   simp only [Option.map_some, lpk, Option.bind_some, cond_false]
   unfold Lib.itoa
   rw [if_neg hn]
   simp
theorem ZmE {n : Int} (h0 : -9223372036854775808 ≤ n) (h1 : n ≤ 9223372036854775807) : Zak n = some ⟨Lib.itoa n⟩ := by
 unfold Zak ZeQ
 rw [Za ⟨h0, h1⟩]
 rfl
theorem ZsN {n : Int} (h0 : -9223372036854775808 ≤ n) (h1 : n ≤ 9223372036854775807) : (Lib.itoa n).length ≤ 100 := by
 have p20 : (10 : Nat) ^ (19 + 1) = 100000000000000000000 := by decide
 unfold Lib.itoa
 split
 ·have := ZkQ 19 n.natAbs (by omega)
  simp only [List.length_cons]; omega
 ·have := ZkQ 19 n.toNat (by omega)
  omega

def Zbs : List UInt8 → List UInt8 → List Str
 | [], c => [⟨c⟩]
 | x :: r, c => bif x == 10 then ⟨c⟩ :: Zbs r [] else Zbs r (c ++ [x])
theorem Zlz : ∀ (w r c : List UInt8), (∀ x ∈ w, (x == 10) = false) → Zbs (w ++ r) c = Zbs r (c ++ w)
 | [], r, c, _ => by simp
 | x :: w, r, c, h => by
  rw [List.cons_append, Zbs, h x (by simp), cond_false, Zlz w r (c ++ [x]) fun y hy => h y (by simp [hy])]
  simp
theorem Zmq : ∀ (r c : List UInt8), (Zbs r c).length ≤ r.length + 1
 | [], _ => by simp [Zbs]
 | x :: r, c => by
  unfold Zbs
  cases x == 10
  ·have := Zmq r (c ++ [x])
   simp only [cond_false, List.length_cons]; omega
  ·have := Zmq r []
   simp only [cond_true, List.length_cons]; omega
theorem Zmt : ∀ (n : Nat) (s : List UInt8), s.count 10 = n → (Lib.splitK [10] 0 n s).map Str.mk = Zbs s []
 | 0, s, h => by
  have hno : ∀ x ∈ s, (x == 10) = false := fun x hx => by
   rw [beq_eq_false_iff_ne]
   intro e
   subst e
   exact absurd hx (List.count_eq_zero.1 h)
  have := Zlz s [] [] hno
  rw [List.append_nil] at this
  rw [this]
  rfl
 | n + 1, s, h => by
  have hmem : (10 : UInt8) ∈ s := List.count_pos_iff.1 (by omega)
  have hix : Lib.index s [10] = Lib.indexByte s 10 := Lib.index_one s 10
  have hge := Lib.indexByte_ge s 10
  have hne : Lib.indexByte s 10 ≠ -1 := fun e => by
   obtain ⟨k, hk⟩ := List.mem_iff_getElem?.1 hmem
   exact Lib.indexByte_none e k hk
  obtain ⟨i, hi⟩ : ∃ i : Nat, Lib.indexByte s 10 = i := ⟨(Lib.indexByte s 10).toNat, by omega⟩
  obtain ⟨h1, h2⟩ := Lib.indexByte_some hi
  have hlt : i < s.length := (List.getElem?_eq_some_iff.1 h1).1
  have hsi : s[i] = 10 := (List.getElem?_eq_some_iff.1 h1).2
  have hs : s = s.take i ++ 10 :: s.drop (i + 1) := by
   rw [← hsi, ← List.drop_eq_getElem_cons hlt, List.take_append_drop]
  have hfree : ∀ x ∈ s.take i, (x == 10) = false := fun x hx => by
   rw [beq_eq_false_iff_ne]
   intro e
   subst e
   obtain ⟨k, hk⟩ := List.mem_iff_getElem?.1 hx
   rw [List.getElem?_take] at hk
   split at hk
   ·rename_i hki
    exact h2 k hki hk
   ·cases hk
  have hcount : (s.drop (i + 1)).count 10 = n := by
   have h0 : (s.take i).count 10 = 0 := List.count_eq_zero.2 fun hm => by
    have := hfree _ hm
    simp at this
   rw [hs, List.count_append, List.count_cons_self, h0] at h
   omega
  have e1 : Lib.splitK [10] 0 (n + 1) s = s.take i :: Lib.splitK [10] 0 n (s.drop (i + 1)) := by
   rw [Lib.splitK, hix, hi]
   have hb : (((i : Nat) : Int) == -1) = false := by rw [beq_eq_false_iff_ne]; omega
   rw [hb]
   simp
  rw [e1, List.map_cons, Zmt n _ hcount]
  have e2 : Zbs s [] = Zbs (s.take i ++ 10 :: s.drop (i + 1)) [] := congrArg (fun x => Zbs x []) hs
  rw [e2, Zlz _ _ _ hfree, List.nil_append, Zbs]
  have h10 : ((10 : UInt8) == 10) = true := rfl
  rw [h10, cond_true]
theorem Zsb (t : Str) : Zrn t ⟨[10]⟩ = Zbs t.b [] := by
 unfold Zrn
 have hd := Lib.splitB_data (⟨([10] : List UInt8).toArray⟩ : ByteArray) 0 (Lib.countB ⟨t.b.toArray⟩ ⟨([10] : List UInt8).toArray⟩) ⟨t.b.toArray⟩
 have hc : Lib.countB ⟨t.b.toArray⟩ ⟨([10] : List UInt8).toArray⟩ = t.b.count 10 := by
  show Lib.count _ _ = _
  have := Lib.count_one 10 t.b
  simpa using this
 have e : ∀ l : List ByteArray, (l.map fun x => (⟨x.data.toList⟩ : Str)) = (l.map (·.data.toList)).map Str.mk := fun l => by rw [List.map_map]; rfl
 rw [e, hd, hc]
 have := Zmt (t.b.count 10) t.b rfl
 simpa using this

def Zbt (l : Str) : GAct × Bool := (Zbw l).getD (⟨0, 0, 0⟩, false)
theorem ZnY (l : Str) : Zbw l = some (Zbt l) := by
 obtain ⟨w, h1, _⟩ := ZlJ l
 unfold Zbt
 rw [h1]; rfl
theorem Zop (l : Str) : Zcw l = some (Zbt l) := by
 obtain ⟨w, h1, h2⟩ := ZlJ l
 unfold Zbt
 rw [h1, h2]; rfl
def Zhr (l : Str) : Bool := (ZG l).2 && ((((ZG l).1.length : Nat) : Int) == 0)
def accF : List Str → List GAct → Option (List GAct)
 | [], acc => some acc
 | l :: r, acc => bif Zhr l then accF r acc else bif (!(Zbt l).2) then none else accF r (acc ++ [(Zbt l).1])
def accR (o : Option (List GAct)) {S : Type} (f : List GAct → S) : S ⊕ (List Str × Bool) := match o with
 | some a => .inl (f a)
 | none => .inr (([] : List Str), false)
theorem ZiI (t : Str) (hl : t.b.length ≤ 20000) : ∀ (m k b : Nat) (c : List UInt8) (acc : List GAct), k + m = t.b.length + 1 → b + c.length = k → (t.b.drop b).take c.length = c → acc.length ≤ k → k ≤ t.b.length →
  forO (Zdn t) m k ((b : Int), acc) = some (accR (accF (Zbs (t.b.drop k) c) acc) fun a => (((t.b.length + 1 : Nat) : Int), a))
 | 0, k, b, c, acc, hk, _, _, _, hle => by omega
 | m + 1, k, b, c, acc, hk, hb, hc, hd, hle => by
  have hsub : ssub t b k = ⟨c⟩ := by unfold ssub; rw [show k - b = c.length by omega, hc]
  have fin : (gd (0 ≤ (b : Int) ∧ ((b : Int)).toNat ≤ k ∧ k ≤ t.b.length) <| (ZbV (ssub t (((b : Int)).toNat) k)).bind fun v1 => bif (v1.2 && (((v1.1.length : Nat) : Int) == 0)) then some (Res.next (((k + 1 : Nat) : Int), acc)) else (Zbw (ssub t (((b : Int)).toNat) k)).bind fun v2 => bif (!v2.2) then some (.ret (([] : List Str), false)) else gd (acc.length + 1 ≤ 1099511627776) <| some (.next (((k + 1 : Nat) : Int), (acc ++ [v2.1])))) = some (bif Zhr ⟨c⟩ then .next (((k + 1 : Nat) : Int), acc) else bif (!(Zbt ⟨c⟩).2) then .ret (([] : List Str), false) else .next (((k + 1 : Nat) : Int), acc ++ [(Zbt ⟨c⟩).1])) := by
   rw [Za ⟨by omega, by omega, hle⟩, Int.toNat_natCast, hsub, Zit, ZnY]
   simp only [Option.bind_some]
   rw [Za (by omega)]
   show (bif Zhr ⟨c⟩ then _ else _) = _
   cases Zhr ⟨c⟩
   ·simp only [cond_false]
    cases (Zbt ⟨c⟩).2 <;> rfl
   ·rfl
  rw [forO]
  rcases Nat.lt_or_ge k t.b.length with hlt | hge
  ·have hk1 : decide (((k : Nat) : Int) < ((t.b.length : Nat) : Int)) = true := decide_eq_true (by omega)
   have hsat : sat_ (⟨t.b⟩ : Str) k = sat_ t k := rfl
   have b10 : ((((sat_ t k)).toNat : Int) != 10) = !(sat_ t k == 10) := by
    by_cases h : sat_ t k = 10
    ·rw [h]; rfl
    ·have e : (10 : UInt8).toNat = 10 := rfl
     have h1 : (sat_ t k == 10) = false := by rw [beq_eq_false_iff_ne]; exact h
     have h2 : (sat_ t k).toNat ≠ (10 : UInt8).toNat := fun e => h (UInt8.toNat_inj.1 e)
     rw [h1]
     simp only [Bool.not_false, bne_iff_ne, ne_eq]
     omega
   rw [Zlr hlt, hsat]
   unfold Zdn
   simp only [hk1, cond_true, Za hlt, b10, Option.bind_some, fin, Zbs]
   cases h3 : sat_ t k == 10
   ·simp only [Bool.not_false, cond_true, cond_false, Option.bind_some]
    exact ZiI t hl m (k + 1) b (c ++ [sat_ t k]) acc (by omega) (by rw [List.length_append, List.length_singleton]; omega) (Zmw hlt hb hc) (by omega) (by omega)
   ·simp only [Bool.not_true, cond_true, cond_false, accF]
    cases Zhr ⟨c⟩
    ·cases (Zbt ⟨c⟩).2
     ·rfl
     ·simp only [cond_false, Bool.not_true, Option.bind_some]
      exact ZiI t hl m (k + 1) (k + 1) [] _ (by omega) (by simp) (by simp) (by rw [List.length_append, List.length_singleton]; omega) (by omega)
    ·simp only [cond_true, Option.bind_some]
     exact ZiI t hl m (k + 1) (k + 1) [] _ (by omega) (by simp) (by simp) (by omega) (by omega)
  ·have e : k = t.b.length := by omega
   have hk1 : decide (((k : Nat) : Int) < ((t.b.length : Nat) : Int)) = false := decide_eq_false (by omega)
   have e0 : m = 0 := by omega
   subst e0
   have hdr : t.b.drop k = [] := by rw [e, List.drop_length]
   unfold Zdn
   simp only [hk1, cond_false, Option.bind_some, fin, hdr, Zbs, accF]
   rw [e]
   cases Zhr ⟨c⟩
   ·cases (Zbt ⟨c⟩).2
    ·rfl
    ·rfl
   ·rfl
theorem ZkA (v : List Str) (hl : v.length ≤ 20001) : ∀ (m k : Nat) (acc : List GAct), k + m = v.length → acc.length ≤ k →
  forO (Zdi v) m k acc = some (accR (accF (v.drop k) acc) fun a => a)
 | 0, k, acc, hk, _ => by
  rw [List.drop_of_length_le (by omega)]; rfl
 | m + 1, k, acc, hk, hd => by
  have hlt : k < v.length := by omega
  have hdr : v.drop k = gx v k :: v.drop (k + 1) := by rw [Zbq hlt]; exact List.drop_eq_getElem_cons hlt
  have hst : Zdi v k acc = some (bif Zhr (gx v k) then .next acc else bif (!(Zbt (gx v k)).2) then .ret (([] : List Str), false) else .next (acc ++ [(Zbt (gx v k)).1])) := by
   unfold Zdi
   rw [Zix, Zop]
   simp only [Option.bind_some]
   rw [Za (by omega)]
   show (bif Zhr (gx v k) then _ else _) = _
   cases Zhr (gx v k)
   ·simp only [cond_false]
    cases (Zbt (gx v k)).2 <;> rfl
   ·rfl
  rw [forO, hst, hdr, accF]
  cases Zhr (gx v k)
  ·cases (Zbt (gx v k)).2
   ·rfl
   ·simp only [cond_false, Bool.not_true, Option.bind_some]
    exact ZkA v hl m (k + 1) _ (by omega) (by rw [List.length_append, List.length_singleton]; omega)
  ·simp only [cond_true, Option.bind_some]
   exact ZkA v hl m (k + 1) _ (by omega) (by omega)

theorem Zvj {J C : Type} {x : Option (J ⊕ C)} {k : J → Option C} {w : C} (h : sq x k = some w) : (∃ j, x = some (.inl j) ∧ k j = some w) ∨ x = some (.inr w) := by
 cases x with
 | none => cases h
 | some y =>
  cases y with
  | inl j => exact .inl ⟨j, rfl, h⟩
  | inr c =>
   have e : some c = some w := h
   exact .inr (by rw [Option.some.inj e])
theorem Zul (n : Int) : -9223372036854775808 ≤ wr n ∧ wr n ≤ 9223372036854775807 := by
 rw [ZuO]
 omega
theorem Zu8 {f : Nat → Int → Option (Res Int Empty)} (hf : ∀ k s, ∃ s', f k s = some (.next s') ∧ -9223372036854775808 ≤ s' ∧ s' ≤ 9223372036854775807) {N : Nat} {s e : Int} (hs : -9223372036854775808 ≤ s ∧ s ≤ 9223372036854775807) (h : lpO f N s = some e) : -9223372036854775808 ≤ e ∧ e ≤ 9223372036854775807 := by
 have key : ∀ (m k : Nat) (s : Int), -9223372036854775808 ≤ s ∧ s ≤ 9223372036854775807 → ∃ s', forO f m k s = some (.inl s') ∧ -9223372036854775808 ≤ s' ∧ s' ≤ 9223372036854775807 := by
  intro m
  induction m with
  | zero => exact fun k s hs => ⟨s, rfl, hs⟩
  | succ m ih =>
   intro k s _
   obtain ⟨s', h1, h2⟩ := hf k s
   rw [forO, h1]
   exact ih (k + 1) s' h2
 obtain ⟨s', h1, h2⟩ := key N 0 s hs
 unfold lpO at h
 rw [h1] at h
 have e2 : some s' = some e := h
 rw [← Option.some.inj e2]
 exact h2
theorem Zum {g : GGuild} {k n : Int} (h : ZhU g k = some n) : -9223372036854775808 ≤ n ∧ n ≤ 9223372036854775807 := by
 unfold ZhU at h
 obtain ⟨v1, _, h⟩ := Option.bind_eq_some_iff.1 h
 cases v1
 ·rw [Bool.not_false, cond_true] at h
  have e := Option.some.inj h
  omega
 ·rw [Bool.not_true, cond_false] at h
  unfold gd at h
  split at h
  ·obtain ⟨v2, _, h⟩ := Option.bind_eq_some_iff.1 h
   obtain ⟨v3, _, h⟩ := Option.bind_eq_some_iff.1 h
   split at h
   ·obtain ⟨e1, h1, h⟩ := Option.bind_eq_some_iff.1 h
    have e := Option.some.inj h
    rw [← e]
    exact Zu8 (fun k s => ⟨_, rfl, Zul _⟩) (by omega) h1
   ·cases h
  ·cases h
theorem ZvY {g : GGuild} {a : GAct} {w : GGuild × Int} (h : ZcY g a = some w) : -9223372036854775808 ≤ w.2 ∧ w.2 ≤ 9223372036854775807 := by
 unfold ZcY at h
 obtain ⟨j1, _, h⟩ := Option.bind_eq_some_iff.1 h
 cases j1
 ·rw [cond_false] at h
  obtain ⟨v4, _, h⟩ := Option.bind_eq_some_iff.1 h
  rcases Zvj h with ⟨j, _, h⟩ | h
  ·cases hj : j.1
   ·rw [hj, cond_false] at h
    have e := Option.some.inj h
    rw [← e]
    exact ⟨by simp only; omega, by simp only; omega⟩
   ·rw [hj, cond_true] at h
    have e := Option.some.inj h
    rw [← e]
    exact ⟨by simp only; omega, by simp only; omega⟩
  ·have nl : ∀ {α : Type} {x : Option α} {f : α → Bool × GGuild} {c : GGuild × Int}, (x.bind fun v => some (Sum.inl (f v) : (Bool × GGuild) ⊕ (GGuild × Int))) ≠ some (.inr c) := fun {α x f c} e => by
    obtain ⟨v, _, e⟩ := Option.bind_eq_some_iff.1 e
    cases e
   cases k1 : a.Kind == 1
   ·cases k2 : a.Kind == 2
    ·cases k3 : a.Kind == 3
     ·cases k4 : a.Kind == 4
      ·cases k5 : a.Kind == 5
       ·rw [k1, k2, k3, k4, k5] at h
        simp only [cond_false] at h
        obtain ⟨v, hv, h⟩ := Option.bind_eq_some_iff.1 h
        have e := Sum.inr.inj (Option.some.inj h)
        rw [← e]
        exact Zum hv
       ·rw [k1, k2, k3, k4, k5] at h
        exact absurd h nl
      ·rw [k1, k2, k3, k4] at h
       exact absurd h nl
     ·rw [k1, k2, k3] at h
      exact absurd h nl
    ·rw [k1, k2] at h
     simp only [cond_false, cond_true] at h
     obtain ⟨v, _, h⟩ := Option.bind_eq_some_iff.1 h
     obtain ⟨v, _, h⟩ := Option.bind_eq_some_iff.1 h
     exact absurd h nl
   ·rw [k1] at h
    exact absurd h nl
 ·rw [cond_true] at h
  obtain ⟨v3, _, h⟩ := Option.bind_eq_some_iff.1 h
  have e := Option.some.inj h
  rw [← e]
  exact ⟨by simp only; omega, by simp only; omega⟩
theorem Zsf {g : GGuild} (h : Sm.ok g) (acts : List GAct) : ∀ k, ∀ n ∈ (runM g acts k).1, -9223372036854775808 ≤ n ∧ n ≤ 9223372036854775807
 | 0, n, hn => by cases hn
 | k + 1, n, hn => by
  rcases List.mem_append.1 hn with h1 | h1
  ·exact Zsf h acts k n h1
  ·rw [List.mem_singleton.1 h1]
   exact ZvY (ZmV (Zk7 h acts k).1 (gx acts k)).2.1
theorem Zov {g : GGuild} (h : Sm.ok g) (acts : List GAct) : ∀ n ∈ (RunM g acts).2, -9223372036854775808 ≤ n ∧ n ≤ 9223372036854775807 := by
 unfold RunM
 cases !Zs g || decide ((acts.length : Int) > 40)
 ·exact Zsf h acts _
 ·intro n hn; cases hn

def outM (g : GGuild) (acts : List GAct) : List Str := ((RunM g acts).2.map fun n => (⟨Lib.itoa n⟩ : Str)) ++ ZaP (RunM g acts).1
theorem Zrz {g : GGuild} (h : Sm.ok g) {acts : List GAct} (hl : acts.length ≤ 40) : Sm.ok (outM g acts) := by
 have hn := Zov h acts
 have hs := Zqa h acts
 obtain ⟨w, _, h2, h3⟩ := Zol (RunM g acts).1 hs.1
 rw [Zgc (Zd9 hs.1)] at h2
 have e := Option.some.inj h2
 rw [← e] at h3
 have hlen : (RunM g acts).2.length ≤ 40 := by
  unfold RunM
  cases !Zs g || decide ((acts.length : Int) > 40)
  ·have := (Zk7 h acts acts.length).2
   simp only [cond_false]; omega
  ·simp
 have hfl : (ZaP (RunM g acts).1).length ≤ 1000 := by
  cases hk : Zs (RunM g acts).1
  ·have : ZaP (RunM g acts).1 = [] := by unfold ZaP; rw [hk]; rfl
   rw [this]; simp
  ·have h1 := Zki hk
   have h2 := (Zf4 hk).2.2.2.1
   omega
 refine ⟨?_, fun x hx => ?_⟩
 ·unfold outM
  rw [List.length_append, List.length_map]; omega
 ·unfold outM at hx
  rcases List.mem_append.1 hx with h1 | h1
  ·obtain ⟨n, hm, rfl⟩ := List.mem_map.1 h1
   have := ZsN (hn n hm).1 (hn n hm).2
   show (Lib.itoa n).length ≤ 1048576
   omega
  ·exact h3.2 x h1
def Zil (g : GGuild) (t : Str) : List Str × Bool := bif decide (((t.b.length : Nat) : Int) > 20000) then ([], false) else match accF (Zbs t.b []) [] with
 | none => ([], false)
 | some acts => bif decide (((acts.length : Nat) : Int) > 40) then ([], false) else (outM g acts, true)
theorem Zm8 {g : GGuild} (hg : Sm.ok g) (hs : ZcN = some g) (t : Str) : ZdL t = some (Zil g t) := by
 unfold ZdL Zil
 cases hd : decide (((t.b.length : Nat) : Int) > 20000)
 ·have hl : t.b.length ≤ 20000 := by simp at hd; omega
  have := ZiI t hl (t.b.length + 1) 0 0 [] [] (by omega) rfl (by simp) (by simp) (by omega)
  rw [List.drop_zero] at this
  simp only [cond_false]
  rw [Za (by omega), show ((0 : Int)) = ((0 : Nat) : Int) from rfl, this]
  cases accF (Zbs t.b []) [] with
  | none => rfl
  | some acts =>
   simp only [accR, Zdg]
   cases hc : decide (((acts.length : Nat) : Int) > 40)
   ·have hr := Zqa hg acts
    have hn := Zov hg acts
    have hrl := ZbR hr.2
    simp only [cond_false, hs, Option.bind_some]
    rw [Zpr hg]
    simp only [Option.bind_some]
    rw [Za (by omega), ZbN (f := ZeF (RunM g acts)) (xs := []) (fun k => (⟨Lib.itoa (gx (RunM g acts).2 k)⟩ : Str)) (fun k s hk hs => by
     have hi := hn _ (Z3 hk)
     unfold ZeF
     rw [Zmk hi.1 hi.2]
     simp only [Option.bind_some]
     rw [Za (by simp at hs; omega)])]
    simp only [Option.bind_some, List.nil_append]
    rw [Zis (Zd9 hr.1), Zdj (fun n => (⟨Lib.itoa n⟩ : Str))]
    simp only [Option.bind_some]
    have ho := ZbR (Zrz hg (acts := acts) (by simp at hc; omega))
    unfold outM at ho
    rw [List.length_append] at ho
    rw [Za (by omega)]
    rfl
   ·rfl
 ·rfl
theorem Zng {g : GGuild} (hg : Sm.ok g) (hs : ZcT = some g) (t : Str) : ZcH t = some (Zil g t) := by
 unfold ZcH Zil
 cases hd : decide (((t.b.length : Nat) : Int) > 20000)
 ·have hl : t.b.length ≤ 20000 := by simp at hd; omega
  have hll := Zmq t.b []
  simp only [cond_false]
  unfold strings_Split
  rw [Za ⟨by omega, by simp⟩, Zsb]
  simp only [Option.bind_some]
  have := ZkA (Zbs t.b []) (by omega) (Zbs t.b []).length 0 [] (by omega) (by simp)
  rw [List.drop_zero] at this
  rw [Za (by omega), this]
  cases accF (Zbs t.b []) [] with
  | none => rfl
  | some acts =>
   simp only [accR, Zdg]
   cases hc : decide (((acts.length : Nat) : Int) > 40)
   ·have hr := Zqa hg acts
    have hn := Zov hg acts
    have hrl := ZbR hr.2
    simp only [cond_false, hs, Option.bind_some]
    rw [Zo7 hg]
    simp only [Option.bind_some]
    rw [Za (by omega), ZbN (f := ZeE (RunM g acts)) (xs := []) (fun k => (⟨Lib.itoa (gx (RunM g acts).2 k)⟩ : Str)) (fun k s hk hs => by
     have hi := hn _ (Z3 hk)
     unfold ZeE
     rw [ZmE hi.1 hi.2]
     simp only [Option.bind_some]
     rw [Za (by simp at hs; omega)])]
    simp only [Option.bind_some, List.nil_append]
    rw [Zgc (Zd9 hr.1), Zdj (fun n => (⟨Lib.itoa n⟩ : Str))]
    simp only [Option.bind_some]
    have ho := ZbR (Zrz hg (acts := acts) (by simp at hc; omega))
    unfold outM at ho
    rw [List.length_append] at ho
    rw [Za (by omega)]
    rfl
   ·rfl
 ·rfl
theorem ZpD (t : Str) (_ : Fit.ok t) : ∃ w, ZdL t = some w ∧ ZcH t = some w ∧ Sm.ok w.1 := by
 obtain ⟨g, h1, h2, hg⟩ := ZnL
 refine ⟨_, Zm8 hg h1 t, Zng hg h2 t, ?_⟩
 unfold Zil
 have hz : Sm.ok ([] : List Str) := ⟨by simp, fun _ hx => by cases hx⟩
 cases decide (((t.b.length : Nat) : Int) > 20000)
 ·simp only [cond_false]
  cases accF (Zbs t.b []) [] with
  | none => exact hz
  | some acts =>
   simp only
   cases hc : decide (((acts.length : Nat) : Int) > 40)
   ·exact Zrz hg (by simp at hc; omega)
   ·exact hz
 ·exact hz

theorem p_FnExactRunScript (a0 : Str) (f0 : Fit.ok a0) : laws_FnExactRunScript a0 = some true := by
 unfold laws_FnExactRunScript
 by_cases c0 : ((a0.b.length : Nat) : Int) > 1048576
 ·simp [c0]
 obtain ⟨w, hs, hi, q0⟩ := ZpD a0 f0
 obtain ⟨bw0_0, kw0, mw0, xw0, nw0, lw0, hw0⟩ := Zs5 w.1 1 q0 (by omega) (by omega)
 have dw0 : ¬ kw0 < 0 := by omega
 simp [c0, hs, hi, ZsM w.1 q0, mw0, xw0, dw0]
end Go.Proofs.YtjfjbgihojiijacGreatDoor
