/-
  The plain laws: what the functions compute, in Lean alone.
-/
import Derived.Test.YtkahnmhkfmjomaaGreatDoorP1
namespace Go.Proofs.YtkahnmhkfmjomaaGreatDoor
open Go

/-- The colors that an index picks. -/
def pkM : List Nat → Nat → List Int → List Int
  | [], _, _ => []
  | r :: rs, i, left => gx left (i / r) :: pkM rs (i % r) (left.take (i / r) ++ left.drop (i / r + 1))
theorem pk1_ok : ∀ i, i < 6 → (pkM [1] i six).Nodup ∧ ∀ x ∈ pkM [1] i six, 0 ≤ x ∧ x ≤ 5 := by decide +kernel
theorem pk2_ok : ∀ i, i < 30 → (pkM [5, 1] i six).Nodup ∧ ∀ x ∈ pkM [5, 1] i six, 0 ≤ x ∧ x ≤ 5 := by decide +kernel
theorem pk3_ok : ∀ i, i < 120 → (pkM [20, 4, 1] i six).Nodup ∧ ∀ x ∈ pkM [20, 4, 1] i six, 0 ≤ x ∧ x ≤ 5 := by decide +kernel
def inv2 (a b : Nat) : Nat := 5 * a + (b - bif decide (a < b) then 1 else 0)
def inv3 (a b c : Nat) : Nat := 20 * a + 4 * (b - bif decide (a < b) then 1 else 0) + (c - (bif decide (a < c) then 1 else 0) - (bif decide (b < c) then 1 else 0))
theorem pk1_inv : ∀ a, a < 6 → pkM [1] a six = [(a : Int)] := by decide +kernel
theorem pk2_inv : ∀ a, a < 6 → ∀ b, b < 6 → a ≠ b → inv2 a b < 30 ∧ pkM [5, 1] (inv2 a b) six = [(a : Int), (b : Int)] := by decide +kernel
def chk3 : Bool := (List.range 6).all fun a => (List.range 6).all fun b => (List.range 6).all fun c => (a == b || a == c || b == c) || (decide (inv3 a b c < 120) && (pkM [20, 4, 1] (inv3 a b c) six == [(a : Int), (b : Int), (c : Int)]))
theorem chk3_ok : chk3 = true := by decide +kernel
theorem pk3_inv (a : Nat) (ha : a < 6) (b : Nat) (hb : b < 6) (c : Nat) (hc : c < 6) (hab : a ≠ b) (hac : a ≠ c) (hbc : b ≠ c) : inv3 a b c < 120 ∧ pkM [20, 4, 1] (inv3 a b c) six = [(a : Int), (b : Int), (c : Int)] := by
  have h := chk3_ok
  unfold chk3 at h
  rw [List.all_eq_true] at h
  have h := h a (by simpa using ha)
  rw [List.all_eq_true] at h
  have h := h b (by simpa using hb)
  rw [List.all_eq_true] at h
  have h := h c (by simpa using hc)
  have e1 : (a == b) = false := by simpa using hab
  have e2 : (a == c) = false := by simpa using hac
  have e3 : (b == c) = false := by simpa using hbc
  rw [e1, e2, e3] at h
  simp only [Bool.or_self, Bool.false_or, Bool.and_eq_true, decide_eq_true_iff, beq_iff_eq] at h
  exact h
def asgM : List Int → List Int → List Int → List Int
  | u :: L, v :: p, acc => asgM L p (acc.set u.toNat v)
  | _, _, acc => acc
theorem asg_len : ∀ (L p acc : List Int), (asgM L p acc).length = acc.length
  | [], _, _ => by simp [asgM]
  | _ :: _, [], _ => by simp [asgM]
  | u :: L, v :: p, acc => by rw [asgM, asg_len L p]; simp
theorem asg_other : ∀ (L p acc : List Int) {x : Nat}, (∀ u ∈ L, u.toNat ≠ x) → gx (asgM L p acc) x = gx acc x
  | [], _, _, _, _ => by simp [asgM]
  | _ :: _, [], _, _, _ => by simp [asgM]
  | u :: L, v :: p, acc, x, h => by
    rw [asgM, asg_other L p _ fun w hw => h w (by simp [hw]), gx_set_ne (Ne.symm (h u (by simp)))]
theorem asg_gx : ∀ (L p acc : List Int), acc.length = 6 → L.Nodup → (∀ u ∈ L, 0 ≤ u ∧ u ≤ 5) → ∀ q ∈ L.zip p, gx (asgM L p acc) q.1.toNat = q.2
  | [], _, _, _, _, _, q, hq => by simp at hq
  | _ :: _, [], _, _, _, _, q, hq => by simp at hq
  | u :: L, v :: p, acc, hl, hn, hr, q, hq => by
    rw [List.nodup_cons] at hn
    rw [List.zip_cons_cons, List.mem_cons] at hq
    have hu := hr u (by simp)
    rw [asgM]
    rcases hq with rfl | hq
    · rw [asg_other L p _ fun w hw e => hn.1 (by
        have := hr w (by simp [hw])
        have : w = u := by simp only at e; omega
        rw [← this]; exact hw), gx_set (by rw [hl]; omega)]
    · exact asg_gx L p _ (by simpa using hl) hn.2 (fun w hw => hr w (by simp [hw])) q hq
theorem asg_in : ∀ (L p acc : List Int), (∀ x ∈ acc, 0 ≤ x ∧ x ≤ 5) → (∀ x ∈ p, 0 ≤ x ∧ x ≤ 5) → ∀ x ∈ asgM L p acc, 0 ≤ x ∧ x ≤ 5
  | [], _, _, h, _, x, hx => h x (by simpa [asgM] using hx)
  | _ :: _, [], _, h, _, x, hx => h x (by simpa [asgM] using hx)
  | u :: L, v :: p, acc, h, hp, x, hx => by
    rw [asgM] at hx
    refine asg_in L p _ (fun y hy => ?_) (fun y hy => hp y (by simp [hy])) x hx
    rcases List.mem_or_eq_of_mem_set hy with hm | rfl
    · exact h y hm
    · exact hp _ (by simp)
def zeros6 : List Int := List.replicate 6 0
def wayM (L p : List Int) : List Int := asgM L p zeros6
theorem way_ok {L p : List Int} (hp : ∀ x ∈ p, 0 ≤ x ∧ x ≤ 5) : ListOkM (wayM L p) = true :=
  listOk_of (by unfold wayM; rw [asg_len]; rfl) (asg_in L p _ (by intro x hx; simp [zeros6] at hx; omega) hp)
def ratesM : Nat → List Nat
  | 1 => [1]
  | 2 => [5, 1]
  | 3 => [20, 4, 1]
  | _ => []
def chsM : Nat → Nat
  | 1 => 6
  | 2 => 30
  | 3 => 120
  | _ => 1
theorem pk_ok {n i : Nat} (h1 : 1 ≤ n) (h3 : n ≤ 3) (hi : i < chsM n) : (pkM (ratesM n) i six).length = n ∧ (pkM (ratesM n) i six).Nodup ∧ ∀ x ∈ pkM (ratesM n) i six, 0 ≤ x ∧ x ≤ 5 := by
  have hn : n = 1 ∨ n = 2 ∨ n = 3 := by omega
  rcases hn with rfl | rfl | rfl
  · exact ⟨rfl, pk1_ok i hi⟩
  · exact ⟨rfl, pk2_ok i hi⟩
  · exact ⟨rfl, pk3_ok i hi⟩
theorem pk_surj {p : List Int} (h1 : 1 ≤ p.length) (h3 : p.length ≤ 3) (hr : ∀ x ∈ p, 0 ≤ x ∧ x ≤ 5) (hn : p.Nodup) : ∃ i, i < chsM p.length ∧ pkM (ratesM p.length) i six = p := by
  match p, h1, h3, hr, hn with
  | [x], _, _, hr, _ =>
    obtain ⟨a, rfl⟩ := Int.eq_ofNat_of_zero_le (hr x (by simp)).1
    have := (hr _ (List.mem_singleton.2 rfl)).2
    exact ⟨a, by simp only [chsM, List.length_cons, List.length_nil]; omega, pk1_inv a (by omega)⟩
  | [x, y], _, _, hr, hn =>
    have hx := hr x (by simp)
    have hy := hr y (by simp)
    obtain ⟨a, rfl⟩ := Int.eq_ofNat_of_zero_le hx.1
    obtain ⟨b, rfl⟩ := Int.eq_ofNat_of_zero_le hy.1
    have hab : a ≠ b := fun e => by subst e; simp at hn
    obtain ⟨g1, g2⟩ := pk2_inv a (by omega) b (by omega) hab
    exact ⟨inv2 a b, g1, g2⟩
  | [x, y, z], _, _, hr, hn =>
    have hx := hr x (by simp)
    have hy := hr y (by simp)
    have hz := hr z (by simp)
    obtain ⟨a, rfl⟩ := Int.eq_ofNat_of_zero_le hx.1
    obtain ⟨b, rfl⟩ := Int.eq_ofNat_of_zero_le hy.1
    obtain ⟨c, rfl⟩ := Int.eq_ofNat_of_zero_le hz.1
    have hab : a ≠ b := fun e => by subst e; simp at hn
    have hac : a ≠ c := fun e => by subst e; simp at hn
    have hbc : b ≠ c := fun e => by subst e; simp at hn
    obtain ⟨g1, g2⟩ := pk3_inv a (by omega) b (by omega) c (by omega) hab hac hbc
    exact ⟨inv3 a b c, g1, g2⟩
  | _ :: _ :: _ :: _ :: _, _, h3, _, _ => simp at h3

theorem impl_choices_small {n : Nat} (h : n ≤ 3) : impl_choices (n : Int) = some ((bif n == 0 then 1 else chsM n : Nat) : Int) := by
  have hn : n = 0 ∨ n = 1 ∨ n = 2 ∨ n = 3 := by omega
  rcases hn with rfl | rfl | rfl | rfl <;> rfl

theorem impl_upTo_six : impl_upTo 6 = some six := rfl

theorem way_step {L : List Int} {k idx r c1 c2 : Nat} {left list : List Int} (e1 : impl_choices ((L.length : Nat) : Int) = some (c1 : Int)) (e2 : impl_choices ((k + 1 : Nat) : Int) = some (c2 : Int)) (h2 : 0 < c2) (hr : c1 / c2 = r) (hr0 : 0 < r) (hr1 : c1 ≤ 1000) (hidx : idx < r * left.length) (hleft : left.length ≤ 6) (hlist : list.length = 6) (hu : 0 ≤ gx L k ∧ gx L k ≤ 5) (hi : idx ≤ 1000) :
    impl_ColorwayAt_L1 L k ((idx : Int), left, list) = some (.next (((idx % r : Nat) : Int), left.take (idx / r) ++ left.drop (idx / r + 1), list.set (gx L k).toNat (gx left (idx / r)))) := by
  have hq : idx / r < left.length := Nat.div_lt_of_lt_mul hidx
  have hq2 : idx / r ≤ idx := Nat.div_le_self _ _
  have hrr : r ≤ c1 := by rw [← hr]; exact Nat.div_le_self _ _
  have er : wr (((c1 / c2 : Nat) : Int)) = (r : Int) := by
    rw [hr]; exact wr_of (by omega) (by omega)
  unfold impl_ColorwayAt_L1
  rw [e1, e2]
  simp only [Option.bind_some, er, tdiv_nat, tmod_nat]
  generalize idx / r = q at hq hq2 ⊢
  have eq1 : wr ((q : Nat) : Int) = (q : Int) := wr_of (by omega) (by omega)
  have eq2 : wr ((q : Int) + 1) = ((q + 1 : Nat) : Int) := by rw [wr_of (by omega) (by omega)]; simp
  simp only [eq1, eq2, Int.toNat_natCast]
  have ht : ((left.drop 0).take (q - 0)) = left.take q := by simp
  have hd : ((left.drop (q + 1)).take (left.length - (q + 1))) = left.drop (q + 1) := List.take_of_length_le (by simp)
  rw [gd_pos (by omega), gd_pos (by omega), gd_pos ⟨by omega, by omega⟩, gd_pos ⟨hu.1, by omega⟩, gd_pos ⟨by omega, by omega, by omega⟩, gd_pos ⟨by omega, by omega, by omega⟩, ht, hd, gd_pos (by simp; omega), gd_pos (by simp; omega)]
  rfl

theorem impl_ColorwayAt_ok {b : GBlock} (h : BlockOkM b = true) (h3 : (colsM b).length ≤ 3) {i : Nat} (hi : i < chsM (colsM b).length) : impl_ColorwayAt b (i : Int) = some (exB (wayM (colsM b) (pkM (ratesM (colsM b).length) i six)) b, true) := by
  have hp := cols_pos h
  have hc : ColorsM b = colsM b := by simp [ColorsM, h]
  have hu : ∀ k, k < (colsM b).length → 0 ≤ gx (colsM b) k ∧ gx (colsM b) k ≤ 5 := fun k hk => (mem_cols.1 (gx_mem hk)).1
  have hpk := pk_ok hp h3 hi
  have hch := impl_choices_small h3
  have hn0 : ((colsM b).length == 0) = false := by rw [beq_eq_false_iff_ne]; omega
  rw [hn0, cond_false] at hch
  have hcount : impl_ColorwayCount b = some ((chsM (colsM b).length : Nat) : Int) := by
    unfold impl_ColorwayCount
    simp only [impl_BlockOk_eq, h, Option.bind_some, Bool.not_true, cond_false, impl_ColorsOf_eq, hc, hch]
  have hle : chsM (colsM b).length ≤ 120 := by
    have hn : (colsM b).length = 1 ∨ (colsM b).length = 2 ∨ (colsM b).length = 3 := by omega
    rcases hn with e | e | e <;> rw [e] <;> decide
  have ew : wr (((chsM (colsM b).length : Nat) : Int) - 1) = ((chsM (colsM b).length : Nat) : Int) - 1 := wr_of (by omega) (by omega)
  have hin : inR (i : Int) 0 (((chsM (colsM b).length : Nat) : Int) - 1) = true := inR_iff.2 ⟨by omega, by omega⟩
  have hloop : (lpO (impl_ColorwayAt_L1 (colsM b)) (colsM b).length ((i : Int), six, List.replicate 6 (0 : Int))).map (fun s => s.2.2) = some (wayM (colsM b) (pkM (ratesM (colsM b).length) i six)) := by
    have hst := fun (k c2 r idx : Nat) (left list : List Int) (q1 : impl_choices ((k + 1 : Nat) : Int) = some (c2 : Int)) (q2 : 0 < c2) (q3 : chsM (colsM b).length / c2 = r) (q4 : 0 < r) (q5 : idx < r * left.length) (q6 : left.length ≤ 6) (q7 : list.length = 6) (q8 : k < (colsM b).length) (q9 : idx ≤ 1000) => way_step (L := colsM b) (k := k) (idx := idx) (r := r) (c1 := chsM (colsM b).length) (c2 := c2) (left := left) (list := list) hch q1 q2 q3 q4 (by omega) q5 q6 q7 (hu k q8) q9
    have hn : (colsM b).length = 1 ∨ (colsM b).length = 2 ∨ (colsM b).length = 3 := by omega
    generalize hL : colsM b = L at hn hst hi ⊢
    rcases hn with e | e | e
    · obtain ⟨u, rfl⟩ : ∃ u, L = [u] := by
        match L, e with
        | [u], _ => exact ⟨u, rfl⟩
      have hi6 : i < 6 := hi
      have s0 := hst 0 6 1 i six (List.replicate 6 (0 : Int)) rfl (by omega) (by simp [chsM]) (by omega) (by simp [six]; omega) (by simp [six]) (by simp) (by simp) (by omega)
      unfold lpO
      rw [show ([u] : List Int).length = 0 + 1 from rfl, forO, s0]
      rfl
    · obtain ⟨u, v, rfl⟩ : ∃ u v, L = [u, v] := by
        match L, e with
        | [u, v], _ => exact ⟨u, v, rfl⟩
      have hi6 : i < 30 := hi
      have s0 := hst 0 6 5 i six (List.replicate 6 (0 : Int)) rfl (by omega) (by simp [chsM]) (by omega) (by simp [six]; omega) (by simp [six]) (by simp) (by simp) (by omega)
      have l1 : (six.take (i / 5) ++ six.drop (i / 5 + 1)).length = 5 := by simp [six]; omega
      have s1 := hst 1 30 1 (i % 5) (six.take (i / 5) ++ six.drop (i / 5 + 1)) ((List.replicate 6 (0 : Int)).set (gx [u, v] 0).toNat (gx six (i / 5))) rfl (by omega) (by simp [chsM]) (by omega) (by rw [l1]; omega) (by rw [l1]; omega) (by simp) (by simp) (by omega)
      unfold lpO
      rw [show ([u, v] : List Int).length = 1 + 1 from rfl, forO, s0]
      simp only [Option.bind_some]
      rw [forO, s1]
      rfl
    · obtain ⟨u, v, w, rfl⟩ : ∃ u v w, L = [u, v, w] := by
        match L, e with
        | [u, v, w], _ => exact ⟨u, v, w, rfl⟩
      have hi6 : i < 120 := hi
      have s0 := hst 0 6 20 i six (List.replicate 6 (0 : Int)) rfl (by omega) (by simp [chsM]) (by omega) (by simp [six]; omega) (by simp [six]) (by simp) (by simp) (by omega)
      have l1 : (six.take (i / 20) ++ six.drop (i / 20 + 1)).length = 5 := by simp [six]; omega
      have s1 := hst 1 30 4 (i % 20) (six.take (i / 20) ++ six.drop (i / 20 + 1)) ((List.replicate 6 (0 : Int)).set (gx [u, v, w] 0).toNat (gx six (i / 20))) rfl (by omega) (by simp [chsM]) (by omega) (by rw [l1]; omega) (by rw [l1]; omega) (by simp) (by simp) (by omega)
      generalize hl1 : six.take (i / 20) ++ six.drop (i / 20 + 1) = left1 at l1 s0 s1
      have l2 : (left1.take (i % 20 / 4) ++ left1.drop (i % 20 / 4 + 1)).length = 4 := by simp; omega
      have s2 := hst 2 120 1 (i % 20 % 4) (left1.take (i % 20 / 4) ++ left1.drop (i % 20 / 4 + 1)) (((List.replicate 6 (0 : Int)).set (gx [u, v, w] 0).toNat (gx six (i / 20))).set (gx [u, v, w] 1).toNat (gx left1 (i % 20 / 4))) rfl (by omega) (by simp [chsM]) (by omega) (by rw [l2]; omega) (by rw [l2]; omega) (by simp) (by simp) (by omega)
      unfold lpO
      rw [show ([u, v, w] : List Int).length = 2 + 1 from rfl, forO, s0]
      simp only [Option.bind_some]
      rw [forO, s1]
      simp only [Option.bind_some]
      rw [forO, s2]
      subst hl1
      rfl
  cases hl : lpO (impl_ColorwayAt_L1 (colsM b)) (colsM b).length ((i : Int), six, List.replicate 6 (0 : Int)) with
  | none => rw [hl] at hloop; cases hloop
  | some e =>
    rw [hl] at hloop
    have hz : e.2.2 = wayM (colsM b) (pkM (ratesM (colsM b).length) i six) := Option.some.inj hloop
    have hw := way_ok (L := colsM b) hpk.2.2
    have hwl := (listOk_spec hw).1
    unfold impl_ColorwayAt
    rw [hcount]
    simp only [Option.bind_some, within_eq, ew, hin, Bool.not_true, cond_false, impl_ColorsOf_eq, hc, impl_upTo_six]
    rw [gd_pos (by omega), hl]
    simp only [Option.bind_some, hz]
    rw [impl_ExchangeBlock_eq (blockOk_sm h).1 (by omega), exB_eq h hw]
    rfl

def PatLikeM (b d : GBlock) : Int := bif pairM b d && decide ((colsM d).length ≤ 3) then mx 8 (fun k => bestM (TM b (SeenM d (k : Int))) (colsM d) []) else 0
theorem zip_fst {L p : List Int} (h : p.length = L.length) : (L.zip p).map Prod.fst = L := by
  rw [List.map_fst_zip (by omega)]
theorem like_way {b d : GBlock} (h : pairM b d = true) {k : Nat} (hk : k < 8) {p : List Int} (hl : p.length = (colsM d).length) (hr : ∀ x ∈ p, 0 ≤ x ∧ x ≤ 5) : LikeM b (SeenM (exB (wayM (colsM d) p) d) (k : Int)) = sumP ((colsM d).zip p) (TM b (SeenM d (k : Int))) := by
  obtain ⟨h1, h2, h3, h4⟩ := pair_len h
  have hw := way_ok (L := colsM d) hr
  rw [seen_exchange h2 hw hk]
  refine like_exchange (pair_seen h hk) hw (by rw [zip_fst hl]; exact cols_nodup d) (fun i hi s => by rw [zip_fst hl]; exact seen_colors h2 hk hi s) ?_
  exact asg_gx _ _ _ rfl (cols_nodup d) fun u hu => (mem_cols.1 hu).1

theorem spec_PatternLikeness_eq (b d : GBlock) : spec_PatternLikeness b d = some (PatLikeM b d) := by
  unfold spec_PatternLikeness PatLikeM
  simp only [spec_ColorsOf_eq, spec_l29Ok_eq, Option.bind_some]
  cases h : pairM b d
  · rfl
  obtain ⟨h1, h2, h3, h4⟩ := pair_len h
  have hc : ColorsM d = colsM d := by simp [ColorsM, h2]
  rw [hc]
  by_cases hn : (colsM d).length ≤ 3
  · have hd : decide (((colsM d).length : Int) > 3) = false := by simp; omega
    have hd' : decide ((colsM d).length ≤ 3) = true := by simpa using hn
    simp only [hd, hd', Bool.not_true, cond_false, Option.bind_some, Bool.and_self, cond_true]
    rw [lpO_mx (f := spec_PatternLikeness_L1 b d (colsM d)) (fun k => bestM (TM b (SeenM d (k : Int))) (colsM d) []) (fun k s hk => by
      have hb := spec_l29Best_ok (T := TM b (SeenM d (k : Int))) (fun u v => TM_bound h4 u v) hn (fun u hu => (mem_cols.1 hu).1) (colsM d).length 0 [] (by omega) rfl (by simp)
      simp only [List.drop_zero] at hb
      simp only [spec_PatternLikeness_L1, spec_SeenFrom_eq, spec_l29Table_ok (pair_seen h hk), Option.bind_some]
      rw [show (0 : Int) = ((0 : Nat) : Int) from rfl, show spec_l29Best ((colsM d).length + 1) (tab66 fun u v => TM b (SeenM d (k : Int)) (u : Int) (v : Int)) (colsM d) ((0 : Nat) : Int) ((0 : Nat) : Int) = _ from hb]
      rfl)]
    rfl
  · have hd : decide (((colsM d).length : Int) > 3) = true := by simp; omega
    have hd' : decide ((colsM d).length ≤ 3) = false := by simpa using hn
    simp [hd, hd']

theorem impl_PatternLikeness_eq (b d : GBlock) : impl_PatternLikeness b d = some (PatLikeM b d) := by
  unfold impl_PatternLikeness PatLikeM
  simp only [impl_arePaired_eq, impl_ColorsOf_eq, Option.bind_some]
  cases h : pairM b d
  · rfl
  obtain ⟨h1, h2, h3, h4⟩ := pair_len h
  have hc : ColorsM d = colsM d := by simp [ColorsM, h2]
  rw [hc]
  by_cases hn : (colsM d).length ≤ 3
  · have hd : decide (((colsM d).length : Int) > 3) = false := by simp; omega
    have hd' : decide ((colsM d).length ≤ 3) = true := by simpa using hn
    have hp := cols_pos h2
    have hch := impl_choices_small hn
    have hn0 : ((colsM d).length == 0) = false := by rw [beq_eq_false_iff_ne]; omega
    rw [hn0, cond_false] at hch
    have hcount : impl_ColorwayCount d = some ((chsM (colsM d).length : Nat) : Int) := by
      unfold impl_ColorwayCount
      simp only [impl_BlockOk_eq, h2, Option.bind_some, Bool.not_true, cond_false, impl_ColorsOf_eq, hc, hch]
    have hle : chsM (colsM d).length ≤ 120 := by
      have hn : (colsM d).length = 1 ∨ (colsM d).length = 2 ∨ (colsM d).length = 3 := by omega
      rcases hn with e | e | e <;> rw [e] <;> decide
    simp only [hd, hd', Bool.not_true, cond_false, Option.bind_some, Bool.and_self, cond_true, hcount, Int.toNat_natCast]
    rw [gd_pos (by omega), lpO_mx (f := impl_PatternLikeness_L1 b d) (fun i => mx 8 fun k => LikeM b (SeenM (exB (wayM (colsM d) (pkM (ratesM (colsM d).length) i six)) d) (k : Int))) (fun i s hi => by
      have hpr : pairM b (exB (wayM (colsM d) (pkM (ratesM (colsM d).length) i six)) d) = true := by
        have := h
        simp only [pairM, Bool.and_eq_true] at this ⊢
        exact ⟨⟨h1, exB_ok h2 _⟩, this.2⟩
      simp only [impl_PatternLikeness_L1, impl_ColorwayAt_ok h2 hn hi, impl_BestLikeness_ok hpr, Option.bind_some]
      rfl)]
    simp only [Option.bind_some]
    congr 1
    apply Int.le_antisymm
    · refine mx_le_of (mx_nonneg _ _) fun i hi => mx_le_of (mx_nonneg _ _) fun k hk => ?_
      obtain ⟨p1, p2, p3⟩ := pk_ok hp hn hi
      rw [like_way h hk p1 p3]
      exact Int.le_trans (best_ge (T := TM b (SeenM d (k : Int))) (colsM d) [] _ p1 p3 p2 (by simp)) (mx_le (g := fun k : Nat => bestM (TM b (SeenM d (k : Int))) (colsM d) []) hk)
    · refine mx_le_of (mx_nonneg _ _) fun k hk => ?_
      obtain ⟨p, p1, p2, p3, p4, p5⟩ := best_att (T := TM b (SeenM d (k : Int))) (fun u v => (TM_bound h4 u v).1) (colsM d) [] (by simpa using hn)
      obtain ⟨i, hi, hip⟩ := pk_surj (p := p) (by omega) (by omega) p2 p3
      rw [p1] at hi hip
      refine Int.le_trans p5 ?_
      rw [← like_way h hk p1 p2, ← hip]
      exact Int.le_trans (mx_le (g := fun k : Nat => LikeM b (SeenM (exB (wayM (colsM d) (pkM (ratesM (colsM d).length) i six)) d) (k : Int))) hk) (mx_le (g := fun i => mx 8 fun k => LikeM b (SeenM (exB (wayM (colsM d) (pkM (ratesM (colsM d).length) i six)) d) (k : Int))) hi)
  · have hd : decide (((colsM d).length : Int) > 3) = true := by simp; omega
    have hd' : decide ((colsM d).length ≤ 3) = false := by simpa using hn
    simp [hd, hd']

theorem bytesLess_irrefl : ∀ l : List UInt8, Op.bytesLess l l = false
  | [] => rfl
  | x :: l => by
    have := bytesLess_irrefl l
    simp [Op.bytesLess, this]
theorem slt_irrefl (s : Str) : slt s s = false := bytesLess_irrefl _
def lstM (F : Nat → GBlock) : Nat → GBlock
  | 0 => F 0
  | n + 1 => bif slt (textM (F (n + 1))) (textM (lstM F n)) then F (n + 1) else lstM F n
def ixM (F : Nat → GBlock) : Nat → Nat
  | 0 => 0
  | k + 1 => bif slt (textM (F k)) (textM (F (ixM F k))) then k else ixM F k
theorem ix_lst (F : Nat → GBlock) : ∀ k, F (ixM F (k + 1)) = lstM F k
  | 0 => by
    have : slt (textM (F 0)) (textM (F 0)) = false := slt_irrefl _
    simp [ixM, lstM, this]
  | k + 1 => by
    have ih := ix_lst F k
    rw [ixM, lstM, ih]
    cases slt (textM (F (k + 1))) (textM (lstM F k))
    · exact ih
    · rfl
theorem ixM_le (F : Nat → GBlock) : ∀ k, ixM F k ≤ k
  | 0 => Nat.le_refl _
  | k + 1 => by
    have := ixM_le F k
    unfold ixM
    cases slt (textM (F k)) (textM (F (ixM F k))) <;> simp <;> omega
theorem lst_congr {F G : Nat → GBlock} : ∀ {n : Nat}, (∀ k, k ≤ n → F k = G k) → lstM F n = lstM G n
  | 0, h => h 0 (Nat.le_refl _)
  | n + 1, h => by rw [lstM, lstM, lst_congr (n := n) fun k hk => h k (by omega), h (n + 1) (Nat.le_refl _)]
theorem lst_in (F : Nat → GBlock) : ∀ n, ∃ k, k ≤ n ∧ lstM F n = F k
  | 0 => ⟨0, Nat.le_refl _, rfl⟩
  | n + 1 => by
    obtain ⟨k, hk, e⟩ := lst_in F n
    unfold lstM
    cases slt (textM (F (n + 1))) (textM (lstM F n))
    · exact ⟨k, by omega, e⟩
    · exact ⟨n + 1, Nat.le_refl _, rfl⟩

theorem impl_FormatInt_small {a : Int} (h0 : 0 ≤ a) (h1 : a ≤ 5) : impl_FormatInt a = some ⟨[digM a]⟩ := by
  unfold impl_FormatInt strconv_Itoa
  rw [gd_pos ⟨h0, by omega⟩]
  rfl

theorem impl_CellText_eq {c : GCell} (h : CellOkM c = true) : impl_CellText c = some ⟨cellTextM c⟩ := by
  obtain ⟨h1, h2, h3, h4, h5, h6, h7⟩ := cellOk_spec h
  have hs : c.Split = 0 ∨ c.Split = 1 ∨ c.Split = 2 := by omega
  unfold impl_CellText cellTextM
  simp only [impl_CellOk_eq, h, impl_FormatInt_small h3 h4, impl_FormatInt_small h5 h6, Option.bind_some, Bool.not_true, cond_false]
  rcases hs with e | e | e <;> rw [e]
  · rfl
  · rfl
  · rfl

theorem impl_TextOf_eq {b : GBlock} (h : BlockOkM b = true) : impl_TextOf b = some (textM b) := by
  obtain ⟨n, hn, h1, h2, hl, hc⟩ := blockOk_spec h
  have hnn : n * n ≤ 4 * 4 := Nat.mul_le_mul h2 h2
  unfold impl_TextOf
  simp only [impl_BlockOk_eq, h, Option.bind_some, Bool.not_true, cond_false]
  rw [gd_pos (by omega), lpO_st (f := impl_TextOf_L1 b) (s0 := (⟨[]⟩ : Str)) (fun k => (⟨cellsTextM (b.Cells.take k)⟩ : Str)) rfl (fun k hk => by
    have hx := hc _ (gx_mem hk)
    have hlen := cellsText_len (b.Cells.take k)
    have hlen2 : (b.Cells.take k).length ≤ 16 := by simp; omega
    have hlen3 := cellText_len (gx b.Cells k)
    simp only [impl_TextOf_L1, Option.bind_some, impl_CellText_eq hx]
    rw [gd_pos (by simp only [List.length_cons, List.length_nil]; omega), gd_pos (by simp only [sadd, List.length_append, List.length_cons, List.length_nil]; omega)]
    rw [List.take_succ_eq_append_getElem hk, ← gx_lt hk]
    simp [sadd, cellsTextM])]
  simp [textM, h]

theorem impl_least_eq {l : List GBlock} (h0 : 0 < l.length) (hl : l.length ≤ 1000) (hok : ∀ k, k < l.length → BlockOkM (gx l k) = true) : impl_least l = some (lstM (gx l) (l.length - 1)) := by
  unfold impl_least
  rw [gd_pos h0, gd_pos (by omega), lpO_st (f := impl_least_L1 l) (s0 := 0) (ixM (gx l)) rfl (fun k hk => by
    have hi := ixM_le (gx l) k
    unfold impl_least_L1
    rw [gd_pos (by omega), impl_TextOf_eq (hok k hk), impl_TextOf_eq (hok _ (by omega))]
    simp only [Option.bind_some]
    rfl)]
  have hi : ixM (gx l) l.length < l.length := by
    obtain ⟨n, hn⟩ : ∃ n, l.length = n + 1 := ⟨l.length - 1, by omega⟩
    rw [hn]
    unfold ixM
    have := ixM_le (gx l) n
    cases slt (textM (gx l n)) (textM (gx l (ixM (gx l) n))) <;> simp <;> omega
  simp only [Option.bind_some]
  rw [gd_pos hi]
  obtain ⟨n, hn⟩ : ∃ n, l.length = n + 1 := ⟨l.length - 1, by omega⟩
  rw [hn, ix_lst (gx l) n]
  rfl

def FormM (b : GBlock) : GBlock := bif BlockOkM b then lstM (fun k => SeenM b (k : Int)) 7 else ⟨0, []⟩
theorem seen_zero {b : GBlock} (h : BlockOkM b = true) : SeenM b ((0 : Nat) : Int) = b := by
  unfold SeenM
  rw [h]
  rfl
theorem form_ok {b : GBlock} (h : BlockOkM b = true) : BlockOkM (FormM b) = true ∧ (FormM b).Size = b.Size := by
  unfold FormM
  rw [h, cond_true]
  obtain ⟨k, hk, e⟩ := lst_in (fun k => SeenM b (k : Int)) 7
  rw [e]
  exact view_ok h (by omega)

def PattM (b : GBlock) : GBlock := bif BlockOkM b then lstM (fun k => PlainM (SeenM b (k : Int))) 7 else ⟨0, []⟩
theorem patt_ok {b : GBlock} (h : BlockOkM b = true) : BlockOkM (PattM b) = true ∧ (PattM b).Size = b.Size := by
  unfold PattM
  rw [h, cond_true]
  obtain ⟨k, hk, e⟩ := lst_in (fun k => PlainM (SeenM b (k : Int))) 7
  rw [e]
  obtain ⟨v1, v2⟩ := view_ok h (k := k) (by omega)
  obtain ⟨p1, p2⟩ := plain_ok v1
  exact ⟨p1, by rw [p2, v2]⟩

theorem spec_LeastPattern_eq (b : GBlock) : spec_LeastPattern b = some (PattM b) := by
  unfold spec_LeastPattern PattM
  simp only [spec_BlockOk_eq, Option.bind_some]
  cases h : BlockOkM b
  · rfl
  simp only [Bool.not_true, cond_false, cond_true, spec_l07Plain_eq h, Option.bind_some]
  rw [lpO_st (f := spec_LeastPattern_L1 b) (s0 := ((PlainM b).Size, (PlainM b).Cells)) (fun k => ((lstM (fun k => PlainM (SeenM b (k : Int))) k).Size, (lstM (fun k => PlainM (SeenM b (k : Int))) k).Cells)) (by rw [lstM, seen_zero h]) (fun k hk => by
    have hv := (view_ok h (k := k + 1) (by omega)).1
    have hp := (plain_ok hv).1
    have hb : BlockOkM (lstM (fun k => PlainM (SeenM b (k : Int))) k) = true := by
      obtain ⟨j, hj, e⟩ := lst_in (fun k => PlainM (SeenM b (k : Int))) k
      rw [e]; exact (plain_ok (view_ok h (by omega)).1).1
    simp only [spec_LeastPattern_L1, spec_SeenFrom_eq, spec_l07Plain_eq hv, spec_TextOf_eq hp, Option.bind_some]
    rw [show spec_TextOf (GBlock.mk (lstM (fun k => PlainM (SeenM b (k : Int))) k).Size (lstM (fun k => PlainM (SeenM b (k : Int))) k).Cells) = _ from spec_TextOf_eq hb]
    rfl)]
  rfl

theorem impl_LeastPattern_eq (b : GBlock) : impl_LeastPattern b = some (PattM b) := by
  unfold impl_LeastPattern PattM
  simp only [impl_BlockOk_eq, Option.bind_some]
  cases h : BlockOkM b
  · rfl
  simp only [Bool.not_true, cond_false, cond_true, impl_views_eq, Option.bind_some, views_len]
  rw [gd_pos (by omega), lpO_app (f := impl_LeastPattern_L1 (viewsM b)) (xs := []) (fun k : Nat => PlainM (SeenM b (k : Int))) (fun k s hk hs => by
    unfold impl_LeastPattern_L1
    rw [views_gx _ hk, impl_plain_eq (view_ok h hk).1]
    simp only [Option.bind_some]
    rw [gd_pos (by simp at hs; omega)])]
  have hl : (([] : List GBlock) ++ (List.range 8).map fun k : Nat => PlainM (SeenM b (k : Int))).length = 8 := by simp
  have hg : ∀ k, k < 8 → gx (([] : List GBlock) ++ (List.range 8).map fun k : Nat => PlainM (SeenM b (k : Int))) k = PlainM (SeenM b (k : Int)) := fun k hk => by
    rw [List.nil_append]; exact gx_range _ hk
  simp only [Option.bind_some]
  rw [impl_least_eq (by rw [hl]; omega) (by rw [hl]; omega) (fun k hk => by
    rw [hl] at hk
    rw [hg k hk]; exact (plain_ok (view_ok h hk).1).1), hl]
  simp only [Option.bind_some]
  rw [lst_congr (G := fun k => PlainM (SeenM b (k : Int))) fun k hk => hg k (by omega)]

def ArePattM (b d : GBlock) : Bool := BlockOkM b && BlockOkM d && SameBlockM (PattM b) (PattM d)

theorem spec_ArePatternsSame_eq (b d : GBlock) : spec_ArePatternsSame b d = some (ArePattM b d) := by
  unfold spec_ArePatternsSame ArePattM
  simp only [spec_BlockOk_eq, spec_LeastPattern_eq, Option.bind_some]
  cases hb : BlockOkM b
  · rfl
  cases hd : BlockOkM d
  · rfl
  simp only [cond_true, spec_SameBlock_eq (blockOk_sm (patt_ok hb).1).1, Option.bind_some, Bool.true_and]

theorem impl_ArePatternsSame_eq (b d : GBlock) : impl_ArePatternsSame b d = some (ArePattM b d) := by
  unfold impl_ArePatternsSame ArePattM
  simp only [impl_BlockOk_eq, impl_LeastPattern_eq, Option.bind_some]
  cases hb : BlockOkM b
  · rfl
  cases hd : BlockOkM d
  · rfl
  simp only [cond_true, impl_SameBlock_eq (blockOk_sm (patt_ok hb).1).1, Option.bind_some, Bool.true_and]

def VerdictM (e f : GEntry) : Int := bif !EntOkM e || !EntOkM f || e.Block.Size != f.Block.Size then 0 else bif ArePattM e.Block f.Block then 3 else bif decide (wr (10 * PatLikeM e.Block f.Block) ≥ wr (36 * (e.Block.Cells.length : Int))) then 2 else 1
theorem verdict_cases (e f : GEntry) : VerdictM e f = 0 ∨ VerdictM e f = 1 ∨ VerdictM e f = 2 ∨ VerdictM e f = 3 := by
  unfold VerdictM
  cases !EntOkM e || !EntOkM f || e.Block.Size != f.Block.Size
  · cases ArePattM e.Block f.Block
    · cases decide (wr (10 * PatLikeM e.Block f.Block) ≥ wr (36 * (e.Block.Cells.length : Int))) <;> simp
    · simp
  · simp

theorem spec_VerdictOn_eq (e f : GEntry) : spec_VerdictOn e f = some (VerdictM e f) := by
  unfold spec_VerdictOn VerdictM
  simp only [spec_EntryOk_eq', spec_ArePatternsSame_eq, spec_PatternLikeness_eq, Option.bind_some]
  cases EntOkM e
  · rfl
  cases EntOkM f
  · rfl
  cases e.Block.Size != f.Block.Size
  · simp only [Bool.not_true, cond_false, Option.bind_some, Bool.or_self]
    cases ArePattM e.Block f.Block
    · cases decide (wr (10 * PatLikeM e.Block f.Block) ≥ wr (36 * (e.Block.Cells.length : Int))) <;> rfl
    · rfl
  · rfl

theorem impl_VerdictOn_eq (e f : GEntry) : impl_VerdictOn e f = some (VerdictM e f) := by
  unfold impl_VerdictOn VerdictM
  simp only [impl_EntryOk_eq', impl_ArePatternsSame_eq, impl_PatternLikeness_eq, Option.bind_some]
  cases EntOkM e
  · rfl
  cases EntOkM f
  · rfl
  cases e.Block.Size != f.Block.Size
  · simp only [Bool.not_true, cond_false, Option.bind_some, Bool.or_self]
    cases ArePattM e.Block f.Block
    · cases decide (wr (10 * PatLikeM e.Block f.Block) ≥ wr (36 * (e.Block.Cells.length : Int))) <;> rfl
    · rfl
  · rfl

def CopyM (e f : GEntry) : Bool := (e.Owner != f.Owner) && decide (e.Day > f.Day) && decide (VerdictM e f ≥ 2)

theorem spec_IsCopy_eq (e f : GEntry) : spec_IsCopy e f = some (CopyM e f) := by
  unfold spec_IsCopy CopyM
  simp only [spec_VerdictOn_eq, Option.bind_some]
  rcases verdict_cases e f with h | h | h | h <;> rw [h] <;> cases e.Owner != f.Owner <;> cases decide (e.Day > f.Day) <;> rfl

theorem impl_IsCopy_eq (e f : GEntry) : impl_IsCopy e f = some (CopyM e f) := by
  unfold impl_IsCopy CopyM
  simp only [impl_VerdictOn_eq, Option.bind_some]
  cases e.Owner != f.Owner <;> cases decide (e.Day > f.Day) <;> simp

/-- What it means that an entry was taken. -/
def SubmitTo (g : GGuild) (n d : Int) (b : GBlock) (w : GGuild × Bool) : Prop := (∀ k, k < g.Entries.length → CopyM ⟨n, d, b⟩ (gx g.Entries k) = false) ∧ w = ((⟨g.Members, g.Stock, g.Entries ++ [⟨n, d, b⟩], g.Books, g.Round, g.Year⟩ : GGuild), true) ∧ GuildOkM w.1 = true
theorem rx_Submit (g : GGuild) (n d : Int) (b : GBlock) (h : Sm.ok g) (hb : Sm.ok b) : ∃ w, spec_Submit g n d b = some w ∧ impl_Submit g n d b = some w ∧ Sm.ok w.1 ∧ (w = (g, false) ∨ SubmitTo g n d b w) := by
  have hgl := sm_GL h
  have hel : g.Entries.length ≤ 1048576 := h.2.2.1.1
  have hn : GL (⟨g.Members, g.Stock, g.Entries ++ [⟨n, d, b⟩], g.Books, g.Round, g.Year⟩ : GGuild) := ⟨hgl.1, hgl.2.1, by simp only [List.length_append, List.length_cons, List.length_nil]; omega, hgl.2.2.2⟩
  have hloop : ∀ f : Nat → Unit → Option (Res Unit (GGuild × Bool)), (∀ k, k < g.Entries.length → f k () = some (bif CopyM ⟨n, d, b⟩ (gx g.Entries k) then .ret (g, false) else .next ())) → forO f g.Entries.length 0 () = some (bif (List.range g.Entries.length).all (fun k => !CopyM ⟨n, d, b⟩ (gx g.Entries k)) then .inl () else .inr (g, false)) := fun f hf =>
    forO_all (f := f) (fun k => !CopyM ⟨n, d, b⟩ (gx g.Entries k)) fun k hk => by
      rw [hf k hk]
      cases CopyM ⟨n, d, b⟩ (gx g.Entries k) <;> rfl
  unfold spec_Submit impl_Submit
  simp only [spec_l38Copy_eq h, spec_l03Copy_sm hb, impl_Guild_copied_eq h, impl_Block_copied_sm hb, spec_GuildOk_eq g hgl, impl_GuildOk_eq g hgl, Option.bind_some]
  cases hg : GuildOkM g
  · exact ⟨(g, false), rfl, rfl, h, .inl rfl⟩
  simp only [Bool.not_true, cond_false]
  rw [gd_pos (p := g.Entries.length ≤ 4611686018427387904) (by omega), gd_pos (p := g.Entries.length ≤ 4611686018427387904) (by omega), hloop (spec_Submit_L1 g n d g b) (fun k hk => by
    simp only [spec_Submit_L1, spec_IsCopy_eq, Option.bind_some]
    cases CopyM ⟨n, d, b⟩ (gx g.Entries k) <;> rfl), hloop (impl_Submit_L1 g n d g b) (fun k hk => by
    have e : impl_IsCopy ⟨n, d, b⟩ ⟨(gx g.Entries k).Owner, (gx g.Entries k).Day, (gx g.Entries k).Block⟩ = some (CopyM ⟨n, d, b⟩ (gx g.Entries k)) := impl_IsCopy_eq _ _
    simp only [impl_Submit_L1, e, Option.bind_some]
    cases CopyM ⟨n, d, b⟩ (gx g.Entries k) <;> rfl)]
  cases hall : (List.range g.Entries.length).all fun k => !CopyM ⟨n, d, b⟩ (gx g.Entries k)
  · exact ⟨(g, false), rfl, rfl, h, .inl rfl⟩
  simp only [cond_true, sq_inl]
  rw [gd_pos (by omega), gd_pos (by omega)]
  simp only [spec_GuildOk_eq _ hn, impl_becomes_eq h hn, hg, Option.bind_some]
  cases hx : GuildOkM (⟨g.Members, g.Stock, g.Entries ++ [⟨n, d, b⟩], g.Books, g.Round, g.Year⟩ : GGuild)
  · exact ⟨(g, false), rfl, rfl, h, .inl rfl⟩
  · refine ⟨_, rfl, rfl, guildOk_sm hx, .inr ⟨fun k hk => ?_, rfl, hx⟩⟩
    rw [List.all_eq_true] at hall
    have := hall k (by simpa using hk)
    simpa using this

def ActOkM (a : GAct) : Bool := bif a.Kind == 1 then inR a.A 1 999 && (a.B == 0) else bif a.Kind == 2 then inR a.A 1 999 && inR a.B 0 9 else bif a.Kind == 3 || a.Kind == 6 then inR a.A 0 9 && (a.B == 0) else bif a.Kind == 4 || a.Kind == 5 then (a.A == 0) && (a.B == 0) else false

theorem spec_ActOk_eq (a : GAct) : spec_ActOk a = some (ActOkM a) := by
  unfold spec_ActOk ActOkM
  simp only [l01In_eq, Option.bind_some]
  cases a.Kind == 1
  · cases a.Kind == 2
    · cases a.Kind == 3 || a.Kind == 6
      · cases a.Kind == 4 || a.Kind == 5 <;> rfl
      · cases inR a.A 0 9 <;> rfl
    · cases inR a.A 1 999 <;> rfl
  · cases inR a.A 1 999 <;> rfl

theorem impl_ActOk_eq (a : GAct) : impl_ActOk a = some (ActOkM a) := by
  unfold impl_ActOk ActOkM
  simp only [within_eq, Option.bind_some]
  cases a.Kind == 1
  · cases a.Kind == 2
    · cases a.Kind == 3 || a.Kind == 6
      · cases a.Kind == 4 <;> cases a.Kind == 5 <;> rfl
      · cases inR a.A 0 9 <;> rfl
    · cases inR a.A 1 999 <;> rfl
  · cases inR a.A 1 999 <;> rfl

def lackM (st need : List Int) : List Int := tab6 fun a => if gx need a - gx st a > 0 then gx need a - gx st a else 0

theorem spec_LackOf_eq {st need : List Int} (h1 : StockOkM st = true) (h2 : StockOkM need = true) : spec_LackOf st need = some (lackM st need) := by
  obtain ⟨l1, b1⟩ := stock_spec h1
  obtain ⟨l2, b2⟩ := stock_spec h2
  unfold spec_LackOf
  rw [lpO_app (f := spec_LackOf_L1 st need) (xs := []) (fun a : Nat => if gx need a - gx st a > 0 then gx need a - gx st a else 0) (fun k s hk hs => by
    have c1 := b1 k hk
    have c2 := b2 k hk
    simp only [spec_LackOf_L1, spec_StockOk_eq st (show st.length ≤ 4611686018427387904 by omega), spec_StockOk_eq need (show need.length ≤ 4611686018427387904 by omega), h1, h2, Option.bind_some, cond_true]
    rw [gd_pos (by omega), gd_pos (by omega), gd_pos (by simp at hs; omega), wr_of (by omega) (by omega)])]
  rfl

theorem impl_LackOf_eq {st need : List Int} (h1 : StockOkM st = true) (h2 : StockOkM need = true) : impl_LackOf st need = some (lackM st need) := by
  obtain ⟨l1, b1⟩ := stock_spec h1
  obtain ⟨l2, b2⟩ := stock_spec h2
  unfold impl_LackOf
  simp only [impl_StockOk_eq st (show st.length ≤ 4611686018427387904 by omega), impl_StockOk_eq need (show need.length ≤ 4611686018427387904 by omega), h1, h2, Option.bind_some, Bool.not_true, cond_false]
  rw [gd_pos (by omega), l1, lpO_app (f := impl_LackOf_L1 st need) (xs := []) (fun a : Nat => if gx need a - gx st a > 0 then gx need a - gx st a else 0) (fun k s hk hs => by
    have c1 := b1 k hk
    have c2 := b2 k hk
    unfold impl_LackOf_L1
    rw [gd_pos (by omega), gd_pos (by simp at hs; omega), wr_of (by omega) (by omega)]
    congr 4
    by_cases hx : gx need k - gx st k > 0
    · have : ¬ 0 > gx need k - gx st k := by omega
      rw [if_pos hx, if_neg this]
    · by_cases hy : 0 > gx need k - gx st k
      · rw [if_neg hx, if_pos hy]
      · rw [if_neg hx, if_neg hy]
        omega)]
  rfl

theorem lack_sum {st : List Int} (h1 : StockOkM st = true) {b : GBlock} {f : Nat → Int → Option (Res Int Empty)} (hf : ∀ k s, f k s = some (.next (wr (s + gx (lackM st (tab6 fun a => AreaM b a)) k)))) : lpO f (lackM st (tab6 fun a => AreaM b a)).length 0 = some (sumN 6 fun a => gx (lackM st (tab6 fun a => AreaM b a)) a) := by
  obtain ⟨l1, b1⟩ := stock_spec h1
  have hb : ∀ a, a < 6 → 0 ≤ gx (lackM st (tab6 fun a => AreaM b a)) a ∧ gx (lackM st (tab6 fun a => AreaM b a)) a ≤ 64 := fun a ha => by
    have c1 := b1 a ha
    have c2 := area_bound b (a : Int)
    unfold lackM
    rw [tab6_gx _ ha, tab6_gx _ ha]
    split <;> omega
  have hl : (lackM st (tab6 fun a => AreaM b a)).length = 6 := tab6_len _
  rw [hl, lpO_sum (f := f) (fun a => gx (lackM st (tab6 fun a => AreaM b a)) a) (s0 := 0) (B := 64) (fun k s hk h0 h2 => by
    have := hb k hk
    rw [hf, wr_of (by omega) (by omega)]) (fun k hk => hb k hk) (by omega) (by omega) (by omega)]
  simp [sumN]

/-- What an act may do. -/
def DoTo (g : GGuild) (a : GAct) (w : GGuild × Int) : Prop :=
  (w.1 = g ∧ (w.2 = 1 → a.Kind = 6)) ∨ (a.Kind = 1 ∧ w.2 = 1 ∧ AdmitTo g a.A (w.1, true)) ∨ (a.Kind = 2 ∧ w.2 = 1 ∧ ∃ d b, SubmitTo g a.A d b (w.1, true)) ∨ (a.Kind = 3 ∧ w.2 = 1 ∧ SewTo g a.A (w.1, true)) ∨ (a.Kind = 4 ∧ w.2 = 1 ∧ w.1 = (⟨g.Members, g.Stock, g.Entries, g.Books, wr (g.Round + 1), g.Year⟩ : GGuild) ∧ GuildOkM w.1 = true) ∨ (a.Kind = 5 ∧ w.2 = 1 ∧ w.1 = (⟨g.Members, g.Stock, g.Entries, g.Books, 0, wr (g.Year + 1)⟩ : GGuild) ∧ GuildOkM w.1 = true)
theorem rx_DoAct (g : GGuild) (a : GAct) (h : Sm.ok g) : ∃ w, spec_DoAct g a = some w ∧ impl_DoAct g a = some w ∧ Sm.ok w.1 ∧ DoTo g a w := by
  have hgl := sm_GL h
  unfold spec_DoAct impl_DoAct
  simp only [spec_l38Copy_eq h, impl_Guild_copied_eq h, spec_GuildOk_eq g hgl, impl_GuildOk_eq g hgl, spec_ActOk_eq, impl_ActOk_eq, Option.bind_some]
  cases hg : GuildOkM g
  · exact ⟨(g, -1), rfl, rfl, h, .inl ⟨rfl, fun e => by simp at e⟩⟩
  cases ha : ActOkM a
  · exact ⟨(g, -1), rfl, rfl, h, .inl ⟨rfl, fun e => by simp at e⟩⟩
  simp only [Bool.not_true, cond_false, Option.bind_some]
  have fin : ∀ (P : GGuild × Bool → Prop) (w : GGuild × Bool), Sm.ok w.1 → (w = (g, false) ∨ P w) → (∀ w, P w → w.2 = true ∧ DoTo g a (w.1, 1)) → ∃ v : GGuild × Int, ((spec_l39Bool w.2).bind fun v12 => some (w.1, v12)) = some v ∧ (bif w.2 then some (w.1, (1 : Int)) else some (w.1, (0 : Int))) = some v ∧ Sm.ok v.1 ∧ DoTo g a v := fun P w hw hor hP => by
    unfold spec_l39Bool
    rcases hor with rfl | hp
    · exact ⟨(g, 0), rfl, rfl, hw, .inl ⟨rfl, fun e => by simp at e⟩⟩
    · obtain ⟨p1, p2⟩ := hP w hp
      rw [p1]
      exact ⟨(w.1, 1), rfl, rfl, hw, p2⟩
  have kk : ∀ n : Int, (a.Kind == n) = true → a.Kind = n := fun n e => by simpa using e
  cases k1 : a.Kind == 1
  · cases k2 : a.Kind == 2
    · cases k3 : a.Kind == 3
      · cases k4 : a.Kind == 4
        · cases k5 : a.Kind == 5
          · cases k6 : a.Kind == 6
            · exfalso
              unfold ActOkM at ha
              rw [k1, k2, k3, k4, k5, k6] at ha
              cases ha
            · have hA : 0 ≤ a.A ∧ a.A ≤ 9 := by
                unfold ActOkM at ha
                rw [k1, k2, k3, k6] at ha
                simp only [cond_false, Bool.or_true, cond_true, Bool.and_eq_true, inR_iff] at ha
                exact ha.1
              obtain ⟨_, hst, _, hel, hbo⟩ := guild_parts hg
              have ew : wr ((g.Entries.length : Int) - 1) = (g.Entries.length : Int) - 1 := wr_of (by omega) (by omega)
              simp only [cond_false, cond_true, impl_lack, within_eq, ew, Option.bind_some]
              by_cases hlt : a.A < (g.Entries.length : Int)
              · have hd : decide (a.A < (g.Entries.length : Int)) = true := by simpa using hlt
                have hin : inR a.A 0 ((g.Entries.length : Int) - 1) = true := inR_iff.2 ⟨by omega, by omega⟩
                have hb := hbo a.A.toNat (by omega)
                simp only [hd, hin, Bool.not_true, cond_false, cond_true, spec_AreaTable_eq, impl_AreaTable_eq, areasM, hb, Option.bind_some]
                generalize (gx g.Entries a.A.toNat).Block = b at hb
                have hts : StockOkM (tab6 fun x => AreaM b x) = true := tab_stock fun x _ => by have := area_bound b (x : Int); omega
                rw [gd_pos ⟨by omega, by omega⟩, gd_pos ⟨by omega, by omega⟩, spec_LackOf_eq hst hts, impl_LackOf_eq hst hts]
                simp only [Option.bind_some]
                have hl : (lackM g.Stock (tab6 fun x => AreaM b x)).length = 6 := tab6_len _
                rw [gd_pos (by omega), gd_pos (by omega), lack_sum hst (f := spec_DoAct_L1 (lackM g.Stock (tab6 fun x => AreaM b x))) (fun k s => rfl), lack_sum hst (f := impl_lack_L1 (lackM g.Stock (tab6 fun x => AreaM b x))) (fun k s => rfl)]
                exact ⟨_, rfl, rfl, h, .inl ⟨rfl, fun _ => kk 6 k6⟩⟩
              · have hd : decide (a.A < (g.Entries.length : Int)) = false := by simpa using hlt
                have hin : inR a.A 0 ((g.Entries.length : Int) - 1) = false := inR_not.2 (by omega)
                simp only [hd, hin, Bool.not_false, cond_false, cond_true, Option.bind_some]
                exact ⟨(g, 0), rfl, rfl, h, .inl ⟨rfl, fun e => by simp at e⟩⟩
          · obtain ⟨w, s1, s2, s3, s4⟩ := rx_NewYear g h
            simp only [cond_false, cond_true, s1, s2, Option.bind_some, sq_inl]
            exact fin (fun w => w = ((⟨g.Members, g.Stock, g.Entries, g.Books, 0, wr (g.Year + 1)⟩ : GGuild), true) ∧ GuildOkM w.1 = true) w s3 s4 fun w hp => ⟨by rw [hp.1], .inr (.inr (.inr (.inr (.inr ⟨kk 5 k5, rfl, by rw [hp.1], hp.2⟩))))⟩
        · obtain ⟨w, s1, s2, s3, s4⟩ := rx_SwapRound g h
          simp only [cond_false, cond_true, s1, s2, Option.bind_some, sq_inl]
          exact fin (fun w => w = ((⟨g.Members, g.Stock, g.Entries, g.Books, wr (g.Round + 1), g.Year⟩ : GGuild), true) ∧ GuildOkM w.1 = true) w s3 s4 fun w hp => ⟨by rw [hp.1], .inr (.inr (.inr (.inr (.inl ⟨kk 4 k4, rfl, by rw [hp.1], hp.2⟩))))⟩
      · obtain ⟨w, s1, s2, s3, s4⟩ := rx_SewBlock g a.A h
        simp only [cond_false, cond_true, s1, s2, Option.bind_some, sq_inl]
        exact fin (SewTo g a.A) w s3 s4 fun w hp => by
          have hw : w = (w.1, true) := by obtain ⟨s, _, _, _, e, _⟩ := hp; rw [e]
          exact ⟨by rw [hw], .inr (.inr (.inr (.inl ⟨kk 3 k3, rfl, by rw [← hw]; exact hp⟩)))⟩
    · have hel : g.Entries.length ≤ 1048576 := h.2.2.1.1
      have hday : ∃ d : Int, (bif decide ((g.Entries.length : Int) > 0) then gd (0 ≤ wr ((g.Entries.length : Int) - 1) ∧ wr ((g.Entries.length : Int) - 1) < (g.Entries.length : Int)) (some (wr ((gx g.Entries (wr ((g.Entries.length : Int) - 1)).toNat).Day + 1))) else some 0) = some d := by
        cases hd : decide ((g.Entries.length : Int) > 0)
        · exact ⟨0, rfl⟩
        · have hd' : (g.Entries.length : Int) > 0 := by simpa using hd
          have e : wr ((g.Entries.length : Int) - 1) = (g.Entries.length : Int) - 1 := wr_of (by omega) (by omega)
          rw [e]
          exact ⟨_, by rw [cond_true, gd_pos ⟨by omega, by omega⟩]⟩
      obtain ⟨d, hd⟩ := hday
      obtain ⟨b, t1, t2, t3⟩ := ex_SampleBlock a.B
      obtain ⟨w, s1, s2, s3, s4⟩ := rx_Submit g a.A d b h t3
      simp only [cond_false, cond_true, hd, t1, t2, s1, s2, Option.bind_some, sq_inl]
      exact fin (SubmitTo g a.A d b) w s3 s4 fun w hp => by
        have hw : w = (w.1, true) := by rw [hp.2.1]
        exact ⟨by rw [hw], .inr (.inr (.inl ⟨kk 2 k2, rfl, d, b, by rw [← hw]; exact hp⟩))⟩
  · obtain ⟨w, s1, s2, s3, s4⟩ := rx_Admit g a.A h
    simp only [cond_true, s1, s2, Option.bind_some, sq_inl]
    exact fin (AdmitTo g a.A) w s3 s4 fun w hp => by
      have hw : w = (w.1, true) := by obtain ⟨r, d, _, _, _, _, e, _⟩ := hp; rw [e]
      exact ⟨by rw [hw], .inr (.inl ⟨kk 1 k1, rfl, by rw [← hw]; exact hp⟩)⟩

theorem ex_DoAct (g : GGuild) (a : GAct) (h : Sm.ok g) : ∃ w, spec_DoAct g a = some w ∧ impl_DoAct g a = some w ∧ Sm.ok w.1 :=
  have ⟨w, a, b, c, _⟩ := rx_DoAct g a h
  ⟨w, a, b, c⟩

def DoM (g : GGuild) (a : GAct) : GGuild × Int := (spec_DoAct g a).getD (g, 0)
theorem do_spec {g : GGuild} (h : Sm.ok g) (a : GAct) : spec_DoAct g a = some (DoM g a) ∧ impl_DoAct g a = some (DoM g a) ∧ Sm.ok (DoM g a).1 := by
  obtain ⟨w, h1, h2, h3⟩ := ex_DoAct g a h
  have e : DoM g a = w := by simp [DoM, h1]
  rw [e]
  exact ⟨h1, h2, h3⟩
def runM (g : GGuild) (acts : List GAct) : Nat → List Int × GGuild
  | 0 => ([], g)
  | k + 1 => ((runM g acts k).1 ++ [(DoM (runM g acts k).2 (gx acts k)).2], (DoM (runM g acts k).2 (gx acts k)).1)
theorem run_sm {g : GGuild} (h : Sm.ok g) (acts : List GAct) : ∀ k, Sm.ok (runM g acts k).2 ∧ (runM g acts k).1.length = k
  | 0 => ⟨h, rfl⟩
  | k + 1 => by
    obtain ⟨h1, h2⟩ := run_sm h acts k
    exact ⟨(do_spec h1 _).2.2, by simp [runM, h2]⟩
def tupG (s : List Int × GGuild) : (List Int) × (List GMember) × (List Int) × (List GEntry) × (List GBooking) × Int × Int := (s.1, s.2.Members, s.2.Stock, s.2.Entries, s.2.Books, s.2.Round, s.2.Year)
def RunM (g : GGuild) (acts : List GAct) : GGuild × List Int := bif !GuildOkM g || decide ((acts.length : Int) > 40) then (g, []) else ((runM g acts acts.length).2, (runM g acts acts.length).1)
theorem run_sm2 {g : GGuild} (h : Sm.ok g) (acts : List GAct) : Sm.ok (RunM g acts).1 ∧ Sm.ok (RunM g acts).2 := by
  unfold RunM
  cases hc : !GuildOkM g || decide ((acts.length : Int) > 40)
  · have hl : acts.length ≤ 40 := by
      simp only [Bool.or_eq_false_iff] at hc
      have := hc.2
      simp at this; omega
    obtain ⟨h1, h2⟩ := run_sm h acts acts.length
    exact ⟨h1, sm_ints (by simp only [cond_false]; omega)⟩
  · exact ⟨h, sm_ints (by simp)⟩

theorem impl_RunActs_eq {g : GGuild} (h : Sm.ok g) (acts : List GAct) : impl_RunActs g acts = some (RunM g acts) := by
  have hgl := sm_GL h
  unfold impl_RunActs RunM
  simp only [impl_Guild_copied_eq h, impl_GuildOk_eq g hgl, Option.bind_some]
  cases GuildOkM g
  · rfl
  cases hd : decide ((acts.length : Int) > 40)
  · have hl : acts.length ≤ 40 := by simp at hd; omega
    simp only [Bool.not_true, cond_false, Bool.or_self]
    rw [gd_pos (by omega), lpO_st (f := impl_RunActs_L1 acts) (s0 := (([] : List Int), g.Members, g.Stock, g.Entries, g.Books, g.Round, g.Year)) (fun k => tupG (runM g acts k)) rfl (fun k hk => by
      obtain ⟨h1, h2⟩ := run_sm h acts k
      have e : impl_DoAct ⟨(tupG (runM g acts k)).2.1, (tupG (runM g acts k)).2.2.1, (tupG (runM g acts k)).2.2.2.1, (tupG (runM g acts k)).2.2.2.2.1, (tupG (runM g acts k)).2.2.2.2.2.1, (tupG (runM g acts k)).2.2.2.2.2.2⟩ (gx acts k) = some (DoM (runM g acts k).2 (gx acts k)) := (do_spec h1 _).2.1
      unfold impl_RunActs_L1
      rw [e]
      simp only [Option.bind_some]
      rw [gd_pos (by show (runM g acts k).1.length + 1 ≤ _; omega)]
      rfl)]
    rfl
  · rfl

def sameIntsM (a b : List Int) : Bool := (a.length == b.length) && (List.range a.length).all fun k => gx a k == gx b k

/-- How many are not used below n. -/
def freeN (used : List Bool) : Nat → Nat
  | 0 => 0
  | n + 1 => freeN used n + (bif gx used n then 0 else 1)
theorem freeN_mono (used : List Bool) {a : Nat} : ∀ {b : Nat}, a ≤ b → freeN used a ≤ freeN used b
  | 0, h => by
    have : a = 0 := by omega
    rw [this]; exact Nat.le_refl _
  | b + 1, h => by
    rcases Nat.lt_or_ge a (b + 1) with h1 | h1
    · exact Nat.le_trans (freeN_mono used (b := b) (by omega)) (by rw [freeN]; omega)
    · have : a = b + 1 := by omega
      rw [this]; exact Nat.le_refl _
theorem freeN_le (used : List Bool) : ∀ n, freeN used n ≤ n
  | 0 => Nat.le_refl _
  | n + 1 => by
    have := freeN_le used n
    rw [freeN]
    cases gx used n <;> simp <;> omega

def nof : List Bool := List.replicate 6 false
/-- The picks by marks are the picks by cutting. -/
def chkB1 : Bool := (List.range 6).all fun i => freeN nof i == i && gx nof i == false && pkM [1] i six == [(i : Int)]
def secB (a b : Nat) : Nat := bif decide (b < a) then b else b + 1
def chkB2 : Bool := (List.range 30).all fun i => freeN nof (i / 5) == i / 5 && gx nof (i / 5) == false && freeN (nof.set (i / 5) true) (secB (i / 5) (i % 5)) == i % 5 && gx (nof.set (i / 5) true) (secB (i / 5) (i % 5)) == false && pkM [5, 1] i six == [((i / 5 : Nat) : Int), ((secB (i / 5) (i % 5) : Nat) : Int)] && decide (secB (i / 5) (i % 5) < 6)
def u3 (i : Nat) : List Bool := nof.set (i / 20) true
def s3 (i : Nat) : Nat := secB (i / 20) (i % 20 / 4)
def v3 (i : Nat) : List Bool := (u3 i).set (s3 i) true
def t3 (i : Nat) : Nat := (pkM [20, 4, 1] i six)[2]!.toNat
def chkB3 : Bool := (List.range 120).all fun i => freeN nof (i / 20) == i / 20 && gx nof (i / 20) == false && freeN (u3 i) (s3 i) == i % 20 / 4 && gx (u3 i) (s3 i) == false && freeN (v3 i) (t3 i) == i % 20 % 4 && gx (v3 i) (t3 i) == false && pkM [20, 4, 1] i six == [((i / 20 : Nat) : Int), ((s3 i : Nat) : Int), ((t3 i : Nat) : Int)] && decide (s3 i < 6) && decide (t3 i < 6)
theorem chkB1_ok : chkB1 = true := by decide +kernel
theorem chkB2_ok : chkB2 = true := by decide +kernel
theorem chkB3_ok : chkB3 = true := by decide +kernel

theorem forO_tot {S C : Type} {f : Nat → S → Option (Res S C)} (I : S → Prop) : ∀ (m k : Nat) (s : S), I s → (∀ j s, k ≤ j → j < k + m → I s → ∃ s', I s' ∧ (f j s = some (.next s') ∨ f j s = some (.brk s'))) → ∃ s', I s' ∧ forO f m k s = some (.inl s')
  | 0, _, s, hs, _ => ⟨s, hs, rfl⟩
  | m + 1, k, s, hs, h => by
    obtain ⟨s', hs', h1 | h1⟩ := h k s (Nat.le_refl _) (by omega) hs
    · obtain ⟨s2, h2, e2⟩ := forO_tot I m (k + 1) s' hs' fun j s hj hj2 => h j s (by omega) (by omega)
      exact ⟨s2, h2, by rw [forO, h1]; exact e2⟩
    · exact ⟨s', hs', by rw [forO, h1]; rfl⟩
theorem lpO_tot {S : Type} {f : Nat → S → Option (Res S Empty)} (I : S → Prop) {N : Nat} {s0 : S} (h0 : I s0) (h : ∀ j s, j < N → I s → ∃ s', I s' ∧ (f j s = some (.next s') ∨ f j s = some (.brk s'))) : ∃ s', I s' ∧ lpO f N s0 = some s' := by
  obtain ⟨s', h1, h2⟩ := forO_tot I N 0 s0 h0 fun j s _ hj => h j s (by omega)
  exact ⟨s', h1, by unfold lpO; rw [h2]; rfl⟩

/-- The cursor stands in the code. -/
def CurOk (c : List UInt8) (i : Int) : Prop := c.length ≤ 1048576 ∧ 0 ≤ i ∧ i ≤ c.length
theorem andI_255 (x : Int) : 0 ≤ andI x 255 ∧ andI x 255 ≤ 255 := by
  have h : (BitVec.ofInt 64 x &&& BitVec.ofInt 64 255).toNat ≤ 255 := by
    rw [BitVec.toNat_and]
    exact Nat.le_trans Nat.and_le_right (by decide)
  unfold andI
  rw [wr_of (by omega) (by omega)]
  omega
theorem u8_range (x : UInt8) : 0 ≤ (x.toNat : Int) ∧ (x.toNat : Int) ≤ 255 := by
  have := x.toNat_lt
  omega

theorem draw_New {c : List UInt8} (h : c.length ≤ 1048576) : ∃ g, spec_l01New c = some (0, g) ∧ CurOk c 0 := by
  obtain ⟨g, _, e⟩ := lpO_tot (f := spec_l01New_L1 c) (N := c.length) (s0 := wr (33041 + ((c.length : Nat) : Int))) (fun _ => True) trivial fun j s _ _ => by
    unfold spec_l01New_L1
    cases decide (((j : Nat) : Int) < 4000)
    · exact ⟨s, trivial, .inr rfl⟩
    · exact ⟨_, trivial, .inl rfl⟩
  refine ⟨g, ?_, h, by omega, by omega⟩
  unfold spec_l01New
  rw [gd_pos (by omega), e]
  rfl

theorem draw_Byte {c : List UInt8} {i g : Int} (h : CurOk c i) : ∃ x i' g', spec_l01Byte c i g = some (x, i', g') ∧ CurOk c i' ∧ 0 ≤ x ∧ x ≤ 255 := by
  obtain ⟨h0, h1, h2⟩ := h
  unfold spec_l01Byte
  by_cases hi : i < c.length
  · have e : decide (i < ((c.length : Nat) : Int)) = true := decide_eq_true hi
    simp only [e, cond_true]
    rw [gd_pos ⟨h1, hi⟩]
    have ew : wr (i + 1) = i + 1 := wr_of (by omega) (by omega)
    refine ⟨_, _, _, rfl, ⟨h0, ?_, ?_⟩, (andI_255 _).1, (andI_255 _).2⟩ <;> simp only [ew] <;> omega
  · have e : decide (i < ((c.length : Nat) : Int)) = false := decide_eq_false hi
    simp only [e, cond_false]
    exact ⟨_, _, _, rfl, ⟨h0, h1, h2⟩, (andI_255 _).1, (andI_255 _).2⟩

theorem draw_Below {c : List UInt8} {i g n : Int} (h : CurOk c i) (hn : n ≤ 1048576) : ∃ x i' g', spec_l01Below c i g n = some (x, i', g') ∧ CurOk c i' ∧ 0 ≤ x ∧ (0 < n → x < n) ∧ (n ≤ 0 → x = 0) := by
  unfold spec_l01Below
  by_cases h0 : n ≤ 0
  · rw [decide_eq_true h0, cond_true]
    exact ⟨0, i, g, rfl, h, by omega, by omega, fun _ => rfl⟩
  rw [decide_eq_false h0, cond_false]
  by_cases h1 : n ≤ 256
  · obtain ⟨x, i1, g1, e, hc, x0, x1⟩ := draw_Byte (g := g) h
    rw [decide_eq_true h1, cond_true, e]
    simp only [Option.bind_some]
    rw [gd_pos (by omega)]
    have hr := Int.tmod_lt_of_pos x (show 0 < n by omega)
    have hr0 := Int.tmod_nonneg n x0
    exact ⟨_, _, _, rfl, hc, hr0, fun _ => hr, fun hh => absurd hh (by omega)⟩
  · obtain ⟨x, i1, g1, e1, c1, x0, x1⟩ := draw_Byte (g := g) h
    obtain ⟨y, i2, g2, e2, c2, y0, y1⟩ := draw_Byte (g := g1) c1
    obtain ⟨z, i3, g3, e3, c3, z0, z1⟩ := draw_Byte (g := g2) c2
    obtain ⟨u, i4, g4, e4, c4, u0, u1⟩ := draw_Byte (g := g3) c3
    rw [decide_eq_false h1, cond_false, e1]
    simp only [Option.bind_some, e2, e3, e4]
    rw [gd_pos (by omega)]
    have w1 : wr (x * 16777216) = x * 16777216 := wr_of (by omega) (by omega)
    have w2 : wr (y * 65536) = y * 65536 := wr_of (by omega) (by omega)
    have w3 : wr (z * 256) = z * 256 := wr_of (by omega) (by omega)
    have w4 : wr (x * 16777216 + y * 65536) = x * 16777216 + y * 65536 := wr_of (by omega) (by omega)
    have w5 : wr (x * 16777216 + y * 65536 + z * 256) = x * 16777216 + y * 65536 + z * 256 := wr_of (by omega) (by omega)
    have w6 : wr (x * 16777216 + y * 65536 + z * 256 + u) = x * 16777216 + y * 65536 + z * 256 + u := wr_of (by omega) (by omega)
    have hr := Int.tmod_lt_of_pos (x * 16777216 + y * 65536 + z * 256 + u) (show 0 < n by omega)
    have hr0 := Int.tmod_nonneg n (show 0 ≤ x * 16777216 + y * 65536 + z * 256 + u by omega)
    refine ⟨_, _, _, rfl, c4, ?_, fun _ => ?_, fun hh => absurd hh (by omega)⟩
    · simp only [w1, w2, w3, w4, w5, w6]; exact hr0
    · simp only [w1, w2, w3, w4, w5, w6]; exact hr

theorem forO_inv {S C : Type} {f : Nat → S → Option (Res S C)} (I : Nat → S → Prop) : ∀ (m k : Nat) (s : S), I k s → (∀ j s, k ≤ j → j < k + m → I j s → ∃ s', I (j + 1) s' ∧ f j s = some (.next s')) → ∃ s', I (k + m) s' ∧ forO f m k s = some (.inl s')
  | 0, _, s, hs, _ => ⟨s, hs, rfl⟩
  | m + 1, k, s, hs, h => by
    obtain ⟨s', hs', h1⟩ := h k s (Nat.le_refl _) (by omega) hs
    obtain ⟨s2, h2, e2⟩ := forO_inv I m (k + 1) s' hs' fun j s hj hj2 => h j s (by omega) (by omega)
    exact ⟨s2, by rw [show k + (m + 1) = k + 1 + m by omega]; exact h2, by rw [forO, h1]; exact e2⟩
theorem lpO_inv2 {S : Type} {f : Nat → S → Option (Res S Empty)} (I : Nat → S → Prop) {N : Nat} {s0 : S} (h0 : I 0 s0) (h : ∀ j s, j < N → I j s → ∃ s', I (j + 1) s' ∧ f j s = some (.next s')) : ∃ s', I N s' ∧ lpO f N s0 = some s' := by
  obtain ⟨s', h1, h2⟩ := forO_inv I N 0 s0 h0 fun j s _ hj => h j s (by omega)
  exact ⟨s', by rw [Nat.zero_add] at h1; exact h1, by unfold lpO; rw [h2]; rfl⟩

theorem draw_Cell {c : List UInt8} {i g : Int} (h : CurOk c i) : ∃ x i' g', spec_l02Cell c i g = some (x, i', g') ∧ CurOk c i' ∧ CellOkM x = true := by
  obtain ⟨x, i1, g1, e1, c1, _⟩ := draw_Below (g := g) (n := 3) h (by omega)
  obtain ⟨y, i2, g2, e2, c2, _⟩ := draw_Below (g := g1) (n := 3) c1 (by omega)
  obtain ⟨z, i3, g3, e3, c3, _⟩ := draw_Below (g := g2) (n := 3) c2 (by omega)
  unfold spec_l02Cell
  rw [e1]
  simp only [Option.bind_some, e2, e3, spec_SplitCell_eq]
  exact ⟨_, _, _, rfl, c3, splitCell_ok _ _ _⟩

theorem whO_down {S C : Type} {f : S → Option (Res S C)} (I : S → Prop) (ct : S → Nat) (h : ∀ s, I s → (∃ s', I s' ∧ ct s' < ct s ∧ f s = some (.next s')) ∨ ∃ s', I s' ∧ f s = some (.brk s')) : ∀ (n fuel : Nat) (s : S), I s → ct s ≤ n → n < fuel → ∃ s', I s' ∧ whO f fuel s = some (.inl s')
  | _, 0, _, _, _, hf => absurd hf (by omega)
  | n, fuel + 1, s, hs, hn, hf => by
    rcases h s hs with ⟨s', h1, h2, h3⟩ | ⟨s', h1, h3⟩
    · cases n with
      | zero => omega
      | succ n =>
        obtain ⟨s2, k1, k2⟩ := whO_down I ct h n fuel s' h1 (by omega) (by omega)
        exact ⟨s2, k1, by rw [whO, h3]; exact k2⟩
    · exact ⟨s', h1, by rw [whO, h3]; rfl⟩

theorem book_true {xs : List GBooking} {b : GBooking} (h : (BookM xs b).2 = true) : (BookM xs b).1 = xs ++ [b] := by
  unfold BookM at h ⊢
  cases hc : LedgerOkM xs && LedgerOkM (xs ++ [b])
  · rw [hc] at h; cases h
  · rfl

theorem gx_last {α : Type} [Rep α] (l : List α) (x : α) : gx (l ++ [x]) l.length = x := by
  have := gx_mid l [] x rfl
  simpa using this

/-- No entry is a copy of an older one. -/
def NoCopy (xs : List GEntry) : Prop := ∀ k, k < xs.length → ∀ m, m < k → CopyM (gx xs k) (gx xs m) = false
/-- A guild with a history of its own. -/
def Hist (g : GGuild) : Prop := GuildOkM g = true ∧ NoCopy g.Entries ∧ ∀ b ∈ g.Books, b.From = 0 ∧ b.To = 1 ∧ b.Sum = 20
theorem hist_of {g x : GGuild} (h : Hist g) (he : x.Entries = g.Entries) (hb : x.Books = g.Books) (ok : GuildOkM x = true) : Hist x := ⟨ok, by rw [he]; exact h.2.1, by rw [hb]; exact h.2.2⟩

theorem guild_stock {g : GGuild} {s : List Int} (h : GuildOkM g = true) (hs : StockOkM s = true) : GuildOkM (⟨g.Members, s, g.Entries, g.Books, g.Round, g.Year⟩ : GGuild) = true := by
  simp only [GuildOkM, Bool.and_eq_true] at h ⊢
  obtain ⟨⟨⟨⟨⟨⟨a, _⟩, c⟩, d⟩, e⟩, f⟩, i⟩ := h
  exact ⟨⟨⟨⟨⟨⟨a, hs⟩, c⟩, d⟩, e⟩, f⟩, i⟩

theorem hist_admit {g : GGuild} {n : Int} {w : GGuild × Bool} (h : Hist g) (hw : w = (g, false) ∨ AdmitTo g n w) : Hist w.1 := by
  rcases hw with rfl | ⟨r, d, _, _, _, hb, rfl, hok⟩
  · exact h
  · refine ⟨hok, h.2.1, fun b hbm => ?_⟩
    have hbm' : b ∈ (BookM g.Books ⟨d, 0, 1, 20⟩).1 := hbm
    rw [book_true hb, List.mem_append, List.mem_singleton] at hbm'
    rcases hbm' with hh | rfl
    · exact h.2.2 b hh
    · exact ⟨rfl, rfl, rfl⟩

theorem hist_submit {g : GGuild} {n d : Int} {b : GBlock} {w : GGuild × Bool} (h : Hist g) (hw : w = (g, false) ∨ SubmitTo g n d b w) : Hist w.1 := by
  rcases hw with rfl | ⟨hno, rfl, hok⟩
  · exact h
  · refine ⟨hok, fun k hk m hm => ?_, h.2.2⟩
    simp only [List.length_append, List.length_cons, List.length_nil] at hk
    show CopyM (gx (g.Entries ++ [⟨n, d, b⟩]) k) (gx (g.Entries ++ [⟨n, d, b⟩]) m) = false
    by_cases hkl : k < g.Entries.length
    · rw [gx_append_left hkl, gx_append_left (show m < g.Entries.length by omega)]
      exact h.2.1 k hkl m hm
    · have e : k = g.Entries.length := by omega
      subst e
      rw [gx_last, gx_append_left hm]
      exact hno m hm

theorem hist_sew {g : GGuild} {k : Int} {w : GGuild × Bool} (h : Hist g) (hw : w = (g, false) ∨ SewTo g k w) : Hist w.1 := by
  rcases hw with rfl | ⟨s, _, _, _, rfl, _, hs⟩
  · exact h
  · exact hist_of h rfl rfl (guild_stock h.1 hs)

theorem do_to {g : GGuild} (h : Sm.ok g) (a : GAct) : DoTo g a (DoM g a) := by
  obtain ⟨w, h1, _, _, h4⟩ := rx_DoAct g a h
  have e : DoM g a = w := by simp [DoM, h1]
  rw [e]; exact h4

theorem hist_do {g : GGuild} (h : Hist g) (a : GAct) : Hist (DoM g a).1 := by
  rcases do_to (guildOk_sm h.1) a with ⟨e, _⟩ | ⟨_, _, hh⟩ | ⟨_, _, d, b, hh⟩ | ⟨_, _, hh⟩ | ⟨_, _, e, ok⟩ | ⟨_, _, e, ok⟩
  · rw [e]; exact h
  · exact hist_admit (w := ((DoM g a).1, true)) h (.inr hh)
  · exact hist_submit (w := ((DoM g a).1, true)) h (.inr hh)
  · exact hist_sew (w := ((DoM g a).1, true)) h (.inr hh)
  · exact hist_of h (by rw [e]) (by rw [e]) ok
  · exact hist_of h (by rw [e]) (by rw [e]) ok

theorem hist_run {g : GGuild} (h : Hist g) (acts : List GAct) : ∀ k, Hist (runM g acts k).2
  | 0 => h
  | k + 1 => hist_do (hist_run h acts k) _
theorem RunM_few {g : GGuild} (h : Hist g) {acts : List GAct} (hl : acts.length ≤ 40) : RunM g acts = ((runM g acts acts.length).2, (runM g acts acts.length).1) := by
  unfold RunM
  rw [h.1, decide_eq_false (show ¬ (acts.length : Int) > 40 by omega)]
  rfl

theorem new_ok {y : Int} (h1 : 1900 ≤ y) (h2 : y ≤ 2999) : spec_NewGuild y = some ((⟨[], [1000, 1000, 1000, 1000, 1000, 1000], [], [], 0, y⟩ : GGuild), true) ∧ Hist (⟨[], [1000, 1000, 1000, 1000, 1000, 1000], [], [], 0, y⟩ : GGuild) := by
  have hg : GL (⟨[], [1000, 1000, 1000, 1000, 1000, 1000], [], [], 0, y⟩ : GGuild) := ⟨by simp, by simp, by simp, by simp⟩
  have hl : lpO spec_NewGuild_L1 6 ([] : List Int) = some [1000, 1000, 1000, 1000, 1000, 1000] := rfl
  have hk : GuildOkM (⟨[], [1000, 1000, 1000, 1000, 1000, 1000], [], [], 0, y⟩ : GGuild) = true := by
    simp [GuildOkM, RoundsM, GoodM, StockOkM, MembersOkM, LedgerOkM, inR, h1, h2]
  refine ⟨?_, hk, fun k hk => by simp at hk, fun b hb => by simp at hb⟩
  unfold spec_NewGuild
  rw [hl]
  simp only [Option.bind_some, spec_GuildOk_eq _ hg, hk]
  rfl

theorem sample_hist : ∃ w, spec_SampleGuild = some w ∧ Hist w := by
  obtain ⟨n1, n3⟩ := new_ok (y := 2020) (by omega) (by omega)
  obtain ⟨s, s1, s2⟩ := lpO_inv2 (f := spec_SampleGuild_L1) (N := 3) (s0 := (([] : List GMember), [1000, 1000, 1000, 1000, 1000, 1000], ([] : List GEntry), ([] : List GBooking), 0, 2020)) (fun _ s => Hist ⟨s.1, s.2.1, s.2.2.1, s.2.2.2.1, s.2.2.2.2.1, s.2.2.2.2.2⟩) n3 fun k s hk hs => by
    obtain ⟨v, v1, _, _, v4⟩ := rx_Admit ⟨s.1, s.2.1, s.2.2.1, s.2.2.2.1, s.2.2.2.2.1, s.2.2.2.2.2⟩ ((k + 1 : Nat) : Int) (guildOk_sm hs.1)
    unfold spec_SampleGuild_L1
    rw [v1]
    have hv : Hist v.1 := hist_admit hs v4
    exact ⟨(v.1.Members, v.1.Stock, v.1.Entries, v.1.Books, v.1.Round, v.1.Year), hv, rfl⟩
  unfold spec_SampleGuild
  rw [n1]
  simp only [Option.bind_some]
  rw [s2]
  exact ⟨_, rfl, s1⟩

theorem wlO_down {S : Type} {f : S → Option (Res S Empty)} (I : S → Prop) (ct : S → Nat) (h : ∀ s, I s → (∃ s', I s' ∧ ct s' < ct s ∧ f s = some (.next s')) ∨ ∃ s', I s' ∧ f s = some (.brk s')) {fuel : Nat} {s : S} (hs : I s) (hf : ct s < fuel) : ∃ s', I s' ∧ wlO f fuel s = some s' := by
  obtain ⟨s', h1, h2⟩ := whO_down I ct h (ct s) fuel s hs (Nat.le_refl _) hf
  exact ⟨s', h1, by unfold wlO; rw [h2]; rfl⟩

theorem pay_num {xs : List GMember} {n : Int} {x : GMember} (h : x ∈ (PayM xs n).1) : ∃ y ∈ xs, x.Number = y.Number := by
  unfold PayM at h
  cases hc : MembersOkM xs && xs.any (fun m => m.Number == n) && MembersOkM (xs.map (dueM n))
  · rw [hc] at h
    exact ⟨x, h, rfl⟩
  · rw [hc, cond_true] at h
    obtain ⟨y, hy, rfl⟩ := List.mem_map.1 h
    refine ⟨y, hy, ?_⟩
    unfold dueM
    cases y.Number == n <;> rfl
/-- A guild with few members, bookings and days. -/
def Few (g : GGuild) (m : Int) : Prop := (∀ x ∈ g.Members, x.Number ≤ 8) ∧ (g.Members.length : Int) ≤ m ∧ (g.Books.length : Int) ≤ m ∧ g.Year ≤ 2100 ∧ ∀ e ∈ g.Entries, e.Day ≤ 100
theorem few_admit {g : GGuild} {n m : Int} {w : GGuild × Bool} (hs : Sm.ok g) (h : Few g m) (hn : n ≤ 8) (hw : w = (g, false) ∨ AdmitTo g n w) : Few w.1 (m + 1) := by
  obtain ⟨f1, f2, f3, f4, f5⟩ := h
  rcases hw with rfl | ⟨r, d, e1, _, _, _, rfl, _⟩
  · exact ⟨f1, by simp only; omega, by simp only; omega, f4, f5⟩
  · obtain ⟨r', _, _, q1, q2, _, q3, _⟩ := rx_join g.Members n g.Year hs.1.1
    rw [e1] at q2
    cases q2
    have pl := pay_len r.1 n
    have bl := book_len g.Books ⟨d, 0, 1, 20⟩
    refine ⟨fun x hx => ?_, ?_, ?_, f4, f5⟩
    · obtain ⟨y, hy, e⟩ := pay_num hx
      rw [e]
      rcases q3 y hy with h | h
      · exact f1 y h
      · omega
    · show (((PayM r.1 n).1.length : Nat) : Int) ≤ m + 1
      omega
    · show (((BookM g.Books ⟨d, 0, 1, 20⟩).1.length : Nat) : Int) ≤ m + 1
      omega
theorem few_submit {g : GGuild} {n d m : Int} {b : GBlock} {w : GGuild × Bool} (h : Few g m) (hd : d ≤ 100) (hw : w = (g, false) ∨ SubmitTo g n d b w) : Few w.1 m := by
  obtain ⟨f1, f2, f3, f4, f5⟩ := h
  rcases hw with rfl | ⟨_, rfl, _⟩
  · exact ⟨f1, f2, f3, f4, f5⟩
  · refine ⟨f1, f2, f3, f4, fun e he => ?_⟩
    rcases List.mem_append.1 he with he | he
    · exact f5 e he
    · rw [List.mem_singleton.1 he]; exact hd

theorem draw_Stock {c : List UInt8} {i g : Int} (h : CurOk c i) : ∃ l i' g', spec_l31Stock c i g 60 = some (l, i', g') ∧ CurOk c i' ∧ StockOkM l = true := by
  obtain ⟨s, ⟨s1, s2, s3⟩, es⟩ := lpO_inv2 (f := spec_l31Stock_L1 c 60) (N := 6) (s0 := (([] : List Int), i, g)) (fun k s => s.1.length = k ∧ CurOk c s.2.1 ∧ ∀ x ∈ s.1, inR x 0 1000000 = true) ⟨rfl, h, by simp⟩ fun k s hk hs => by
    obtain ⟨s1, s2, s3⟩ := hs
    obtain ⟨x, i1, g1, e1, c1, x0, x1, _⟩ := draw_Below (g := s.2.2) (n := 60) s2 (by omega)
    have x2 := x1 (by omega)
    unfold spec_l31Stock_L1
    rw [e1]
    simp only [Option.bind_some]
    rw [gd_pos (by omega)]
    refine ⟨_, ⟨by simp [s1], c1, fun z hz => ?_⟩, rfl⟩
    rcases List.mem_append.1 hz with hz | hz
    · exact s3 z hz
    · rw [List.mem_singleton.1 hz]; exact inR_iff.2 ⟨x0, by omega⟩
  unfold spec_l31Stock
  rw [es]
  refine ⟨_, _, _, rfl, s2, ?_⟩
  simp only [StockOkM, Bool.and_eq_true, List.all_eq_true, beq_iff_eq]
  exact ⟨s3, by omega⟩

def g8 (t : (List GMember) × (List Int) × (List GEntry) × (List GBooking) × Int × Int) : GGuild := ⟨t.1, t.2.1, t.2.2.1, t.2.2.2.1, t.2.2.2.2.1, t.2.2.2.2.2⟩
theorem draw_admits {c : List UInt8} {k i g : Int} {t : (List GMember) × (List Int) × (List GEntry) × (List GBooking) × Int × Int} (h : CurOk c i) (k0 : 0 ≤ k) (k1 : k ≤ 4) (ht : Hist (g8 t)) (hf : Few (g8 t) (4 - k)) : ∃ s, wlO (spec_l38Guild_L1 c) 18446744073709551616 (k, i, g, t) = some s ∧ CurOk c s.2.1 ∧ Hist (g8 s.2.2.2) ∧ Few (g8 s.2.2.2) 4 := by
  obtain ⟨s, ⟨s1, s2, s3, _, s5⟩, es⟩ := wlO_down (f := spec_l38Guild_L1 c) (fun s => CurOk c s.2.1 ∧ Hist (g8 s.2.2.2) ∧ 0 ≤ s.1 ∧ s.1 ≤ 4 ∧ Few (g8 s.2.2.2) (4 - s.1)) (fun s => s.1.toNat) (fun s hs => by
    obtain ⟨s1, s2, s3, s4, s5⟩ := hs
    unfold spec_l38Guild_L1
    by_cases hp : s.1 > 0
    · left
      obtain ⟨x, i1, g1, e1, c1, x0, x1, _⟩ := draw_Below (g := s.2.2.1) (n := 8) s1 (by omega)
      have ew : wr (s.1 - 1) = s.1 - 1 := wr_of (by omega) (by omega)
      obtain ⟨v, v1, _, _, v4⟩ := rx_Admit (g8 s.2.2.2) (wr (1 + x)) (guildOk_sm s2.1)
      rw [decide_eq_true hp, cond_true, e1]
      simp only [Option.bind_some]
      unfold g8 at v1
      rw [v1]
      have hv : Hist v.1 := hist_admit s2 v4
      have x2 := x1 (by omega)
      have hq : Few v.1 (4 - s.1 + 1) := few_admit (guildOk_sm s2.1) s5 (by rw [wr_of (by omega) (by omega)]; omega) v4
      refine ⟨(wr (s.1 - 1), i1, g1, v.1.Members, v.1.Stock, v.1.Entries, v.1.Books, v.1.Round, v.1.Year), ⟨c1, hv, by simp only [ew]; omega, by simp only [ew]; omega, by simp only [ew]; rw [show 4 - (s.1 - 1) = 4 - s.1 + 1 by omega]; exact hq⟩, by simp only [ew]; omega, rfl⟩
    · right
      rw [decide_eq_false hp, cond_false]
      exact ⟨s, ⟨s1, s2, s3, s4, s5⟩, rfl⟩) (s := (k, i, g, t)) (fuel := 18446744073709551616) ⟨h, ht, k0, k1, hf⟩ (by simp only; omega)
  exact ⟨s, es, s1, s2, s5.1, by have := s5.2.1; omega, by have := s5.2.2.1; omega, s5.2.2.2⟩

theorem draw_cells4 {c : List UInt8} {i g : Int} (h : CurOk c i) : ∃ s, lpO (spec_l38Guild_L3 c) 4 (([] : List GCell), i, g) = some s ∧ CurOk c s.2.1 ∧ s.1.length = 4 ∧ ∀ x ∈ s.1, CellOkM x = true := by
  obtain ⟨s, ⟨s1, s2, s3⟩, es⟩ := lpO_inv2 (f := spec_l38Guild_L3 c) (N := 4) (s0 := (([] : List GCell), i, g)) (fun k s => s.1.length = k ∧ CurOk c s.2.1 ∧ ∀ x ∈ s.1, CellOkM x = true) ⟨rfl, h, by simp⟩ fun k s hk hs => by
    obtain ⟨s1, s2, s3⟩ := hs
    obtain ⟨y, i3, g3, e3, c3, hy⟩ := draw_Cell (g := s.2.2) s2
    unfold spec_l38Guild_L3
    rw [e3]
    simp only [Option.bind_some]
    rw [gd_pos (by omega)]
    refine ⟨_, ⟨by simp [s1], c3, fun z hz => ?_⟩, rfl⟩
    rcases List.mem_append.1 hz with hz | hz
    · exact s3 z hz
    · rw [List.mem_singleton.1 hz]; exact hy
  exact ⟨s, es, s2, s1, s3⟩

theorem draw_submits {c : List UInt8} {d k i g : Int} {t : (List GMember) × (List Int) × (List GEntry) × (List GBooking) × Int × Int} (h : CurOk c i) (k0 : 0 ≤ k) (k1 : k ≤ 3) (ht : Hist (g8 t)) (hf : Few (g8 t) 4) (d0 : 0 ≤ d) (dk : d + 2 * k ≤ 6) : ∃ s, wlO (spec_l38Guild_L2 c) 18446744073709551616 (d, k, i, g, t) = some s ∧ CurOk c s.2.2.1 ∧ Hist (g8 s.2.2.2.2) ∧ Few (g8 s.2.2.2.2) 4 := by
  obtain ⟨s, ⟨s1, s2, _, _, s5, _⟩, es⟩ := wlO_down (f := spec_l38Guild_L2 c) (fun s => CurOk c s.2.2.1 ∧ Hist (g8 s.2.2.2.2) ∧ 0 ≤ s.2.1 ∧ s.2.1 ≤ 3 ∧ Few (g8 s.2.2.2.2) 4 ∧ 0 ≤ s.1 ∧ s.1 + 2 * s.2.1 ≤ 6) (fun s => s.2.1.toNat) (fun s hs => by
    obtain ⟨s1, s2, s3, s4, s5, s6, s7⟩ := hs
    unfold spec_l38Guild_L2
    by_cases hp : s.2.1 > 0
    · by_cases hm : ((s.2.2.2.2.1.length : Nat) : Int) > 0
      · left
        have hml : s.2.2.2.2.1.length ≤ 40 := memOk_len (guild_parts s2.1).1
        obtain ⟨x, i1, g1, e1, c1, x0, x1, _⟩ := draw_Below (g := s.2.2.2.1) (n := 3) s1 (by omega)
        obtain ⟨q, e2, c2, q1, _⟩ := draw_cells4 (g := g1) c1
        obtain ⟨y, i3, g3, e3, c3, y0, y1, _⟩ := draw_Below (g := q.2.2) (n := ((s.2.2.2.2.1.length : Nat) : Int)) c2 (by omega)
        have y2 := y1 (by omega)
        have ew : wr (s.2.1 - 1) = s.2.1 - 1 := wr_of (by omega) (by omega)
        obtain ⟨v, v1, _, _, v4⟩ := rx_Submit (g8 s.2.2.2.2) (gx s.2.2.2.2.1 y.toNat).Number (wr (s.1 + x)) ⟨2, q.1⟩ (guildOk_sm s2.1) ⟨by simp only; omega, fun _ _ => trivial⟩
        rw [decide_eq_true hp, decide_eq_true hm, Bool.and_self, cond_true, e1]
        simp only [Option.bind_some]
        rw [e2]
        simp only [Option.bind_some]
        rw [e3]
        simp only [Option.bind_some]
        rw [gd_pos ⟨y0, y2⟩]
        unfold g8 at v1
        rw [v1]
        have hv : Hist v.1 := hist_submit s2 v4
        have x2 := x1 (by omega)
        have ex : wr (s.1 + x) = s.1 + x := wr_of (by omega) (by omega)
        have hq : Few v.1 4 := few_submit s5 (by omega) v4
        refine ⟨(wr (s.1 + x), wr (s.2.1 - 1), i3, g3, v.1.Members, v.1.Stock, v.1.Entries, v.1.Books, v.1.Round, v.1.Year), ⟨c3, hv, by simp only [ew]; omega, by simp only [ew]; omega, hq, by simp only [ex]; omega, by simp only [ew, ex]; omega⟩, by simp only [ew]; omega, rfl⟩
      · right
        rw [decide_eq_false hm, Bool.and_false, cond_false]
        exact ⟨s, ⟨s1, s2, s3, s4, s5, s6, s7⟩, rfl⟩
    · right
      rw [decide_eq_false hp, Bool.false_and, cond_false]
      exact ⟨s, ⟨s1, s2, s3, s4, s5, s6, s7⟩, rfl⟩) (s := (d, k, i, g, t)) (fuel := 18446744073709551616) ⟨h, ht, k0, k1, hf, d0, dk⟩ (by simp only; omega)
  exact ⟨s, es, s1, s2, s5⟩

theorem draw_rounds {k : Int} {t : (List GMember) × (List Int) × (List GEntry) × (List GBooking) × Int × Int} (k0 : 0 ≤ k) (k1 : k ≤ 3) (ht : Hist (g8 t)) (hf : Few (g8 t) 4) : ∃ s, wlO spec_l38Guild_L4 18446744073709551616 (k, t) = some s ∧ Hist (g8 s.2) ∧ Few (g8 s.2) 4 := by
  obtain ⟨s, ⟨s2, _, _, s5⟩, es⟩ := wlO_down (f := spec_l38Guild_L4) (fun s => Hist (g8 s.2) ∧ 0 ≤ s.1 ∧ s.1 ≤ 3 ∧ Few (g8 s.2) 4) (fun s => s.1.toNat) (fun s hs => by
    obtain ⟨s2, s3, s4, s5⟩ := hs
    unfold spec_l38Guild_L4
    by_cases hp : s.1 > 0
    · left
      have ew : wr (s.1 - 1) = s.1 - 1 := wr_of (by omega) (by omega)
      obtain ⟨v, v1, _, _, v4⟩ := rx_SwapRound (g8 s.2) (guildOk_sm s2.1)
      have hv : Hist v.1 := by
        rcases v4 with rfl | ⟨rfl, ok⟩
        · exact s2
        · exact hist_of s2 rfl rfl ok
      have hq : Few v.1 4 := by
        rcases v4 with rfl | ⟨rfl, ok⟩
        · exact s5
        · exact s5
      rw [decide_eq_true hp, cond_true]
      unfold g8 at v1
      rw [v1]
      refine ⟨(wr (s.1 - 1), v.1.Members, v.1.Stock, v.1.Entries, v.1.Books, v.1.Round, v.1.Year), ⟨hv, by simp only [ew]; omega, by simp only [ew]; omega, hq⟩, by simp only [ew]; omega, rfl⟩
    · right
      rw [decide_eq_false hp, cond_false]
      exact ⟨s, ⟨s2, s3, s4, s5⟩, rfl⟩) (s := (k, t)) (fuel := 18446744073709551616) ⟨ht, k0, k1, hf⟩ (by simp only; omega)
  exact ⟨s, es, s2, s5⟩

theorem draw_Guild {c : List UInt8} {i g : Int} (h : CurOk c i) : ∃ q i' g', spec_l38Guild c i g = some (q, i', g') ∧ CurOk c i' ∧ Hist q ∧ Few q 4 := by
  obtain ⟨x1, i1, g1, e1, c1, a1, b1, _⟩ := draw_Below (g := g) (n := 20) h (by omega)
  have b1' := b1 (by omega)
  obtain ⟨n1, n2⟩ := new_ok (y := wr (2000 + x1)) (by rw [wr_of (by omega) (by omega)]; omega) (by rw [wr_of (by omega) (by omega)]; omega)
  obtain ⟨x2, i2, g2, e2, c2, a2, b2, _⟩ := draw_Below (g := g1) (n := 5) c1 (by omega)
  have b2' := b2 (by omega)
  have nf : Few (g8 (([] : List GMember), [1000, 1000, 1000, 1000, 1000, 1000], ([] : List GEntry), ([] : List GBooking), 0, wr (2000 + x1))) (4 - x2) := ⟨fun x hx => (by cases hx), (by show ((0 : Nat) : Int) ≤ _; omega), (by show ((0 : Nat) : Int) ≤ _; omega), (by show wr (2000 + x1) ≤ 2100; rw [wr_of (by omega) (by omega)]; omega), fun e he => (by cases he)⟩
  obtain ⟨s1, e3, c3, h3, f3⟩ := draw_admits (g := g2) (t := (([] : List GMember), [1000, 1000, 1000, 1000, 1000, 1000], ([] : List GEntry), ([] : List GBooking), 0, wr (2000 + x1))) c2 a2 (by omega) n2 nf
  obtain ⟨x4, i4, g4, e4, c4, a4, b4, _⟩ := draw_Below (g := s1.2.2.1) (n := 4) c3 (by omega)
  have b4' := b4 (by omega)
  obtain ⟨s2, e5, c5, h5, f5⟩ := draw_submits (d := 0) (g := g4) (t := s1.2.2.2) c4 a4 (by omega) h3 f3 (by omega) (by omega)
  obtain ⟨x6, i6, g6, e6, c6, a6, b6, _⟩ := draw_Below (g := s2.2.2.2.1) (n := 4) c5 (by omega)
  have b6' := b6 (by omega)
  obtain ⟨s3, e7, h7, f7⟩ := draw_rounds (k := x6) (t := s2.2.2.2.2) a6 (by omega) h5 f5
  obtain ⟨x8, i8, g8', e8, c8, _⟩ := draw_Below (g := g6) (n := 3) c6 (by omega)
  unfold spec_l38Guild
  rw [e1]
  simp only [Option.bind_some]
  rw [n1]
  simp only [Option.bind_some]
  rw [e2]
  simp only [Option.bind_some]
  rw [e3]
  simp only [Option.bind_some]
  rw [e4]
  simp only [Option.bind_some]
  rw [e5]
  simp only [Option.bind_some]
  rw [e6]
  simp only [Option.bind_some]
  rw [e7]
  simp only [Option.bind_some]
  unfold spec_l01Once
  rw [e8]
  simp only [Option.bind_some]
  cases hx : x8 == 0
  · simp only [cond_false, Option.bind_some]
    exact ⟨_, _, _, rfl, c8, h7, f7⟩
  · obtain ⟨l, i9, g9, e9, c9, hl⟩ := draw_Stock (g := g8') c8
    simp only [cond_true, e9, Option.bind_some]
    exact ⟨_, _, _, rfl, c9, hist_of h7 rfl rfl (guild_stock h7.1 hl), f7⟩

theorem draw_Act {c : List UInt8} {i g : Int} (h : CurOk c i) : ∃ a i' g', spec_l39Act c i g = some (a, i', g') ∧ CurOk c i' ∧ ActOkM a = true := by
  obtain ⟨x, i1, g1, e1, c1, _⟩ := draw_Below (g := g) (n := 8) h (by omega)
  unfold spec_l39Act
  rw [e1]
  simp only [Option.bind_some]
  cases x == 0
  · cases x == 1 || x == 2
    · cases x == 3
      · cases x == 4 || x == 5
        · cases x == 6
          · obtain ⟨y, i2, g2, e2, c2, y0, y1, _⟩ := draw_Below (g := g1) (n := 4) c1 (by omega)
            have y2 := y1 (by omega)
            simp only [cond_false, e2, Option.bind_some]
            exact ⟨_, _, _, rfl, c2, by unfold ActOkM; simp [inR]; omega⟩
          · exact ⟨_, _, _, rfl, c1, by decide⟩
        · exact ⟨_, _, _, rfl, c1, by decide⟩
      · obtain ⟨y, i2, g2, e2, c2, y0, y1, _⟩ := draw_Below (g := g1) (n := 4) c1 (by omega)
        have y2 := y1 (by omega)
        simp only [cond_false, cond_true, e2, Option.bind_some]
        exact ⟨_, _, _, rfl, c2, by unfold ActOkM; simp [inR]; omega⟩
    · obtain ⟨y, i2, g2, e2, c2, y0, y1, _⟩ := draw_Below (g := g1) (n := 5) c1 (by omega)
      have y2 := y1 (by omega)
      obtain ⟨z, i3, g3, e3, c3, z0, z1, _⟩ := draw_Below (g := g2) (n := 10) c2 (by omega)
      have z2 := z1 (by omega)
      have ew : wr (1 + y) = 1 + y := wr_of (by omega) (by omega)
      simp only [cond_false, cond_true, e2, e3, ew, Option.bind_some]
      exact ⟨_, _, _, rfl, c3, by unfold ActOkM; simp [inR]; omega⟩
  · obtain ⟨y, i2, g2, e2, c2, y0, y1, _⟩ := draw_Below (g := g1) (n := 8) c1 (by omega)
    have y2 := y1 (by omega)
    have ew : wr (1 + y) = 1 + y := wr_of (by omega) (by omega)
    simp only [cond_true, e2, ew, Option.bind_some]
    exact ⟨_, _, _, rfl, c2, by unfold ActOkM; simp [inR]; omega⟩

theorem draw_ActList {c : List UInt8} {i g : Int} (h : CurOk c i) : ∃ l i' g', spec_l39List c i g = some (l, i', g') ∧ CurOk c i' ∧ l.length ≤ 13 ∧ ∀ a ∈ l, ActOkM a = true := by
  obtain ⟨x, i1, g1, e1, c1, x0, x1, _⟩ := draw_Below (g := g) (n := 14) h (by omega)
  have x2 := x1 (by omega)
  obtain ⟨s, ⟨s1, s2, s3⟩, es⟩ := lpO_inv2 (f := spec_l39List_L1 c) (N := x.toNat) (s0 := (([] : List GAct), i1, g1)) (fun k s => s.1.length = k ∧ CurOk c s.2.1 ∧ ∀ x ∈ s.1, ActOkM x = true) ⟨rfl, c1, by simp⟩ fun k s hk hs => by
    obtain ⟨s1, s2, s3⟩ := hs
    obtain ⟨y, i3, g3, e3, c3, hy⟩ := draw_Act (g := s.2.2) s2
    unfold spec_l39List_L1
    rw [e3]
    simp only [Option.bind_some]
    rw [gd_pos (by omega)]
    refine ⟨_, ⟨by simp [s1], c3, fun z hz => ?_⟩, rfl⟩
    rcases List.mem_append.1 hz with hz | hz
    · exact s3 z hz
    · rw [List.mem_singleton.1 hz]; exact hy
  unfold spec_l39List
  rw [e1]
  simp only [Option.bind_some]
  rw [gd_pos (by omega), es]
  exact ⟨_, _, _, rfl, s2, by omega, s3⟩

theorem draw_Acts {c : List UInt8} (h : c.length ≤ 1048576) : ∃ q l, spec_DrawActs c = some (q, l) ∧ Hist q ∧ l.length ≤ 13 ∧ ∀ a ∈ l, ActOkM a = true := by
  obtain ⟨g0, e0, c0⟩ := draw_New h
  obtain ⟨x, i1, g1, e1, c1, _⟩ := draw_Below (g := g0) (n := 2) c0 (by omega)
  obtain ⟨w, ew, hw⟩ := sample_hist
  obtain ⟨q, i2, g2, e2, c2, hq, _⟩ := draw_Guild (g := g1) c1
  have hg : ∃ q i' g', spec_l39Guild c 0 g0 = some (q, i', g') ∧ CurOk c i' ∧ Hist q := by
    unfold spec_l39Guild spec_l01Once
    rw [e1]
    simp only [Option.bind_some]
    cases x == 0
    · simp only [cond_false, e2, Option.bind_some]
      exact ⟨_, _, _, rfl, c2, hq⟩
    · simp only [cond_true, ew, Option.bind_some]
      exact ⟨_, _, _, rfl, c1, hw⟩
  obtain ⟨q, i3, g3, e3, c3, hq⟩ := hg
  obtain ⟨l, i4, g4, e4, c4, l1, l2⟩ := draw_ActList (g := g3) c3
  unfold spec_DrawActs
  rw [e0]
  simp only [Option.bind_some]
  rw [e3]
  simp only [Option.bind_some]
  rw [e4]
  exact ⟨_, _, rfl, hq, l1, l2⟩

theorem draw_Places {c : List UInt8} (h : c.length ≤ 1048576) : ∃ l, spec_DrawPlaces c = some l ∧ l.length = 12 ∧ ∀ x ∈ l, 0 ≤ x ∧ x < 10000 := by
  obtain ⟨g0, e0, c0⟩ := draw_New h
  obtain ⟨s, ⟨s1, s2, s3⟩, es⟩ := lpO_inv2 (f := spec_DrawPlaces_L1 c) (N := 12) (s0 := (([] : List Int), 0, g0)) (fun k s => s.1.length = k ∧ CurOk c s.2.1 ∧ ∀ x ∈ s.1, 0 ≤ x ∧ x < 10000) ⟨rfl, c0, by simp⟩ fun k s hk hs => by
    obtain ⟨s1, s2, s3⟩ := hs
    obtain ⟨y, i3, g3, e3, c3, y0, y1, _⟩ := draw_Below (g := s.2.2) (n := 10000) s2 (by omega)
    unfold spec_DrawPlaces_L1
    rw [e3]
    simp only [Option.bind_some]
    rw [gd_pos (by omega)]
    refine ⟨_, ⟨by simp [s1], c3, fun z hz => ?_⟩, rfl⟩
    rcases List.mem_append.1 hz with hz | hz
    · exact s3 z hz
    · rw [List.mem_singleton.1 hz]; exact ⟨y0, y1 (by omega)⟩
  unfold spec_DrawPlaces
  rw [e0]
  simp only [Option.bind_some]
  rw [es]
  exact ⟨_, rfl, s1, s3⟩

theorem wr_next {x : Int} : wr (x + 1) ≠ x := by
  intro h
  rw [wr_eq] at h
  omega
theorem sameInts_self (a : List Int) : sameIntsM a a = true := by
  unfold sameIntsM; simp
theorem sameInts_set {a : List Int} {k : Nat} (hk : k < a.length) : sameIntsM a (a.set k (wr (gx a k + 1))) = false := by
  unfold sameIntsM
  rw [Bool.and_eq_false_iff]
  right
  rw [List.all_eq_false]
  refine ⟨k, by simpa using hk, ?_⟩
  have : gx (a.set k (wr (gx a k + 1))) k = wr (gx a k + 1) := by rw [gx_lt (by simpa using hk)]; simp
  rw [this]
  have := wr_next (x := gx a k)
  simp only [beq_iff_eq]
  intro h
  exact this h.symm

theorem laws_sameInts_eq {a b : List Int} (ha : a.length ≤ 1048576) : laws_sameInts a b = some (sameIntsM a b) := by
  unfold laws_sameInts sameIntsM
  simp only [bne, nat_beq_int]
  cases hl : a.length == b.length
  · rfl
  · have hl' : a.length = b.length := by simpa using hl
    simp only [Bool.not_true, cond_false, Bool.true_and]
    rw [gd_pos (by omega), forO_all (f := laws_sameInts_L1 a b) (c := false) (fun k => gx a k == gx b k) (fun k hk => by
      unfold laws_sameInts_L1
      rw [gd_pos (by omega)]
      simp only [bne]
      cases gx a k == gx b k <;> rfl)]
    cases (List.range a.length).all fun k => gx a k == gx b k <;> rfl

theorem guild_round {g : GGuild} (h : GuildOkM g = true) : 0 ≤ g.Round ∧ g.Round ≤ RoundsM g := by
  simp only [GuildOkM, Bool.and_eq_true] at h
  exact inR_iff.1 h.2

theorem rounds_bound (g : GGuild) : 0 ≤ RoundsM g ∧ RoundsM g ≤ 9 := by
  unfold RoundsM
  cases h : inR ((GoodM g.Members g.Year).length : Int) 2 10
  · simp
  · have := inR_iff.1 h
    simp only [cond_true]; omega
theorem guild_year {g : GGuild} (h : GuildOkM g = true) : 1900 ≤ g.Year ∧ g.Year ≤ 2999 := by
  simp only [GuildOkM, Bool.and_eq_true] at h
  exact inR_iff.1 h.1.1.2

theorem seq_self (s : Str) : seq s s = true := by unfold seq; simp

theorem dec_len : ∀ (k u : Nat), u < 10 ^ (k + 1) → (Lib.decDigits u).length ≤ k + 1
  | 0, u, h => by rw [Lib.decDigits, dif_pos (by simpa using h)]; simp
  | k + 1, u, h => by
    by_cases hu : u < 10
    · rw [Lib.decDigits, dif_pos hu]; simp
    · rw [Nat.pow_succ] at h
      rw [Lib.decDigits, dif_neg hu, List.length_append]
      have := dec_len k (u / 10) (by omega)
      simp; omega
theorem itoa_nat {n : Int} (h0 : 0 ≤ n) : Lib.itoa n = Lib.decDigits n.toNat := by
  unfold Lib.itoa
  rw [if_neg (by omega)]
theorem itoa_len {n : Int} (h0 : 0 ≤ n) (h1 : n ≤ 1000000000) : (Lib.itoa n).length ≤ 10 := by
  rw [itoa_nat h0]
  exact dec_len 9 _ (by have : (10 : Nat) ^ (9 + 1) = 10000000000 := by decide
                        omega)

theorem impl_FormatInt_b_eq {n : Int} (h0 : 0 ≤ n) (h1 : n ≤ 1000000000) : impl_FormatInt_b n = some ⟨Lib.itoa n⟩ := by
  unfold impl_FormatInt_b strconv_Itoa_b
  rw [gd_pos ⟨by omega, by omega⟩]
  rfl

/-- Numbers behind blanks. -/
def numsL (ns : List Int) : List UInt8 := (ns.map fun n => 32 :: Lib.itoa n).flatten
def lineL (word : List UInt8) (ns : List Int) : List UInt8 := word ++ numsL ns
theorem numsL_len : ∀ {ns : List Int}, (∀ n ∈ ns, 0 ≤ n ∧ n ≤ 1000000000) → (numsL ns).length ≤ 11 * ns.length
  | [], _ => by simp [numsL]
  | n :: ns, h => by
    have h1 := numsL_len (ns := ns) fun x hx => h x (by simp [hx])
    have h2 := itoa_len (h n (by simp)).1 (h n (by simp)).2
    unfold numsL at h1 ⊢
    simp only [List.map_cons, List.flatten_cons, List.length_append, List.length_cons]
    omega
theorem lineL_len {word : List UInt8} {ns : List Int} (hw : word.length ≤ 100) (h : ∀ n ∈ ns, 0 ≤ n ∧ n ≤ 1000000000) (hl : ns.length ≤ 100) : (lineL word ns).length ≤ 1200 := by
  have := numsL_len h
  unfold lineL
  rw [List.length_append]; omega

theorem impl_lineOf_eq {word : Str} {ns : List Int} (hw : word.b.length ≤ 100) (h : ∀ n ∈ ns, 0 ≤ n ∧ n ≤ 1000000000) (hl : ns.length ≤ 100) : impl_lineOf word ns = some ⟨lineL word.b ns⟩ := by
  have hlen := lineL_len hw h hl
  unfold impl_lineOf
  rw [gd_pos (by omega), lpO_app (f := impl_lineOf_L1 ns) (xs := [word]) (fun k => (⟨Lib.itoa (gx ns k)⟩ : Str)) (fun k s hk hs => by
    have hn := h _ (gx_mem hk)
    unfold impl_lineOf_L1
    rw [impl_FormatInt_b_eq hn.1 hn.2]
    simp only [Option.bind_some]
    rw [gd_pos (by simp at hs; omega)])]
  simp only [Option.bind_some]
  rw [map_gx (fun n => (⟨Lib.itoa n⟩ : Str)) ns]
  have hj : Lib.join ((([word] : List Str) ++ ns.map fun n => (⟨Lib.itoa n⟩ : Str)).map Str.b) [32] = lineL word.b ns := by
    rw [List.singleton_append, List.map_cons, List.map_map, Lib.join_cons]
    unfold lineL numsL Lib.joinTail
    rw [List.map_map]
    rfl
  unfold strings_Join
  simp only [hj]
  rw [gd_pos ⟨by simp; omega, by omega⟩]
  rfl

theorem cellText_le (c : GCell) : (cellTextM c).length ≤ 3 := by
  unfold cellTextM
  cases c.Split == 1
  · cases c.Split == 2 <;> simp
  · simp
/-- Cells one behind the other: rows are parted by semicolons. -/
def blkT (c : Nat → List UInt8) (n : Nat) : Nat → List UInt8
  | 0 => []
  | k + 1 => blkT c n k ++ ((bif decide (k > 0) && (k % n == 0) then [59] else bif decide (k > 0) then [44] else []) ++ c k)
theorem blkT_len {c : Nat → List UInt8} {n : Nat} (h : ∀ k, (c k).length ≤ 3) : ∀ k, (blkT c n k).length ≤ 4 * k
  | 0 => by simp [blkT]
  | k + 1 => by
    have h1 := blkT_len (n := n) h k
    have h2 := h k
    unfold blkT
    cases decide (k > 0) && (k % n == 0)
    · cases decide (k > 0)
      · simp; omega
      · simp; omega
    · simp; omega
theorem blk_rows (c : Nat → List UInt8) {n : Nat} (h1 : 1 ≤ n) (h4 : n ≤ 4) : Lib.join ((List.range n).map fun y => Lib.join ((List.range n).map fun x => c (y * n + x)) [44]) [59] = blkT c n (n * n) := by
  have hn : n = 1 ∨ n = 2 ∨ n = 3 ∨ n = 4 := by omega
  rcases hn with rfl | rfl | rfl | rfl <;> simp [blkT, List.range, List.range.loop, Lib.join_cons, Lib.joinTail]
def blockTextM (b : GBlock) : List UInt8 := bif BlockOkM b then blkT (fun k => cellTextM (gx b.Cells k)) b.Size.toNat b.Cells.length else []
theorem blockText_len (b : GBlock) : (blockTextM b).length ≤ 64 := by
  unfold blockTextM
  cases h : BlockOkM b
  · simp
  · obtain ⟨n, hn, n1, n4, hl, _⟩ := blockOk_spec h
    have hnn : n * n ≤ 4 * 4 := Nat.mul_le_mul n4 n4
    have := blkT_len (c := fun k => cellTextM (gx b.Cells k)) (n := b.Size.toNat) (fun k => cellText_le _) b.Cells.length
    rw [cond_true]; omega

theorem join_le (sep : List UInt8) : ∀ (xs : List (List UInt8)) (B : Nat), (∀ x ∈ xs, x.length ≤ B) → sep.length ≤ 1 → (Lib.join xs sep).length ≤ (B + 1) * xs.length
  | [], _, _, _ => by simp [Lib.join_nil]
  | x :: r, B, h, hs => by
    have hx := h x (by simp)
    have ht : ∀ r : List (List UInt8), (∀ x ∈ r, x.length ≤ B) → (Lib.joinTail sep r).length ≤ (B + 1) * r.length := fun r => by
      induction r with
      | nil => intro _; simp [Lib.joinTail]
      | cons y r ih =>
        intro hr
        have h1 := ih fun z hz => hr z (by simp [hz])
        have h2 := hr y (by simp)
        unfold Lib.joinTail at h1 ⊢
        simp only [List.map_cons, List.flatten_cons, List.length_append, List.length_cons] at h1 ⊢
        rw [Nat.mul_add]; omega
    have h2 := ht r fun y hy => h y (by simp [hy])
    rw [Lib.join_cons, List.length_append, List.length_cons, Nat.mul_add]
    omega
theorem impl_BlockText_eq (b : GBlock) : impl_BlockText b = some ⟨blockTextM b⟩ := by
  unfold impl_BlockText blockTextM
  rw [impl_BlockOk_eq]
  simp only [Option.bind_some]
  cases h : BlockOkM b
  · rfl
  · obtain ⟨n, hn, n1, n4, hl, hc⟩ := blockOk_spec h
    have hnn : n * n ≤ 4 * 4 := Nat.mul_le_mul n4 n4
    have row : ∀ y, y < n → lpO (impl_BlockText_L2 b y) n ([] : List Str) = some ((List.range n).map fun x => (⟨cellTextM (gx b.Cells (y * n + x))⟩ : Str)) := fun y hy => by
      rw [lpO_app (f := impl_BlockText_L2 b y) (xs := []) (fun x => (⟨cellTextM (gx b.Cells (y * n + x))⟩ : Str)) (fun x s hx hs => by
        have hi := idx_lt hy hx
        simp only [impl_BlockText_L2, impl_CellAt_eq, Option.bind_some]
        rw [cellAtM_nat h hn hx hy, impl_CellText_eq (hc _ (gx_mem (by omega)))]
        simp only [Option.bind_some]
        rw [gd_pos (by simp at hs; omega)])]
      rfl
    have rowj : ∀ y, y < n → strings_Join ((List.range n).map fun x => (⟨cellTextM (gx b.Cells (y * n + x))⟩ : Str)) ⟨[44]⟩ = some ⟨Lib.join ((List.range n).map fun x => cellTextM (gx b.Cells (y * n + x))) [44]⟩ := fun y hy => by
      have e : ((List.range n).map fun x => (⟨cellTextM (gx b.Cells (y * n + x))⟩ : Str)).map Str.b = (List.range n).map fun x => cellTextM (gx b.Cells (y * n + x)) := by rw [List.map_map]; rfl
      have hle := join_le [44] ((List.range n).map fun x => cellTextM (gx b.Cells (y * n + x))) 3 (fun z hz => by
        obtain ⟨x, _, rfl⟩ := List.mem_map.1 hz
        exact cellText_le _) (by simp)
      simp only [List.length_map, List.length_range] at hle
      unfold strings_Join
      rw [e, gd_pos ⟨by simp; omega, by simp only; omega⟩]
    have hrl : ∀ y, (Lib.join ((List.range n).map fun x => cellTextM (gx b.Cells (y * n + x))) [44]).length ≤ 16 := fun y => by
      have hle := join_le [44] ((List.range n).map fun x => cellTextM (gx b.Cells (y * n + x))) 3 (fun z hz => by
        obtain ⟨x, _, rfl⟩ := List.mem_map.1 hz
        exact cellText_le _) (by simp)
      simp only [List.length_map, List.length_range] at hle
      omega
    simp only [Bool.not_true, cond_false, cond_true, hn, Int.toNat_natCast]
    rw [gd_pos (by omega), lpO_app (f := impl_BlockText_L1 b) (xs := []) (fun y => (⟨Lib.join ((List.range n).map fun x => cellTextM (gx b.Cells (y * n + x))) [44]⟩ : Str)) (fun y s hy hs => by
      unfold impl_BlockText_L1
      rw [hn, Int.toNat_natCast, row y hy]
      simp only [Option.bind_some]
      rw [rowj y hy]
      simp only [Option.bind_some]
      rw [gd_pos (by simp at hs; omega)])]
    have e : (([] : List Str) ++ (List.range n).map fun y => (⟨Lib.join ((List.range n).map fun x => cellTextM (gx b.Cells (y * n + x))) [44]⟩ : Str)).map Str.b = (List.range n).map fun y => Lib.join ((List.range n).map fun x => cellTextM (gx b.Cells (y * n + x))) [44] := by rw [List.nil_append, List.map_map]; rfl
    have hle := join_le [59] ((List.range n).map fun y => Lib.join ((List.range n).map fun x => cellTextM (gx b.Cells (y * n + x))) [44]) 16 (fun z hz => by
      obtain ⟨y, _, rfl⟩ := List.mem_map.1 hz
      exact hrl y) (by simp)
    simp only [List.length_map, List.length_range] at hle
    simp only [Option.bind_some]
    unfold strings_Join
    rw [e, gd_pos ⟨by simp; omega, by simp only; omega⟩]
    simp only [Option.bind_some]
    rw [blk_rows (fun k => cellTextM (gx b.Cells k)) n1 n4, hl]

def entL (e : GEntry) : Str := ⟨((Lib.itoa e.Owner ++ [32]) ++ Lib.itoa e.Day) ++ [32] ++ blockTextM e.Block⟩
def roundL (g : GGuild) : Str := ⟨([114, 111, 117, 110, 100, 32] ++ Lib.itoa g.Round) ++ [47] ++ Lib.itoa (RoundsM g)⟩
def headL (g : GGuild) : List Str := [⟨lineL [109, 101, 109, 98, 101, 114, 115] (g.Members.map fun m => m.Number)⟩, ⟨lineL [115, 116, 111, 99, 107] g.Stock⟩]
def FormatGuildM (g : GGuild) : List Str := bif GuildOkM g then headL g ++ g.Entries.map entL ++ [roundL g, ⟨lineL [121, 101, 97, 114] [g.Year]⟩] else []
theorem guild_nums {g : GGuild} (h : GuildOkM g = true) : g.Members.length ≤ 40 ∧ g.Stock.length = 6 ∧ g.Entries.length ≤ 10 ∧ (∀ n ∈ g.Members.map (fun m => m.Number), 0 ≤ n ∧ n ≤ 1000000000) ∧ (∀ n ∈ g.Stock, 0 ≤ n ∧ n ≤ 1000000000) ∧ (∀ k, k < g.Entries.length → (0 ≤ (gx g.Entries k).Owner ∧ (gx g.Entries k).Owner ≤ 1000000000) ∧ (0 ≤ (gx g.Entries k).Day ∧ (gx g.Entries k).Day ≤ 1000000000)) ∧ (0 ≤ g.Round ∧ g.Round ≤ 1000000000) ∧ (0 ≤ RoundsM g ∧ RoundsM g ≤ 1000000000) ∧ 0 ≤ g.Year ∧ g.Year ≤ 1000000000 := by
  obtain ⟨m1, m2, m3, m4, m5⟩ := guild_parts h
  obtain ⟨sl, sb⟩ := stock_spec m2
  have rb := rounds_bound g
  have gr := guild_round h
  have gy := guild_year h
  refine ⟨memOk_len m1, sl, m4, fun n hn => ?_, fun n hn => ?_, fun k hk => ?_, by omega, by omega, by omega⟩
  · obtain ⟨m, hm, rfl⟩ := List.mem_map.1 hn
    simp only [MembersOkM, Bool.and_eq_true, List.all_eq_true, List.mem_range] at m1
    obtain ⟨k, hk, rfl⟩ := List.getElem_of_mem hm
    have := m1.1 k hk
    rw [← gx_lt hk]
    simp only [memP, Bool.and_eq_true] at this
    have := inR_iff.1 this.1.1.1
    omega
  · obtain ⟨k, hk, rfl⟩ := List.getElem_of_mem hn
    have := sb k (by omega)
    rw [← gx_lt hk]
    omega
  · simp only [GuildOkM, Bool.and_eq_true, List.all_eq_true, List.mem_range] at h
    have := h.1.2 k hk
    simp only [entP, EntryOkM, Bool.and_eq_true] at this
    have o := inR_iff.1 this.1.1.1.1
    have d := inR_iff.1 this.1.1.1.2
    omega

theorem impl_FormatGuild_eq {g : GGuild} (hg : GL g) : impl_FormatGuild g = some (FormatGuildM g) := by
  unfold impl_FormatGuild FormatGuildM
  rw [impl_GuildOk_eq g hg]
  simp only [Option.bind_some]
  cases h : GuildOkM g
  · rfl
  obtain ⟨ml, sl, el, hm, hs, he, ⟨r0, r1⟩, ⟨q0, q1⟩, y0, y1⟩ := guild_nums h
  have i1 := itoa_len r0 r1
  have i2 := itoa_len q0 q1
  simp only [Bool.not_true, cond_false, cond_true]
  rw [gd_pos (by omega), lpO_app (f := impl_FormatGuild_L1 g) (xs := []) (fun k => (gx g.Members k).Number) (fun k s hk hs => by
    unfold impl_FormatGuild_L1
    rw [gd_pos (by simp at hs; omega)]), map_gx (fun m : GMember => m.Number) g.Members, List.nil_append]
  simp only [Option.bind_some]
  rw [impl_lineOf_eq (by simp) hm (by simp; omega)]
  simp only [Option.bind_some]
  rw [impl_lineOf_eq (by simp) hs (by omega)]
  simp only [Option.bind_some]
  rw [show ([(⟨lineL [109, 101, 109, 98, 101, 114, 115] (g.Members.map fun m => m.Number)⟩ : Str), ⟨lineL [115, 116, 111, 99, 107] g.Stock⟩] : List Str) = headL g from rfl]
  rw [gd_pos (by omega), lpO_app (f := impl_FormatGuild_L2 g) (xs := headL g) (fun k => entL (gx g.Entries k)) (fun k s hk hs => by
    obtain ⟨⟨o0, o1⟩, d0, d1⟩ := he k hk
    have a1 := itoa_len o0 o1
    have a2 := itoa_len d0 d1
    have a3 := blockText_len (gx g.Entries k).Block
    have hsl : s.length ≤ 12 := by simp [headL] at hs; omega
    unfold impl_FormatGuild_L2
    rw [impl_FormatInt_b_eq o0 o1]
    simp only [Option.bind_some]
    rw [gd_pos (by simp only [List.length_cons, List.length_nil]; omega), impl_FormatInt_b_eq d0 d1]
    simp only [Option.bind_some]
    rw [gd_pos (by simp only [sadd, List.length_append, List.length_cons, List.length_nil]; omega), gd_pos (by simp only [sadd, List.length_append, List.length_cons, List.length_nil]; omega), impl_BlockText_eq]
    simp only [Option.bind_some]
    rw [gd_pos (by simp only [sadd, List.length_append, List.length_cons, List.length_nil]; omega), gd_pos (by omega)]
    rfl), map_gx entL g.Entries]
  simp only [Option.bind_some]
  rw [impl_FormatInt_b_eq r0 r1]
  simp only [Option.bind_some]
  rw [gd_pos (by simp only [List.length_cons, List.length_nil]; omega), gd_pos (by simp only [sadd, List.length_append, List.length_cons, List.length_nil]; omega), impl_SwapRounds_eq g hg.1]
  simp only [Option.bind_some]
  rw [impl_FormatInt_b_eq q0 q1]
  simp only [Option.bind_some]
  rw [gd_pos (by simp only [sadd, List.length_append, List.length_cons, List.length_nil]; omega), impl_lineOf_eq (by simp) (fun n hn => by rw [List.mem_singleton.1 hn]; exact ⟨y0, y1⟩) (by simp)]
  simp only [Option.bind_some]
  rw [gd_pos (by simp [headL]; omega)]
  rfl

theorem formatGuild_len {g : GGuild} (h : GuildOkM g = true) : (FormatGuildM g).length = g.Entries.length + 4 := by
  unfold FormatGuildM headL
  rw [h]
  simp

theorem laws_sameTexts_self {a : List Str} (ha : a.length ≤ 1048576) : laws_sameTexts a a = some true := by
  unfold laws_sameTexts
  rw [bne_self_eq_false, cond_false, gd_pos (by omega), forO_st (f := laws_sameTexts_L1 a a) (C := Bool) (s0 := ()) (fun _ => ()) rfl (fun k hk => by
    unfold laws_sameTexts_L1
    rw [gd_pos hk, seq_self]; rfl)]
  rfl
theorem gx_take {α : Type} [Rep α] {xs : List α} {n k : Nat} (h : k < n) : gx (xs.take n) k = gx xs k := by
  unfold gx List.getD
  rw [List.getElem?_take, if_pos h]
theorem gx_drop {α : Type} [Rep α] (xs : List α) (n k : Nat) : gx (xs.drop n) k = gx xs (n + k) := by
  unfold gx List.getD
  rw [List.getElem?_drop]
theorem runM_take (g : GGuild) (acts : List GAct) (n : Nat) : ∀ k, k ≤ n → runM g (acts.take n) k = runM g acts k
  | 0, _ => rfl
  | k + 1, h => by
    unfold runM
    rw [runM_take g acts n k (by omega), gx_take (show k < n by omega)]
theorem runM_drop (g : GGuild) (acts : List GAct) (n : Nat) : ∀ k, runM (runM g acts n).2 (acts.drop n) k = ((runM g acts (n + k)).1.drop n, (runM g acts (n + k)).2)
  | 0 => by
    show (([] : List Int), (runM g acts n).2) = _
    have hl : ∀ k, (runM g acts k).1.length = k := fun k => by
      induction k with
      | zero => rfl
      | succ k ih => simp [runM, ih]
    rw [Nat.add_zero, List.drop_of_length_le (by rw [hl n]; exact Nat.le_refl _)]
  | k + 1 => by
    have hl : ∀ k, (runM g acts k).1.length = k := fun k => by
      induction k with
      | zero => rfl
      | succ k ih => simp [runM, ih]
    have ih := runM_drop g acts n k
    unfold runM at ih ⊢
    simp only
    rw [show runM (runM g acts n).2 (acts.drop n) k = ((runM g acts (n + k)).1.drop n, (runM g acts (n + k)).2) from runM_drop g acts n k, gx_drop]
    show _ = (List.drop n ((runM g acts (n + k)).1 ++ [(DoM (runM g acts (n + k)).2 (gx acts (n + k))).2]), (DoM (runM g acts (n + k)).2 (gx acts (n + k))).1)
    rw [List.drop_append_of_le_length (by rw [hl]; omega)]
theorem runM_pre (g : GGuild) (acts : List GAct) : ∀ m k, (runM g acts (k + m)).1.take k = (runM g acts k).1
  | 0, k => by
    have hl : ∀ k, (runM g acts k).1.length = k := fun k => by
      induction k with
      | zero => rfl
      | succ k ih => simp [runM, ih]
    rw [Nat.add_zero, List.take_of_length_le (by rw [hl]; exact Nat.le_refl _)]
  | m + 1, k => by
    have hl : ∀ k, (runM g acts k).1.length = k := fun k => by
      induction k with
      | zero => rfl
      | succ k ih => simp [runM, ih]
    show List.take k ((runM g acts (k + m)).1 ++ _) = _
    rw [List.take_append_of_le_length (by rw [hl]; omega), runM_pre g acts m k]

theorem p_FnActParts (code : List UInt8) (_ : Fit.ok code) : laws_FnActParts code = some true := by
  unfold laws_FnActParts laws_big
  simp only [Option.bind_some]
  by_cases hc : ((code.length : Nat) : Int) > 1048576
  · rw [decide_eq_true hc]; rfl
  rw [decide_eq_false hc, cond_false]
  have hcl : code.length ≤ 1048576 := by omega
  obtain ⟨g, acts, e0, hg, hl, _⟩ := draw_Acts hcl
  obtain ⟨p, e1, p1, p2⟩ := draw_Places hcl
  have hs := guildOk_sm hg.1
  have hp := p2 _ (gx_mem (xs := p) (k := 0) (by omega))
  have ew : wr (((acts.length : Nat) : Int) + 1) = ((acts.length + 1 : Nat) : Int) := by rw [wr_of (by omega) (by omega)]; omega
  have r0 := Int.tmod_nonneg ((acts.length + 1 : Nat) : Int) hp.1
  have r1 := Int.tmod_lt_of_pos (gx p 0) (show 0 < ((acts.length + 1 : Nat) : Int) by omega)
  obtain ⟨k, hk⟩ := Int.eq_ofNat_of_zero_le r0
  have hkl : k ≤ acts.length := by omega
  have hx := hist_run hg acts acts.length
  have hy := hist_run hg acts k
  have hrl := (run_sm hs acts acts.length).2
  have hrk := (run_sm hs acts k).2
  rw [e0]
  simp only [Option.bind_some]
  rw [e1]
  simp only [Option.bind_some, ew, hk, Int.toNat_natCast, List.drop_zero, Nat.sub_zero]
  rw [gd_pos (by omega), gd_pos (by omega), impl_RunActs_eq hs, RunM_few hg (by omega)]
  simp only [Option.bind_some]
  rw [gd_pos ⟨by omega, by omega, by omega⟩, impl_RunActs_eq hs, RunM_few hg (by simp; omega)]
  have htl : (acts.take k).length = k := by simp; omega
  have hdl : ((acts.drop k).take (acts.length - k)) = acts.drop k := List.take_of_length_le (by simp)
  simp only [Option.bind_some, htl, hdl, runM_take g acts k k (Nat.le_refl _)]
  rw [gd_pos ⟨by omega, by omega, by omega⟩, impl_RunActs_eq (guildOk_sm hy.1), RunM_few hy (by simp; omega)]
  have hdl2 : (acts.drop k).length = acts.length - k := by simp
  have hkk : k + (acts.length - k) = acts.length := by omega
  simp only [Option.bind_some, hdl2, runM_drop, hkk]
  have hgx := sm_GL (guildOk_sm hx.1)
  have hfl := formatGuild_len hx.1
  have hel := (guild_parts hx.1).2.2.2.1
  rw [impl_FormatGuild_eq hgx]
  simp only [Option.bind_some]
  rw [decide_eq_true (show (((FormatGuildM (runM g acts acts.length).2).length : Nat) : Int) > 0 by omega)]
  simp only [cond_true]
  rw [laws_sameTexts_self (by omega)]
  simp only [Option.bind_some, cond_true, List.nil_append, List.length_nil]
  rw [gd_pos (by omega), gd_pos (by simp only [List.length_drop]; omega)]
  have hj : (runM g acts k).1 ++ List.drop k (runM g acts acts.length).1 = (runM g acts acts.length).1 := by
    rw [← runM_pre g acts (acts.length - k) k, hkk]
    exact List.take_append_drop _ _
  rw [hj, laws_sameInts_eq (by omega), sameInts_self]
  rfl
end Go.Proofs.YtkahnmhkfmjomaaGreatDoor
