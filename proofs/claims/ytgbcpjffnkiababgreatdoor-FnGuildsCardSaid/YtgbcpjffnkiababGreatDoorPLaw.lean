/-
  The plain laws: what the functions compute, in Lean alone.
-/
import Derived.Test.YtgbcpjffnkiababGreatDoorP1
namespace Go.Proofs.YtgbcpjffnkiababGreatDoor
open Go

/-- The colors that an index picks. -/
def pkM : List Nat → Nat → List Int → List Int
  | [], _, _ => []
  | r :: rs, i, left => gx left (i / r) :: pkM rs (i % r) (left.take (i / r) ++ left.drop (i / r + 1))
theorem pk1_ok : ∀ i, i < 6 → (pkM [1] i six).Nodup ∧ ∀ x ∈ pkM [1] i six, 0 ≤ x ∧ x ≤ 5 := by decide +kernel
theorem pk2_ok : ∀ i, i < 30 → (pkM [5, 1] i six).Nodup ∧ ∀ x ∈ pkM [5, 1] i six, 0 ≤ x ∧ x ≤ 5 := by decide +kernel
theorem pk3_ok : ∀ i, i < 120 → (pkM [20, 4, 1] i six).Nodup ∧ ∀ x ∈ pkM [20, 4, 1] i six, 0 ≤ x ∧ x ≤ 5 := by decide +kernel
def inv2 (a b : Nat) : Nat := 5 * a + (b - bif decide (a < b) then 1 else 0)
def inv3 (a b c : Nat) : Nat := 20 * a + 4 * (b - bif decide (a < b) then 1 else 0) + (c - (bif decide (a < c) then 1 else 0) - (bif decide (b < c) then 1 else 0))
theorem pk1_inv : ∀ a, a < 6 → pkM [1] a six = [(a : Int)] := by decide +kernel
theorem pk2_inv : ∀ a, a < 6 → ∀ b, b < 6 → a ≠ b → inv2 a b < 30 ∧ pkM [5, 1] (inv2 a b) six = [(a : Int), (b : Int)] := by decide +kernel
def chk3 : Bool := (List.range 6).all fun a => (List.range 6).all fun b => (List.range 6).all fun c => (a == b || a == c || b == c) || (decide (inv3 a b c < 120) && (pkM [20, 4, 1] (inv3 a b c) six == [(a : Int), (b : Int), (c : Int)]))
theorem chk3_ok : chk3 = true := by decide +kernel
theorem pk3_inv (a : Nat) (ha : a < 6) (b : Nat) (hb : b < 6) (c : Nat) (hc : c < 6) (hab : a ≠ b) (hac : a ≠ c) (hbc : b ≠ c) : inv3 a b c < 120 ∧ pkM [20, 4, 1] (inv3 a b c) six = [(a : Int), (b : Int), (c : Int)] := by
  have h := chk3_ok
  unfold chk3 at h
  rw [List.all_eq_true] at h
  have h := h a (by simpa using ha)
  rw [List.all_eq_true] at h
  have h := h b (by simpa using hb)
  rw [List.all_eq_true] at h
  have h := h c (by simpa using hc)
  have e1 : (a == b) = false := by simpa using hab
  have e2 : (a == c) = false := by simpa using hac
  have e3 : (b == c) = false := by simpa using hbc
  rw [e1, e2, e3] at h
  simp only [Bool.or_self, Bool.false_or, Bool.and_eq_true, decide_eq_true_iff, beq_iff_eq] at h
  exact h
def asgM : List Int → List Int → List Int → List Int
  | u :: L, v :: p, acc => asgM L p (acc.set u.toNat v)
  | _, _, acc => acc
theorem asg_len : ∀ (L p acc : List Int), (asgM L p acc).length = acc.length
  | [], _, _ => by simp [asgM]
  | _ :: _, [], _ => by simp [asgM]
  | u :: L, v :: p, acc => by rw [asgM, asg_len L p]; simp
theorem asg_other : ∀ (L p acc : List Int) {x : Nat}, (∀ u ∈ L, u.toNat ≠ x) → gx (asgM L p acc) x = gx acc x
  | [], _, _, _, _ => by simp [asgM]
  | _ :: _, [], _, _, _ => by simp [asgM]
  | u :: L, v :: p, acc, x, h => by
    rw [asgM, asg_other L p _ fun w hw => h w (by simp [hw]), gx_set_ne (Ne.symm (h u (by simp)))]
theorem asg_gx : ∀ (L p acc : List Int), acc.length = 6 → L.Nodup → (∀ u ∈ L, 0 ≤ u ∧ u ≤ 5) → ∀ q ∈ L.zip p, gx (asgM L p acc) q.1.toNat = q.2
  | [], _, _, _, _, _, q, hq => by simp at hq
  | _ :: _, [], _, _, _, _, q, hq => by simp at hq
  | u :: L, v :: p, acc, hl, hn, hr, q, hq => by
    rw [List.nodup_cons] at hn
    rw [List.zip_cons_cons, List.mem_cons] at hq
    have hu := hr u (by simp)
    rw [asgM]
    rcases hq with rfl | hq
    · rw [asg_other L p _ fun w hw e => hn.1 (by
        have := hr w (by simp [hw])
        have : w = u := by simp only at e; omega
        rw [← this]; exact hw), gx_set (by rw [hl]; omega)]
    · exact asg_gx L p _ (by simpa using hl) hn.2 (fun w hw => hr w (by simp [hw])) q hq
theorem asg_in : ∀ (L p acc : List Int), (∀ x ∈ acc, 0 ≤ x ∧ x ≤ 5) → (∀ x ∈ p, 0 ≤ x ∧ x ≤ 5) → ∀ x ∈ asgM L p acc, 0 ≤ x ∧ x ≤ 5
  | [], _, _, h, _, x, hx => h x (by simpa [asgM] using hx)
  | _ :: _, [], _, h, _, x, hx => h x (by simpa [asgM] using hx)
  | u :: L, v :: p, acc, h, hp, x, hx => by
    rw [asgM] at hx
    refine asg_in L p _ (fun y hy => ?_) (fun y hy => hp y (by simp [hy])) x hx
    rcases List.mem_or_eq_of_mem_set hy with hm | rfl
    · exact h y hm
    · exact hp _ (by simp)
def zeros6 : List Int := List.replicate 6 0
def wayM (L p : List Int) : List Int := asgM L p zeros6
theorem way_ok {L p : List Int} (hp : ∀ x ∈ p, 0 ≤ x ∧ x ≤ 5) : ListOkM (wayM L p) = true :=
  listOk_of (by unfold wayM; rw [asg_len]; rfl) (asg_in L p _ (by intro x hx; simp [zeros6] at hx; omega) hp)
def ratesM : Nat → List Nat
  | 1 => [1]
  | 2 => [5, 1]
  | 3 => [20, 4, 1]
  | _ => []
def chsM : Nat → Nat
  | 1 => 6
  | 2 => 30
  | 3 => 120
  | _ => 1
theorem pk_ok {n i : Nat} (h1 : 1 ≤ n) (h3 : n ≤ 3) (hi : i < chsM n) : (pkM (ratesM n) i six).length = n ∧ (pkM (ratesM n) i six).Nodup ∧ ∀ x ∈ pkM (ratesM n) i six, 0 ≤ x ∧ x ≤ 5 := by
  have hn : n = 1 ∨ n = 2 ∨ n = 3 := by omega
  rcases hn with rfl | rfl | rfl
  · exact ⟨rfl, pk1_ok i hi⟩
  · exact ⟨rfl, pk2_ok i hi⟩
  · exact ⟨rfl, pk3_ok i hi⟩
theorem pk_surj {p : List Int} (h1 : 1 ≤ p.length) (h3 : p.length ≤ 3) (hr : ∀ x ∈ p, 0 ≤ x ∧ x ≤ 5) (hn : p.Nodup) : ∃ i, i < chsM p.length ∧ pkM (ratesM p.length) i six = p := by
  match p, h1, h3, hr, hn with
  | [x], _, _, hr, _ =>
    obtain ⟨a, rfl⟩ := Int.eq_ofNat_of_zero_le (hr x (by simp)).1
    have := (hr _ (List.mem_singleton.2 rfl)).2
    exact ⟨a, by simp only [chsM, List.length_cons, List.length_nil]; omega, pk1_inv a (by omega)⟩
  | [x, y], _, _, hr, hn =>
    have hx := hr x (by simp)
    have hy := hr y (by simp)
    obtain ⟨a, rfl⟩ := Int.eq_ofNat_of_zero_le hx.1
    obtain ⟨b, rfl⟩ := Int.eq_ofNat_of_zero_le hy.1
    have hab : a ≠ b := fun e => by subst e; simp at hn
    obtain ⟨g1, g2⟩ := pk2_inv a (by omega) b (by omega) hab
    exact ⟨inv2 a b, g1, g2⟩
  | [x, y, z], _, _, hr, hn =>
    have hx := hr x (by simp)
    have hy := hr y (by simp)
    have hz := hr z (by simp)
    obtain ⟨a, rfl⟩ := Int.eq_ofNat_of_zero_le hx.1
    obtain ⟨b, rfl⟩ := Int.eq_ofNat_of_zero_le hy.1
    obtain ⟨c, rfl⟩ := Int.eq_ofNat_of_zero_le hz.1
    have hab : a ≠ b := fun e => by subst e; simp at hn
    have hac : a ≠ c := fun e => by subst e; simp at hn
    have hbc : b ≠ c := fun e => by subst e; simp at hn
    obtain ⟨g1, g2⟩ := pk3_inv a (by omega) b (by omega) c (by omega) hab hac hbc
    exact ⟨inv3 a b c, g1, g2⟩
  | _ :: _ :: _ :: _ :: _, _, h3, _, _ => simp at h3

theorem impl_choices_small {n : Nat} (h : n ≤ 3) : impl_choices (n : Int) = some ((bif n == 0 then 1 else chsM n : Nat) : Int) := by
  have hn : n = 0 ∨ n = 1 ∨ n = 2 ∨ n = 3 := by omega
  rcases hn with rfl | rfl | rfl | rfl <;> rfl

theorem impl_upTo_six : impl_upTo 6 = some six := rfl

theorem way_step {L : List Int} {k idx r c1 c2 : Nat} {left list : List Int} (e1 : impl_choices ((L.length : Nat) : Int) = some (c1 : Int)) (e2 : impl_choices ((k + 1 : Nat) : Int) = some (c2 : Int)) (h2 : 0 < c2) (hr : c1 / c2 = r) (hr0 : 0 < r) (hr1 : c1 ≤ 1000) (hidx : idx < r * left.length) (hleft : left.length ≤ 6) (hlist : list.length = 6) (hu : 0 ≤ gx L k ∧ gx L k ≤ 5) (hi : idx ≤ 1000) :
    impl_ColorwayAt_L1 L k ((idx : Int), left, list) = some (.next (((idx % r : Nat) : Int), left.take (idx / r) ++ left.drop (idx / r + 1), list.set (gx L k).toNat (gx left (idx / r)))) := by
  have hq : idx / r < left.length := Nat.div_lt_of_lt_mul hidx
  have hq2 : idx / r ≤ idx := Nat.div_le_self _ _
  have hrr : r ≤ c1 := by rw [← hr]; exact Nat.div_le_self _ _
  have er : wr (((c1 / c2 : Nat) : Int)) = (r : Int) := by
    rw [hr]; exact wr_of (by omega) (by omega)
  unfold impl_ColorwayAt_L1
  rw [e1, e2]
  simp only [Option.bind_some, er, tdiv_nat, tmod_nat]
  generalize idx / r = q at hq hq2 ⊢
  have eq1 : wr ((q : Nat) : Int) = (q : Int) := wr_of (by omega) (by omega)
  have eq2 : wr ((q : Int) + 1) = ((q + 1 : Nat) : Int) := by rw [wr_of (by omega) (by omega)]; simp
  simp only [eq1, eq2, Int.toNat_natCast]
  have ht : ((left.drop 0).take (q - 0)) = left.take q := by simp
  have hd : ((left.drop (q + 1)).take (left.length - (q + 1))) = left.drop (q + 1) := List.take_of_length_le (by simp)
  rw [gd_pos (by omega), gd_pos (by omega), gd_pos ⟨by omega, by omega⟩, gd_pos ⟨hu.1, by omega⟩, gd_pos ⟨by omega, by omega, by omega⟩, gd_pos ⟨by omega, by omega, by omega⟩, ht, hd, gd_pos (by simp; omega), gd_pos (by simp; omega)]
  rfl

theorem impl_ColorwayAt_ok {b : GBlock} (h : BlockOkM b = true) (h3 : (colsM b).length ≤ 3) {i : Nat} (hi : i < chsM (colsM b).length) : impl_ColorwayAt b (i : Int) = some (exB (wayM (colsM b) (pkM (ratesM (colsM b).length) i six)) b, true) := by
  have hp := cols_pos h
  have hc : ColorsM b = colsM b := by simp [ColorsM, h]
  have hu : ∀ k, k < (colsM b).length → 0 ≤ gx (colsM b) k ∧ gx (colsM b) k ≤ 5 := fun k hk => (mem_cols.1 (gx_mem hk)).1
  have hpk := pk_ok hp h3 hi
  have hch := impl_choices_small h3
  have hn0 : ((colsM b).length == 0) = false := by rw [beq_eq_false_iff_ne]; omega
  rw [hn0, cond_false] at hch
  have hcount : impl_ColorwayCount b = some ((chsM (colsM b).length : Nat) : Int) := by
    unfold impl_ColorwayCount
    simp only [impl_BlockOk_eq, h, Option.bind_some, Bool.not_true, cond_false, impl_ColorsOf_eq, hc, hch]
  have hle : chsM (colsM b).length ≤ 120 := by
    have hn : (colsM b).length = 1 ∨ (colsM b).length = 2 ∨ (colsM b).length = 3 := by omega
    rcases hn with e | e | e <;> rw [e] <;> decide
  have ew : wr (((chsM (colsM b).length : Nat) : Int) - 1) = ((chsM (colsM b).length : Nat) : Int) - 1 := wr_of (by omega) (by omega)
  have hin : inR (i : Int) 0 (((chsM (colsM b).length : Nat) : Int) - 1) = true := inR_iff.2 ⟨by omega, by omega⟩
  have hloop : (lpO (impl_ColorwayAt_L1 (colsM b)) (colsM b).length ((i : Int), six, List.replicate 6 (0 : Int))).map (fun s => s.2.2) = some (wayM (colsM b) (pkM (ratesM (colsM b).length) i six)) := by
    have hst := fun (k c2 r idx : Nat) (left list : List Int) (q1 : impl_choices ((k + 1 : Nat) : Int) = some (c2 : Int)) (q2 : 0 < c2) (q3 : chsM (colsM b).length / c2 = r) (q4 : 0 < r) (q5 : idx < r * left.length) (q6 : left.length ≤ 6) (q7 : list.length = 6) (q8 : k < (colsM b).length) (q9 : idx ≤ 1000) => way_step (L := colsM b) (k := k) (idx := idx) (r := r) (c1 := chsM (colsM b).length) (c2 := c2) (left := left) (list := list) hch q1 q2 q3 q4 (by omega) q5 q6 q7 (hu k q8) q9
    have hn : (colsM b).length = 1 ∨ (colsM b).length = 2 ∨ (colsM b).length = 3 := by omega
    generalize hL : colsM b = L at hn hst hi ⊢
    rcases hn with e | e | e
    · obtain ⟨u, rfl⟩ : ∃ u, L = [u] := by
        match L, e with
        | [u], _ => exact ⟨u, rfl⟩
      have hi6 : i < 6 := hi
      have s0 := hst 0 6 1 i six (List.replicate 6 (0 : Int)) rfl (by omega) (by simp [chsM]) (by omega) (by simp [six]; omega) (by simp [six]) (by simp) (by simp) (by omega)
      unfold lpO
      rw [show ([u] : List Int).length = 0 + 1 from rfl, forO, s0]
      rfl
    · obtain ⟨u, v, rfl⟩ : ∃ u v, L = [u, v] := by
        match L, e with
        | [u, v], _ => exact ⟨u, v, rfl⟩
      have hi6 : i < 30 := hi
      have s0 := hst 0 6 5 i six (List.replicate 6 (0 : Int)) rfl (by omega) (by simp [chsM]) (by omega) (by simp [six]; omega) (by simp [six]) (by simp) (by simp) (by omega)
      have l1 : (six.take (i / 5) ++ six.drop (i / 5 + 1)).length = 5 := by simp [six]; omega
      have s1 := hst 1 30 1 (i % 5) (six.take (i / 5) ++ six.drop (i / 5 + 1)) ((List.replicate 6 (0 : Int)).set (gx [u, v] 0).toNat (gx six (i / 5))) rfl (by omega) (by simp [chsM]) (by omega) (by rw [l1]; omega) (by rw [l1]; omega) (by simp) (by simp) (by omega)
      unfold lpO
      rw [show ([u, v] : List Int).length = 1 + 1 from rfl, forO, s0]
      simp only [Option.bind_some]
      rw [forO, s1]
      rfl
    · obtain ⟨u, v, w, rfl⟩ : ∃ u v w, L = [u, v, w] := by
        match L, e with
        | [u, v, w], _ => exact ⟨u, v, w, rfl⟩
      have hi6 : i < 120 := hi
      have s0 := hst 0 6 20 i six (List.replicate 6 (0 : Int)) rfl (by omega) (by simp [chsM]) (by omega) (by simp [six]; omega) (by simp [six]) (by simp) (by simp) (by omega)
      have l1 : (six.take (i / 20) ++ six.drop (i / 20 + 1)).length = 5 := by simp [six]; omega
      have s1 := hst 1 30 4 (i % 20) (six.take (i / 20) ++ six.drop (i / 20 + 1)) ((List.replicate 6 (0 : Int)).set (gx [u, v, w] 0).toNat (gx six (i / 20))) rfl (by omega) (by simp [chsM]) (by omega) (by rw [l1]; omega) (by rw [l1]; omega) (by simp) (by simp) (by omega)
      generalize hl1 : six.take (i / 20) ++ six.drop (i / 20 + 1) = left1 at l1 s0 s1
      have l2 : (left1.take (i % 20 / 4) ++ left1.drop (i % 20 / 4 + 1)).length = 4 := by simp; omega
      have s2 := hst 2 120 1 (i % 20 % 4) (left1.take (i % 20 / 4) ++ left1.drop (i % 20 / 4 + 1)) (((List.replicate 6 (0 : Int)).set (gx [u, v, w] 0).toNat (gx six (i / 20))).set (gx [u, v, w] 1).toNat (gx left1 (i % 20 / 4))) rfl (by omega) (by simp [chsM]) (by omega) (by rw [l2]; omega) (by rw [l2]; omega) (by simp) (by simp) (by omega)
      unfold lpO
      rw [show ([u, v, w] : List Int).length = 2 + 1 from rfl, forO, s0]
      simp only [Option.bind_some]
      rw [forO, s1]
      simp only [Option.bind_some]
      rw [forO, s2]
      subst hl1
      rfl
  cases hl : lpO (impl_ColorwayAt_L1 (colsM b)) (colsM b).length ((i : Int), six, List.replicate 6 (0 : Int)) with
  | none => rw [hl] at hloop; cases hloop
  | some e =>
    rw [hl] at hloop
    have hz : e.2.2 = wayM (colsM b) (pkM (ratesM (colsM b).length) i six) := Option.some.inj hloop
    have hw := way_ok (L := colsM b) hpk.2.2
    have hwl := (listOk_spec hw).1
    unfold impl_ColorwayAt
    rw [hcount]
    simp only [Option.bind_some, within_eq, ew, hin, Bool.not_true, cond_false, impl_ColorsOf_eq, hc, impl_upTo_six]
    rw [gd_pos (by omega), hl]
    simp only [Option.bind_some, hz]
    rw [impl_ExchangeBlock_eq (blockOk_sm h).1 (by omega), exB_eq h hw]
    rfl

def PatLikeM (b d : GBlock) : Int := bif pairM b d && decide ((colsM d).length ≤ 3) then mx 8 (fun k => bestM (TM b (SeenM d (k : Int))) (colsM d) []) else 0
theorem zip_fst {L p : List Int} (h : p.length = L.length) : (L.zip p).map Prod.fst = L := by
  rw [List.map_fst_zip (by omega)]
theorem like_way {b d : GBlock} (h : pairM b d = true) {k : Nat} (hk : k < 8) {p : List Int} (hl : p.length = (colsM d).length) (hr : ∀ x ∈ p, 0 ≤ x ∧ x ≤ 5) : LikeM b (SeenM (exB (wayM (colsM d) p) d) (k : Int)) = sumP ((colsM d).zip p) (TM b (SeenM d (k : Int))) := by
  obtain ⟨h1, h2, h3, h4⟩ := pair_len h
  have hw := way_ok (L := colsM d) hr
  rw [seen_exchange h2 hw hk]
  refine like_exchange (pair_seen h hk) hw (by rw [zip_fst hl]; exact cols_nodup d) (fun i hi s => by rw [zip_fst hl]; exact seen_colors h2 hk hi s) ?_
  exact asg_gx _ _ _ rfl (cols_nodup d) fun u hu => (mem_cols.1 hu).1

theorem spec_PatternLikeness_eq (b d : GBlock) : spec_PatternLikeness b d = some (PatLikeM b d) := by
  unfold spec_PatternLikeness PatLikeM
  simp only [spec_ColorsOf_eq, spec_l29Ok_eq, Option.bind_some]
  cases h : pairM b d
  · rfl
  obtain ⟨h1, h2, h3, h4⟩ := pair_len h
  have hc : ColorsM d = colsM d := by simp [ColorsM, h2]
  rw [hc]
  by_cases hn : (colsM d).length ≤ 3
  · have hd : decide (((colsM d).length : Int) > 3) = false := by simp; omega
    have hd' : decide ((colsM d).length ≤ 3) = true := by simpa using hn
    simp only [hd, hd', Bool.not_true, cond_false, Option.bind_some, Bool.and_self, cond_true]
    rw [lpO_mx (f := spec_PatternLikeness_L1 b d (colsM d)) (fun k => bestM (TM b (SeenM d (k : Int))) (colsM d) []) (fun k s hk => by
      have hb := spec_l29Best_ok (T := TM b (SeenM d (k : Int))) (fun u v => TM_bound h4 u v) hn (fun u hu => (mem_cols.1 hu).1) (colsM d).length 0 [] (by omega) rfl (by simp)
      simp only [List.drop_zero] at hb
      simp only [spec_PatternLikeness_L1, spec_SeenFrom_eq, spec_l29Table_ok (pair_seen h hk), Option.bind_some]
      rw [show (0 : Int) = ((0 : Nat) : Int) from rfl, show spec_l29Best ((colsM d).length + 1) (tab66 fun u v => TM b (SeenM d (k : Int)) (u : Int) (v : Int)) (colsM d) ((0 : Nat) : Int) ((0 : Nat) : Int) = _ from hb]
      rfl)]
    rfl
  · have hd : decide (((colsM d).length : Int) > 3) = true := by simp; omega
    have hd' : decide ((colsM d).length ≤ 3) = false := by simpa using hn
    simp [hd, hd']

theorem impl_PatternLikeness_eq (b d : GBlock) : impl_PatternLikeness b d = some (PatLikeM b d) := by
  unfold impl_PatternLikeness PatLikeM
  simp only [impl_arePaired_eq, impl_ColorsOf_eq, Option.bind_some]
  cases h : pairM b d
  · rfl
  obtain ⟨h1, h2, h3, h4⟩ := pair_len h
  have hc : ColorsM d = colsM d := by simp [ColorsM, h2]
  rw [hc]
  by_cases hn : (colsM d).length ≤ 3
  · have hd : decide (((colsM d).length : Int) > 3) = false := by simp; omega
    have hd' : decide ((colsM d).length ≤ 3) = true := by simpa using hn
    have hp := cols_pos h2
    have hch := impl_choices_small hn
    have hn0 : ((colsM d).length == 0) = false := by rw [beq_eq_false_iff_ne]; omega
    rw [hn0, cond_false] at hch
    have hcount : impl_ColorwayCount d = some ((chsM (colsM d).length : Nat) : Int) := by
      unfold impl_ColorwayCount
      simp only [impl_BlockOk_eq, h2, Option.bind_some, Bool.not_true, cond_false, impl_ColorsOf_eq, hc, hch]
    have hle : chsM (colsM d).length ≤ 120 := by
      have hn : (colsM d).length = 1 ∨ (colsM d).length = 2 ∨ (colsM d).length = 3 := by omega
      rcases hn with e | e | e <;> rw [e] <;> decide
    simp only [hd, hd', Bool.not_true, cond_false, Option.bind_some, Bool.and_self, cond_true, hcount, Int.toNat_natCast]
    rw [gd_pos (by omega), lpO_mx (f := impl_PatternLikeness_L1 b d) (fun i => mx 8 fun k => LikeM b (SeenM (exB (wayM (colsM d) (pkM (ratesM (colsM d).length) i six)) d) (k : Int))) (fun i s hi => by
      have hpr : pairM b (exB (wayM (colsM d) (pkM (ratesM (colsM d).length) i six)) d) = true := by
        have := h
        simp only [pairM, Bool.and_eq_true] at this ⊢
        exact ⟨⟨h1, exB_ok h2 _⟩, this.2⟩
      simp only [impl_PatternLikeness_L1, impl_ColorwayAt_ok h2 hn hi, impl_BestLikeness_ok hpr, Option.bind_some]
      rfl)]
    simp only [Option.bind_some]
    congr 1
    apply Int.le_antisymm
    · refine mx_le_of (mx_nonneg _ _) fun i hi => mx_le_of (mx_nonneg _ _) fun k hk => ?_
      obtain ⟨p1, p2, p3⟩ := pk_ok hp hn hi
      rw [like_way h hk p1 p3]
      exact Int.le_trans (best_ge (T := TM b (SeenM d (k : Int))) (colsM d) [] _ p1 p3 p2 (by simp)) (mx_le (g := fun k : Nat => bestM (TM b (SeenM d (k : Int))) (colsM d) []) hk)
    · refine mx_le_of (mx_nonneg _ _) fun k hk => ?_
      obtain ⟨p, p1, p2, p3, p4, p5⟩ := best_att (T := TM b (SeenM d (k : Int))) (fun u v => (TM_bound h4 u v).1) (colsM d) [] (by simpa using hn)
      obtain ⟨i, hi, hip⟩ := pk_surj (p := p) (by omega) (by omega) p2 p3
      rw [p1] at hi hip
      refine Int.le_trans p5 ?_
      rw [← like_way h hk p1 p2, ← hip]
      exact Int.le_trans (mx_le (g := fun k : Nat => LikeM b (SeenM (exB (wayM (colsM d) (pkM (ratesM (colsM d).length) i six)) d) (k : Int))) hk) (mx_le (g := fun i => mx 8 fun k => LikeM b (SeenM (exB (wayM (colsM d) (pkM (ratesM (colsM d).length) i six)) d) (k : Int))) hi)
  · have hd : decide (((colsM d).length : Int) > 3) = true := by simp; omega
    have hd' : decide ((colsM d).length ≤ 3) = false := by simpa using hn
    simp [hd, hd']

theorem bytesLess_irrefl : ∀ l : List UInt8, Op.bytesLess l l = false
  | [] => rfl
  | x :: l => by
    have := bytesLess_irrefl l
    simp [Op.bytesLess, this]
theorem slt_irrefl (s : Str) : slt s s = false := bytesLess_irrefl _
def lstM (F : Nat → GBlock) : Nat → GBlock
  | 0 => F 0
  | n + 1 => bif slt (textM (F (n + 1))) (textM (lstM F n)) then F (n + 1) else lstM F n
def ixM (F : Nat → GBlock) : Nat → Nat
  | 0 => 0
  | k + 1 => bif slt (textM (F k)) (textM (F (ixM F k))) then k else ixM F k
theorem ix_lst (F : Nat → GBlock) : ∀ k, F (ixM F (k + 1)) = lstM F k
  | 0 => by
    have : slt (textM (F 0)) (textM (F 0)) = false := slt_irrefl _
    simp [ixM, lstM, this]
  | k + 1 => by
    have ih := ix_lst F k
    rw [ixM, lstM, ih]
    cases slt (textM (F (k + 1))) (textM (lstM F k))
    · exact ih
    · rfl
theorem ixM_le (F : Nat → GBlock) : ∀ k, ixM F k ≤ k
  | 0 => Nat.le_refl _
  | k + 1 => by
    have := ixM_le F k
    unfold ixM
    cases slt (textM (F k)) (textM (F (ixM F k))) <;> simp <;> omega
theorem lst_congr {F G : Nat → GBlock} : ∀ {n : Nat}, (∀ k, k ≤ n → F k = G k) → lstM F n = lstM G n
  | 0, h => h 0 (Nat.le_refl _)
  | n + 1, h => by rw [lstM, lstM, lst_congr (n := n) fun k hk => h k (by omega), h (n + 1) (Nat.le_refl _)]
theorem lst_in (F : Nat → GBlock) : ∀ n, ∃ k, k ≤ n ∧ lstM F n = F k
  | 0 => ⟨0, Nat.le_refl _, rfl⟩
  | n + 1 => by
    obtain ⟨k, hk, e⟩ := lst_in F n
    unfold lstM
    cases slt (textM (F (n + 1))) (textM (lstM F n))
    · exact ⟨k, by omega, e⟩
    · exact ⟨n + 1, Nat.le_refl _, rfl⟩

theorem impl_FormatInt_small {a : Int} (h0 : 0 ≤ a) (h1 : a ≤ 5) : impl_FormatInt a = some ⟨[digM a]⟩ := by
  unfold impl_FormatInt strconv_Itoa
  rw [gd_pos ⟨h0, by omega⟩]
  rfl

theorem impl_CellText_eq {c : GCell} (h : CellOkM c = true) : impl_CellText c = some ⟨cellTextM c⟩ := by
  obtain ⟨h1, h2, h3, h4, h5, h6, h7⟩ := cellOk_spec h
  have hs : c.Split = 0 ∨ c.Split = 1 ∨ c.Split = 2 := by omega
  unfold impl_CellText cellTextM
  simp only [impl_CellOk_eq, h, impl_FormatInt_small h3 h4, impl_FormatInt_small h5 h6, Option.bind_some, Bool.not_true, cond_false]
  rcases hs with e | e | e <;> rw [e]
  · rfl
  · rfl
  · rfl

theorem impl_TextOf_eq {b : GBlock} (h : BlockOkM b = true) : impl_TextOf b = some (textM b) := by
  obtain ⟨n, hn, h1, h2, hl, hc⟩ := blockOk_spec h
  have hnn : n * n ≤ 4 * 4 := Nat.mul_le_mul h2 h2
  unfold impl_TextOf
  simp only [impl_BlockOk_eq, h, Option.bind_some, Bool.not_true, cond_false]
  rw [gd_pos (by omega), lpO_st (f := impl_TextOf_L1 b) (s0 := (⟨[]⟩ : Str)) (fun k => (⟨cellsTextM (b.Cells.take k)⟩ : Str)) rfl (fun k hk => by
    have hx := hc _ (gx_mem hk)
    have hlen := cellsText_len (b.Cells.take k)
    have hlen2 : (b.Cells.take k).length ≤ 16 := by simp; omega
    have hlen3 := cellText_len (gx b.Cells k)
    simp only [impl_TextOf_L1, Option.bind_some, impl_CellText_eq hx]
    rw [gd_pos (by simp only [List.length_cons, List.length_nil]; omega), gd_pos (by simp only [sadd, List.length_append, List.length_cons, List.length_nil]; omega)]
    rw [List.take_succ_eq_append_getElem hk, ← gx_lt hk]
    simp [sadd, cellsTextM])]
  simp [textM, h]

theorem impl_least_eq {l : List GBlock} (h0 : 0 < l.length) (hl : l.length ≤ 1000) (hok : ∀ k, k < l.length → BlockOkM (gx l k) = true) : impl_least l = some (lstM (gx l) (l.length - 1)) := by
  unfold impl_least
  rw [gd_pos h0, gd_pos (by omega), lpO_st (f := impl_least_L1 l) (s0 := 0) (ixM (gx l)) rfl (fun k hk => by
    have hi := ixM_le (gx l) k
    unfold impl_least_L1
    rw [gd_pos (by omega), impl_TextOf_eq (hok k hk), impl_TextOf_eq (hok _ (by omega))]
    simp only [Option.bind_some]
    rfl)]
  have hi : ixM (gx l) l.length < l.length := by
    obtain ⟨n, hn⟩ : ∃ n, l.length = n + 1 := ⟨l.length - 1, by omega⟩
    rw [hn]
    unfold ixM
    have := ixM_le (gx l) n
    cases slt (textM (gx l n)) (textM (gx l (ixM (gx l) n))) <;> simp <;> omega
  simp only [Option.bind_some]
  rw [gd_pos hi]
  obtain ⟨n, hn⟩ : ∃ n, l.length = n + 1 := ⟨l.length - 1, by omega⟩
  rw [hn, ix_lst (gx l) n]
  rfl

def FormM (b : GBlock) : GBlock := bif BlockOkM b then lstM (fun k => SeenM b (k : Int)) 7 else ⟨0, []⟩
theorem seen_zero {b : GBlock} (h : BlockOkM b = true) : SeenM b ((0 : Nat) : Int) = b := by
  unfold SeenM
  rw [h]
  rfl
theorem form_ok {b : GBlock} (h : BlockOkM b = true) : BlockOkM (FormM b) = true ∧ (FormM b).Size = b.Size := by
  unfold FormM
  rw [h, cond_true]
  obtain ⟨k, hk, e⟩ := lst_in (fun k => SeenM b (k : Int)) 7
  rw [e]
  exact view_ok h (by omega)

def PattM (b : GBlock) : GBlock := bif BlockOkM b then lstM (fun k => PlainM (SeenM b (k : Int))) 7 else ⟨0, []⟩
theorem patt_ok {b : GBlock} (h : BlockOkM b = true) : BlockOkM (PattM b) = true ∧ (PattM b).Size = b.Size := by
  unfold PattM
  rw [h, cond_true]
  obtain ⟨k, hk, e⟩ := lst_in (fun k => PlainM (SeenM b (k : Int))) 7
  rw [e]
  obtain ⟨v1, v2⟩ := view_ok h (k := k) (by omega)
  obtain ⟨p1, p2⟩ := plain_ok v1
  exact ⟨p1, by rw [p2, v2]⟩

theorem spec_LeastPattern_eq (b : GBlock) : spec_LeastPattern b = some (PattM b) := by
  unfold spec_LeastPattern PattM
  simp only [spec_BlockOk_eq, Option.bind_some]
  cases h : BlockOkM b
  · rfl
  simp only [Bool.not_true, cond_false, cond_true, spec_l07Plain_eq h, Option.bind_some]
  rw [lpO_st (f := spec_LeastPattern_L1 b) (s0 := ((PlainM b).Size, (PlainM b).Cells)) (fun k => ((lstM (fun k => PlainM (SeenM b (k : Int))) k).Size, (lstM (fun k => PlainM (SeenM b (k : Int))) k).Cells)) (by rw [lstM, seen_zero h]) (fun k hk => by
    have hv := (view_ok h (k := k + 1) (by omega)).1
    have hp := (plain_ok hv).1
    have hb : BlockOkM (lstM (fun k => PlainM (SeenM b (k : Int))) k) = true := by
      obtain ⟨j, hj, e⟩ := lst_in (fun k => PlainM (SeenM b (k : Int))) k
      rw [e]; exact (plain_ok (view_ok h (by omega)).1).1
    simp only [spec_LeastPattern_L1, spec_SeenFrom_eq, spec_l07Plain_eq hv, spec_TextOf_eq hp, Option.bind_some]
    rw [show spec_TextOf (GBlock.mk (lstM (fun k => PlainM (SeenM b (k : Int))) k).Size (lstM (fun k => PlainM (SeenM b (k : Int))) k).Cells) = _ from spec_TextOf_eq hb]
    rfl)]
  rfl

theorem impl_LeastPattern_eq (b : GBlock) : impl_LeastPattern b = some (PattM b) := by
  unfold impl_LeastPattern PattM
  simp only [impl_BlockOk_eq, Option.bind_some]
  cases h : BlockOkM b
  · rfl
  simp only [Bool.not_true, cond_false, cond_true, impl_views_eq, Option.bind_some, views_len]
  rw [gd_pos (by omega), lpO_app (f := impl_LeastPattern_L1 (viewsM b)) (xs := []) (fun k : Nat => PlainM (SeenM b (k : Int))) (fun k s hk hs => by
    unfold impl_LeastPattern_L1
    rw [views_gx _ hk, impl_plain_eq (view_ok h hk).1]
    simp only [Option.bind_some]
    rw [gd_pos (by simp at hs; omega)])]
  have hl : (([] : List GBlock) ++ (List.range 8).map fun k : Nat => PlainM (SeenM b (k : Int))).length = 8 := by simp
  have hg : ∀ k, k < 8 → gx (([] : List GBlock) ++ (List.range 8).map fun k : Nat => PlainM (SeenM b (k : Int))) k = PlainM (SeenM b (k : Int)) := fun k hk => by
    rw [List.nil_append]; exact gx_range _ hk
  simp only [Option.bind_some]
  rw [impl_least_eq (by rw [hl]; omega) (by rw [hl]; omega) (fun k hk => by
    rw [hl] at hk
    rw [hg k hk]; exact (plain_ok (view_ok h hk).1).1), hl]
  simp only [Option.bind_some]
  rw [lst_congr (G := fun k => PlainM (SeenM b (k : Int))) fun k hk => hg k (by omega)]

def ArePattM (b d : GBlock) : Bool := BlockOkM b && BlockOkM d && SameBlockM (PattM b) (PattM d)

theorem spec_ArePatternsSame_eq (b d : GBlock) : spec_ArePatternsSame b d = some (ArePattM b d) := by
  unfold spec_ArePatternsSame ArePattM
  simp only [spec_BlockOk_eq, spec_LeastPattern_eq, Option.bind_some]
  cases hb : BlockOkM b
  · rfl
  cases hd : BlockOkM d
  · rfl
  simp only [cond_true, spec_SameBlock_eq (blockOk_sm (patt_ok hb).1).1, Option.bind_some, Bool.true_and]

theorem impl_ArePatternsSame_eq (b d : GBlock) : impl_ArePatternsSame b d = some (ArePattM b d) := by
  unfold impl_ArePatternsSame ArePattM
  simp only [impl_BlockOk_eq, impl_LeastPattern_eq, Option.bind_some]
  cases hb : BlockOkM b
  · rfl
  cases hd : BlockOkM d
  · rfl
  simp only [cond_true, impl_SameBlock_eq (blockOk_sm (patt_ok hb).1).1, Option.bind_some, Bool.true_and]

def VerdictM (e f : GEntry) : Int := bif !EntOkM e || !EntOkM f || e.Block.Size != f.Block.Size then 0 else bif ArePattM e.Block f.Block then 3 else bif decide (wr (10 * PatLikeM e.Block f.Block) ≥ wr (36 * (e.Block.Cells.length : Int))) then 2 else 1
theorem verdict_cases (e f : GEntry) : VerdictM e f = 0 ∨ VerdictM e f = 1 ∨ VerdictM e f = 2 ∨ VerdictM e f = 3 := by
  unfold VerdictM
  cases !EntOkM e || !EntOkM f || e.Block.Size != f.Block.Size
  · cases ArePattM e.Block f.Block
    · cases decide (wr (10 * PatLikeM e.Block f.Block) ≥ wr (36 * (e.Block.Cells.length : Int))) <;> simp
    · simp
  · simp

theorem spec_VerdictOn_eq (e f : GEntry) : spec_VerdictOn e f = some (VerdictM e f) := by
  unfold spec_VerdictOn VerdictM
  simp only [spec_EntryOk_eq', spec_ArePatternsSame_eq, spec_PatternLikeness_eq, Option.bind_some]
  cases EntOkM e
  · rfl
  cases EntOkM f
  · rfl
  cases e.Block.Size != f.Block.Size
  · simp only [Bool.not_true, cond_false, Option.bind_some, Bool.or_self]
    cases ArePattM e.Block f.Block
    · cases decide (wr (10 * PatLikeM e.Block f.Block) ≥ wr (36 * (e.Block.Cells.length : Int))) <;> rfl
    · rfl
  · rfl

theorem impl_VerdictOn_eq (e f : GEntry) : impl_VerdictOn e f = some (VerdictM e f) := by
  unfold impl_VerdictOn VerdictM
  simp only [impl_EntryOk_eq', impl_ArePatternsSame_eq, impl_PatternLikeness_eq, Option.bind_some]
  cases EntOkM e
  · rfl
  cases EntOkM f
  · rfl
  cases e.Block.Size != f.Block.Size
  · simp only [Bool.not_true, cond_false, Option.bind_some, Bool.or_self]
    cases ArePattM e.Block f.Block
    · cases decide (wr (10 * PatLikeM e.Block f.Block) ≥ wr (36 * (e.Block.Cells.length : Int))) <;> rfl
    · rfl
  · rfl

def CopyM (e f : GEntry) : Bool := (e.Owner != f.Owner) && decide (e.Day > f.Day) && decide (VerdictM e f ≥ 2)

theorem spec_IsCopy_eq (e f : GEntry) : spec_IsCopy e f = some (CopyM e f) := by
  unfold spec_IsCopy CopyM
  simp only [spec_VerdictOn_eq, Option.bind_some]
  rcases verdict_cases e f with h | h | h | h <;> rw [h] <;> cases e.Owner != f.Owner <;> cases decide (e.Day > f.Day) <;> rfl

theorem impl_IsCopy_eq (e f : GEntry) : impl_IsCopy e f = some (CopyM e f) := by
  unfold impl_IsCopy CopyM
  simp only [impl_VerdictOn_eq, Option.bind_some]
  cases e.Owner != f.Owner <;> cases decide (e.Day > f.Day) <;> simp

/-- What it means that an entry was taken. -/
def SubmitTo (g : GGuild) (n d : Int) (b : GBlock) (w : GGuild × Bool) : Prop := (∀ k, k < g.Entries.length → CopyM ⟨n, d, b⟩ (gx g.Entries k) = false) ∧ w = ((⟨g.Members, g.Stock, g.Entries ++ [⟨n, d, b⟩], g.Books, g.Round, g.Year⟩ : GGuild), true) ∧ GuildOkM w.1 = true
theorem rx_Submit (g : GGuild) (n d : Int) (b : GBlock) (h : Sm.ok g) (hb : Sm.ok b) : ∃ w, spec_Submit g n d b = some w ∧ impl_Submit g n d b = some w ∧ Sm.ok w.1 ∧ (w = (g, false) ∨ SubmitTo g n d b w) := by
  have hgl := sm_GL h
  have hel : g.Entries.length ≤ 1048576 := h.2.2.1.1
  have hn : GL (⟨g.Members, g.Stock, g.Entries ++ [⟨n, d, b⟩], g.Books, g.Round, g.Year⟩ : GGuild) := ⟨hgl.1, hgl.2.1, by simp only [List.length_append, List.length_cons, List.length_nil]; omega, hgl.2.2.2⟩
  have hloop : ∀ f : Nat → Unit → Option (Res Unit (GGuild × Bool)), (∀ k, k < g.Entries.length → f k () = some (bif CopyM ⟨n, d, b⟩ (gx g.Entries k) then .ret (g, false) else .next ())) → forO f g.Entries.length 0 () = some (bif (List.range g.Entries.length).all (fun k => !CopyM ⟨n, d, b⟩ (gx g.Entries k)) then .inl () else .inr (g, false)) := fun f hf =>
    forO_all (f := f) (fun k => !CopyM ⟨n, d, b⟩ (gx g.Entries k)) fun k hk => by
      rw [hf k hk]
      cases CopyM ⟨n, d, b⟩ (gx g.Entries k) <;> rfl
  unfold spec_Submit impl_Submit
  simp only [spec_l38Copy_eq h, spec_l03Copy_sm hb, impl_Guild_copied_eq h, impl_Block_copied_sm hb, spec_GuildOk_eq g hgl, impl_GuildOk_eq g hgl, Option.bind_some]
  cases hg : GuildOkM g
  · exact ⟨(g, false), rfl, rfl, h, .inl rfl⟩
  simp only [Bool.not_true, cond_false]
  rw [gd_pos (p := g.Entries.length ≤ 4611686018427387904) (by omega), gd_pos (p := g.Entries.length ≤ 4611686018427387904) (by omega), hloop (spec_Submit_L1 g n d g b) (fun k hk => by
    simp only [spec_Submit_L1, spec_IsCopy_eq, Option.bind_some]
    cases CopyM ⟨n, d, b⟩ (gx g.Entries k) <;> rfl), hloop (impl_Submit_L1 g n d g b) (fun k hk => by
    have e : impl_IsCopy ⟨n, d, b⟩ ⟨(gx g.Entries k).Owner, (gx g.Entries k).Day, (gx g.Entries k).Block⟩ = some (CopyM ⟨n, d, b⟩ (gx g.Entries k)) := impl_IsCopy_eq _ _
    simp only [impl_Submit_L1, e, Option.bind_some]
    cases CopyM ⟨n, d, b⟩ (gx g.Entries k) <;> rfl)]
  cases hall : (List.range g.Entries.length).all fun k => !CopyM ⟨n, d, b⟩ (gx g.Entries k)
  · exact ⟨(g, false), rfl, rfl, h, .inl rfl⟩
  simp only [cond_true, sq_inl]
  rw [gd_pos (by omega), gd_pos (by omega)]
  simp only [spec_GuildOk_eq _ hn, impl_becomes_eq h hn, hg, Option.bind_some]
  cases hx : GuildOkM (⟨g.Members, g.Stock, g.Entries ++ [⟨n, d, b⟩], g.Books, g.Round, g.Year⟩ : GGuild)
  · exact ⟨(g, false), rfl, rfl, h, .inl rfl⟩
  · refine ⟨_, rfl, rfl, guildOk_sm hx, .inr ⟨fun k hk => ?_, rfl, hx⟩⟩
    rw [List.all_eq_true] at hall
    have := hall k (by simpa using hk)
    simpa using this

/-- How many are not used below n. -/
def freeN (used : List Bool) : Nat → Nat
  | 0 => 0
  | n + 1 => freeN used n + (bif gx used n then 0 else 1)
theorem freeN_mono (used : List Bool) {a : Nat} : ∀ {b : Nat}, a ≤ b → freeN used a ≤ freeN used b
  | 0, h => by
    have : a = 0 := by omega
    rw [this]; exact Nat.le_refl _
  | b + 1, h => by
    rcases Nat.lt_or_ge a (b + 1) with h1 | h1
    · exact Nat.le_trans (freeN_mono used (b := b) (by omega)) (by rw [freeN]; omega)
    · have : a = b + 1 := by omega
      rw [this]; exact Nat.le_refl _
theorem freeN_le (used : List Bool) : ∀ n, freeN used n ≤ n
  | 0 => Nat.le_refl _
  | n + 1 => by
    have := freeN_le used n
    rw [freeN]
    cases gx used n <;> simp <;> omega

def nof : List Bool := List.replicate 6 false
/-- The picks by marks are the picks by cutting. -/
def chkB1 : Bool := (List.range 6).all fun i => freeN nof i == i && gx nof i == false && pkM [1] i six == [(i : Int)]
def secB (a b : Nat) : Nat := bif decide (b < a) then b else b + 1
def chkB2 : Bool := (List.range 30).all fun i => freeN nof (i / 5) == i / 5 && gx nof (i / 5) == false && freeN (nof.set (i / 5) true) (secB (i / 5) (i % 5)) == i % 5 && gx (nof.set (i / 5) true) (secB (i / 5) (i % 5)) == false && pkM [5, 1] i six == [((i / 5 : Nat) : Int), ((secB (i / 5) (i % 5) : Nat) : Int)] && decide (secB (i / 5) (i % 5) < 6)
def u3 (i : Nat) : List Bool := nof.set (i / 20) true
def s3 (i : Nat) : Nat := secB (i / 20) (i % 20 / 4)
def v3 (i : Nat) : List Bool := (u3 i).set (s3 i) true
def t3 (i : Nat) : Nat := (pkM [20, 4, 1] i six)[2]!.toNat
def chkB3 : Bool := (List.range 120).all fun i => freeN nof (i / 20) == i / 20 && gx nof (i / 20) == false && freeN (u3 i) (s3 i) == i % 20 / 4 && gx (u3 i) (s3 i) == false && freeN (v3 i) (t3 i) == i % 20 % 4 && gx (v3 i) (t3 i) == false && pkM [20, 4, 1] i six == [((i / 20 : Nat) : Int), ((s3 i : Nat) : Int), ((t3 i : Nat) : Int)] && decide (s3 i < 6) && decide (t3 i < 6)
theorem chkB1_ok : chkB1 = true := by decide +kernel
theorem chkB2_ok : chkB2 = true := by decide +kernel
theorem chkB3_ok : chkB3 = true := by decide +kernel

theorem forO_tot {S C : Type} {f : Nat → S → Option (Res S C)} (I : S → Prop) : ∀ (m k : Nat) (s : S), I s → (∀ j s, k ≤ j → j < k + m → I s → ∃ s', I s' ∧ (f j s = some (.next s') ∨ f j s = some (.brk s'))) → ∃ s', I s' ∧ forO f m k s = some (.inl s')
  | 0, _, s, hs, _ => ⟨s, hs, rfl⟩
  | m + 1, k, s, hs, h => by
    obtain ⟨s', hs', h1 | h1⟩ := h k s (Nat.le_refl _) (by omega) hs
    · obtain ⟨s2, h2, e2⟩ := forO_tot I m (k + 1) s' hs' fun j s hj hj2 => h j s (by omega) (by omega)
      exact ⟨s2, h2, by rw [forO, h1]; exact e2⟩
    · exact ⟨s', hs', by rw [forO, h1]; rfl⟩
theorem lpO_tot {S : Type} {f : Nat → S → Option (Res S Empty)} (I : S → Prop) {N : Nat} {s0 : S} (h0 : I s0) (h : ∀ j s, j < N → I s → ∃ s', I s' ∧ (f j s = some (.next s') ∨ f j s = some (.brk s'))) : ∃ s', I s' ∧ lpO f N s0 = some s' := by
  obtain ⟨s', h1, h2⟩ := forO_tot I N 0 s0 h0 fun j s _ hj => h j s (by omega)
  exact ⟨s', h1, by unfold lpO; rw [h2]; rfl⟩

/-- The cursor stands in the code. -/
def CurOk (c : List UInt8) (i : Int) : Prop := c.length ≤ 1048576 ∧ 0 ≤ i ∧ i ≤ c.length
theorem andI_255 (x : Int) : 0 ≤ andI x 255 ∧ andI x 255 ≤ 255 := by
  have h : (BitVec.ofInt 64 x &&& BitVec.ofInt 64 255).toNat ≤ 255 := by
    rw [BitVec.toNat_and]
    exact Nat.le_trans Nat.and_le_right (by decide)
  unfold andI
  rw [wr_of (by omega) (by omega)]
  omega
theorem u8_range (x : UInt8) : 0 ≤ (x.toNat : Int) ∧ (x.toNat : Int) ≤ 255 := by
  have := x.toNat_lt
  omega

theorem draw_New {c : List UInt8} (h : c.length ≤ 1048576) : ∃ g, spec_l01New c = some (0, g) ∧ CurOk c 0 := by
  obtain ⟨g, _, e⟩ := lpO_tot (f := spec_l01New_L1 c) (N := c.length) (s0 := wr (33041 + ((c.length : Nat) : Int))) (fun _ => True) trivial fun j s _ _ => by
    unfold spec_l01New_L1
    cases decide (((j : Nat) : Int) < 4000)
    · exact ⟨s, trivial, .inr rfl⟩
    · exact ⟨_, trivial, .inl rfl⟩
  refine ⟨g, ?_, h, by omega, by omega⟩
  unfold spec_l01New
  rw [gd_pos (by omega), e]
  rfl

theorem draw_Byte {c : List UInt8} {i g : Int} (h : CurOk c i) : ∃ x i' g', spec_l01Byte c i g = some (x, i', g') ∧ CurOk c i' ∧ 0 ≤ x ∧ x ≤ 255 := by
  obtain ⟨h0, h1, h2⟩ := h
  unfold spec_l01Byte
  by_cases hi : i < c.length
  · have e : decide (i < ((c.length : Nat) : Int)) = true := decide_eq_true hi
    simp only [e, cond_true]
    rw [gd_pos ⟨h1, hi⟩]
    have ew : wr (i + 1) = i + 1 := wr_of (by omega) (by omega)
    refine ⟨_, _, _, rfl, ⟨h0, ?_, ?_⟩, (andI_255 _).1, (andI_255 _).2⟩ <;> simp only [ew] <;> omega
  · have e : decide (i < ((c.length : Nat) : Int)) = false := decide_eq_false hi
    simp only [e, cond_false]
    exact ⟨_, _, _, rfl, ⟨h0, h1, h2⟩, (andI_255 _).1, (andI_255 _).2⟩

theorem draw_Below {c : List UInt8} {i g n : Int} (h : CurOk c i) (hn : n ≤ 1048576) : ∃ x i' g', spec_l01Below c i g n = some (x, i', g') ∧ CurOk c i' ∧ 0 ≤ x ∧ (0 < n → x < n) ∧ (n ≤ 0 → x = 0) := by
  unfold spec_l01Below
  by_cases h0 : n ≤ 0
  · rw [decide_eq_true h0, cond_true]
    exact ⟨0, i, g, rfl, h, by omega, by omega, fun _ => rfl⟩
  rw [decide_eq_false h0, cond_false]
  by_cases h1 : n ≤ 256
  · obtain ⟨x, i1, g1, e, hc, x0, x1⟩ := draw_Byte (g := g) h
    rw [decide_eq_true h1, cond_true, e]
    simp only [Option.bind_some]
    rw [gd_pos (by omega)]
    have hr := Int.tmod_lt_of_pos x (show 0 < n by omega)
    have hr0 := Int.tmod_nonneg n x0
    exact ⟨_, _, _, rfl, hc, hr0, fun _ => hr, fun hh => absurd hh (by omega)⟩
  · obtain ⟨x, i1, g1, e1, c1, x0, x1⟩ := draw_Byte (g := g) h
    obtain ⟨y, i2, g2, e2, c2, y0, y1⟩ := draw_Byte (g := g1) c1
    obtain ⟨z, i3, g3, e3, c3, z0, z1⟩ := draw_Byte (g := g2) c2
    obtain ⟨u, i4, g4, e4, c4, u0, u1⟩ := draw_Byte (g := g3) c3
    rw [decide_eq_false h1, cond_false, e1]
    simp only [Option.bind_some, e2, e3, e4]
    rw [gd_pos (by omega)]
    have w1 : wr (x * 16777216) = x * 16777216 := wr_of (by omega) (by omega)
    have w2 : wr (y * 65536) = y * 65536 := wr_of (by omega) (by omega)
    have w3 : wr (z * 256) = z * 256 := wr_of (by omega) (by omega)
    have w4 : wr (x * 16777216 + y * 65536) = x * 16777216 + y * 65536 := wr_of (by omega) (by omega)
    have w5 : wr (x * 16777216 + y * 65536 + z * 256) = x * 16777216 + y * 65536 + z * 256 := wr_of (by omega) (by omega)
    have w6 : wr (x * 16777216 + y * 65536 + z * 256 + u) = x * 16777216 + y * 65536 + z * 256 + u := wr_of (by omega) (by omega)
    have hr := Int.tmod_lt_of_pos (x * 16777216 + y * 65536 + z * 256 + u) (show 0 < n by omega)
    have hr0 := Int.tmod_nonneg n (show 0 ≤ x * 16777216 + y * 65536 + z * 256 + u by omega)
    refine ⟨_, _, _, rfl, c4, ?_, fun _ => ?_, fun hh => absurd hh (by omega)⟩
    · simp only [w1, w2, w3, w4, w5, w6]; exact hr0
    · simp only [w1, w2, w3, w4, w5, w6]; exact hr

theorem forO_inv {S C : Type} {f : Nat → S → Option (Res S C)} (I : Nat → S → Prop) : ∀ (m k : Nat) (s : S), I k s → (∀ j s, k ≤ j → j < k + m → I j s → ∃ s', I (j + 1) s' ∧ f j s = some (.next s')) → ∃ s', I (k + m) s' ∧ forO f m k s = some (.inl s')
  | 0, _, s, hs, _ => ⟨s, hs, rfl⟩
  | m + 1, k, s, hs, h => by
    obtain ⟨s', hs', h1⟩ := h k s (Nat.le_refl _) (by omega) hs
    obtain ⟨s2, h2, e2⟩ := forO_inv I m (k + 1) s' hs' fun j s hj hj2 => h j s (by omega) (by omega)
    exact ⟨s2, by rw [show k + (m + 1) = k + 1 + m by omega]; exact h2, by rw [forO, h1]; exact e2⟩
theorem lpO_inv2 {S : Type} {f : Nat → S → Option (Res S Empty)} (I : Nat → S → Prop) {N : Nat} {s0 : S} (h0 : I 0 s0) (h : ∀ j s, j < N → I j s → ∃ s', I (j + 1) s' ∧ f j s = some (.next s')) : ∃ s', I N s' ∧ lpO f N s0 = some s' := by
  obtain ⟨s', h1, h2⟩ := forO_inv I N 0 s0 h0 fun j s _ hj => h j s (by omega)
  exact ⟨s', by rw [Nat.zero_add] at h1; exact h1, by unfold lpO; rw [h2]; rfl⟩

theorem draw_Cell {c : List UInt8} {i g : Int} (h : CurOk c i) : ∃ x i' g', spec_l02Cell c i g = some (x, i', g') ∧ CurOk c i' ∧ CellOkM x = true := by
  obtain ⟨x, i1, g1, e1, c1, _⟩ := draw_Below (g := g) (n := 3) h (by omega)
  obtain ⟨y, i2, g2, e2, c2, _⟩ := draw_Below (g := g1) (n := 3) c1 (by omega)
  obtain ⟨z, i3, g3, e3, c3, _⟩ := draw_Below (g := g2) (n := 3) c2 (by omega)
  unfold spec_l02Cell
  rw [e1]
  simp only [Option.bind_some, e2, e3, spec_SplitCell_eq]
  exact ⟨_, _, _, rfl, c3, splitCell_ok _ _ _⟩

theorem draw_at {c : List UInt8} (h : c.length ≤ 1048576) {i : Int} (h0 : 0 ≤ i) (h1 : i ≤ 1000) : ∃ x, laws_at c i = some x ∧ 0 ≤ x ∧ x ≤ 255 := by
  unfold laws_at
  cases hc : ((c.length : Nat) : Int) == 0
  · have hne : ((c.length : Nat) : Int) ≠ 0 := by simpa using hc
    have e1 : wr (i * 5) = i * 5 := wr_of (by omega) (by omega)
    have e2 : wr (i * 5 + 1) = i * 5 + 1 := wr_of (by omega) (by omega)
    have r0 := Int.tmod_nonneg ((c.length : Nat) : Int) (show 0 ≤ i * 5 + 1 by omega)
    have r1 := Int.tmod_lt_of_pos (i * 5 + 1) (show 0 < ((c.length : Nat) : Int) by omega)
    simp only [cond_false, e1, e2]
    rw [gd_pos hne, gd_pos ⟨r0, r1⟩]
    exact ⟨_, rfl, (u8_range _).1, (u8_range _).2⟩
  · exact ⟨0, rfl, by omega, by omega⟩

theorem whO_down {S C : Type} {f : S → Option (Res S C)} (I : S → Prop) (ct : S → Nat) (h : ∀ s, I s → (∃ s', I s' ∧ ct s' < ct s ∧ f s = some (.next s')) ∨ ∃ s', I s' ∧ f s = some (.brk s')) : ∀ (n fuel : Nat) (s : S), I s → ct s ≤ n → n < fuel → ∃ s', I s' ∧ whO f fuel s = some (.inl s')
  | _, 0, _, _, _, hf => absurd hf (by omega)
  | n, fuel + 1, s, hs, hn, hf => by
    rcases h s hs with ⟨s', h1, h2, h3⟩ | ⟨s', h1, h3⟩
    · cases n with
      | zero => omega
      | succ n =>
        obtain ⟨s2, k1, k2⟩ := whO_down I ct h n fuel s' h1 (by omega) (by omega)
        exact ⟨s2, k1, by rw [whO, h3]; exact k2⟩
    · exact ⟨s', h1, by rw [whO, h3]; rfl⟩

/-- A valid list that gives different colors for different colors. -/
def InjM (l : List Int) : Prop := ListOkM l = true ∧ l.Nodup
theorem list_gx {l : List Int} (h : ListOkM l = true) {x : Int} (h0 : 0 ≤ x) (h1 : x ≤ 5) : 0 ≤ gx l x.toNat ∧ gx l x.toNat ≤ 5 := by
  obtain ⟨hl, hr⟩ := listOk_spec h
  exact hr _ (gx_mem (by omega))
theorem inj_gx {l : List Int} (h : InjM l) {x y : Int} (hx0 : 0 ≤ x) (hx1 : x ≤ 5) (hy0 : 0 ≤ y) (hy1 : y ≤ 5) : (gx l x.toNat == gx l y.toNat) = (x == y) := by
  obtain ⟨hl, hr⟩ := listOk_spec h.1
  rw [Bool.eq_iff_iff, beq_iff_eq, beq_iff_eq]
  constructor
  · intro e
    rw [gx_lt (by omega), gx_lt (by omega)] at e
    have := (List.getElem_inj h.2).1 e
    omega
  · rintro rfl; rfl
/-- A cell under a list that gives different colors for different colors. -/
theorem exCell_inj {c : GCell} (hc : CellOkM c = true) {l : List Int} (h : InjM l) : ExchangeCellM c l = ⟨c.Split, gx l c.A.toNat, gx l c.B.toNat⟩ := by
  obtain ⟨c1, c2, c3, c4, c5, c6, c7⟩ := cellOk_spec hc
  have hA := list_gx h.1 c3 c4
  have hB := list_gx h.1 c5 c6
  have he := inj_gx h c3 c4 c5 c6
  unfold ExchangeCellM
  rw [hc, h.1]
  simp only [Bool.and_self, cond_true]
  unfold SplitCellM
  rw [he]
  cases hab : c.A == c.B
  · have hne : c.A ≠ c.B := by simpa using hab
    have h2 : CellOkM ⟨c.Split, gx l c.A.toNat, gx l c.B.toNat⟩ = true := cellOk_of c1 c2 hA.1 hA.2 hB.1 hB.2 (by
      have : gx l c.A.toNat ≠ gx l c.B.toNat := by
        rw [hab] at he
        simpa using he
      constructor
      · intro h0; exact absurd (c7.1 h0) hne
      · intro h0; exact absurd h0 this)
    rw [cond_false, h2]; rfl
  · have heq : c.A = c.B := by simpa using hab
    have h0 := c7.2 heq
    rw [cond_true, WholeCellM, inR_iff.2 ⟨hA.1, hA.2⟩, cond_true, h0, heq]

theorem exB_inj_cells {b : GBlock} (hb : BlockOkM b = true) {l : List Int} (h : InjM l) : (exB l b).Cells = b.Cells.map fun c => ⟨c.Split, gx l c.A.toNat, gx l c.B.toNat⟩ := by
  obtain ⟨n, hn, h1, h2, hl, hc⟩ := blockOk_spec hb
  exact List.map_congr_left fun c hm => exCell_inj (hc c hm) h
/-- What an exchange and another undo. -/
theorem exB_undo {b : GBlock} (hb : BlockOkM b = true) {l m : List Int} (hl : InjM l) (hm : InjM m) (h : ∀ x : Int, 0 ≤ x → x ≤ 5 → gx m (gx l x.toNat).toNat = x) : exB m (exB l b) = b := by
  obtain ⟨n, hn, h1, h2, hlen, hc⟩ := blockOk_spec hb
  have e1 := exB_inj_cells hb hl
  have e2 := exB_inj_cells (exB_ok hb l) hm
  have e3 : (exB m (exB l b)).Cells = b.Cells := by
    rw [e2, e1, List.map_map]
    have : ∀ c ∈ b.Cells, ((fun c : GCell => (⟨c.Split, gx m c.A.toNat, gx m c.B.toNat⟩ : GCell)) ∘ fun c : GCell => (⟨c.Split, gx l c.A.toNat, gx l c.B.toNat⟩ : GCell)) c = c := fun c hcm => by
      obtain ⟨c1, c2, c3, c4, c5, c6, c7⟩ := cellOk_spec (hc c hcm)
      simp only [Function.comp, h c.A c3 c4, h c.B c5 c6]
    rw [List.map_congr_left this, List.map_id']
  have e4 : (exB m (exB l b)).Size = b.Size := rfl
  calc exB m (exB l b) = ⟨(exB m (exB l b)).Size, (exB m (exB l b)).Cells⟩ := rfl
    _ = ⟨b.Size, b.Cells⟩ := by rw [e3, e4]
    _ = b := rfl
/-- The area of a color behind an exchange. -/
theorem area_exB {b : GBlock} (hb : BlockOkM b = true) {l : List Int} (hl : InjM l) {x : Int} (h0 : 0 ≤ x) (h1 : x ≤ 5) : AreaM (exB l b) (gx l x.toNat) = AreaM b x := by
  obtain ⟨n, hn, n1, n2, hlen, hc⟩ := blockOk_spec hb
  unfold AreaM
  rw [exB_ok hb l, hb, cond_true, cond_true, exB_inj_cells hb hl, List.map_map]
  congr 1
  refine List.map_congr_left fun c hcm => ?_
  obtain ⟨c1, c2, c3, c4, c5, c6, c7⟩ := cellOk_spec (hc c hcm)
  simp only [Function.comp, arM, inj_gx hl c3 c4 h0 h1, inj_gx hl c5 c6 h0 h1]

/-- The colors of a block by their first uses. -/
def firstsM (b : GBlock) : List Int := (useSeq b).foldl addU []
theorem ord6_eq (b : GBlock) : ord6 b = six.foldl addU (firstsM b) := by unfold ord6 firstsM; rw [List.foldl_append]
theorem firsts_nodup (b : GBlock) : (firstsM b).Nodup := (fold_addU (useSeq b) [] (by simp)).1
theorem mem_firsts {b : GBlock} {x : Int} : x ∈ firstsM b ↔ x ∈ useSeq b := by
  unfold firstsM
  rw [(fold_addU (useSeq b) [] (by simp)).2]
  simp
theorem useSeq_in {b : GBlock} (h : BlockOkM b = true) {x : Int} (hx : x ∈ useSeq b) : 0 ≤ x ∧ x ≤ 5 := by
  obtain ⟨n, hn, h1, h2, hl, hc⟩ := blockOk_spec h
  obtain ⟨c, hm, e⟩ := mem_useSeq.1 hx
  obtain ⟨c1, c2, c3, c4, c5, c6, _⟩ := cellOk_spec (hc c hm)
  rcases e with rfl | rfl <;> omega
/-- What is added stands behind what was there. -/
theorem fold_addU_pre : ∀ (l acc : List Int), ∃ r, l.foldl addU acc = acc ++ r
  | [], acc => ⟨[], by simp⟩
  | a :: l, acc => by
    obtain ⟨r, hr⟩ := fold_addU_pre l (addU acc a)
    rw [List.foldl_cons, hr]
    unfold addU
    cases acc.contains a
    · exact ⟨a :: r, by simp⟩
    · exact ⟨r, rfl⟩
theorem fold_addU_map {F : Int → Int} (S : Int → Prop) (hF : ∀ x y, S x → S y → F x = F y → x = y) : ∀ (l acc : List Int), (∀ x ∈ l, S x) → (∀ x ∈ acc, S x) → (l.map F).foldl addU (acc.map F) = (l.foldl addU acc).map F
  | [], acc, _, _ => rfl
  | a :: l, acc, hl, ha => by
    have e : addU (acc.map F) (F a) = (addU acc a).map F := by
      have hc : (acc.map F).contains (F a) = acc.contains a := by
        rw [Bool.eq_iff_iff, List.contains_iff_mem, List.contains_iff_mem, List.mem_map]
        constructor
        · rintro ⟨x, hx, he⟩
          rw [← hF x a (ha x hx) (hl a (by simp)) he]; exact hx
        · intro h; exact ⟨a, h, rfl⟩
      unfold addU
      rw [hc]
      cases acc.contains a <;> simp
    rw [List.map_cons, List.foldl_cons, List.foldl_cons, e]
    refine fold_addU_map S hF l _ (fun x hx => hl x (by simp [hx])) fun x hx => ?_
    rcases addU_mem.1 hx with h | rfl
    · exact ha x h
    · exact hl _ (by simp)

theorem firstUse_gx {b : GBlock} (h : BlockOkM b = true) {x : Int} (h0 : 0 ≤ x) (h1 : x ≤ 5) : gx (FirstUseM b) x.toNat = idxM (ord6 b) x := by
  have e : FirstUseM b = (List.range 6).map fun a : Nat => idxM (ord6 b) (a : Int) := by simp [FirstUseM, h]
  rw [e, gx_range _ (by omega)]
  congr 1
  omega
theorem firstUse_used {b : GBlock} (h : BlockOkM b = true) {x : Int} (hx : x ∈ useSeq b) : gx (FirstUseM b) x.toNat = idxM (firstsM b) x := by
  obtain ⟨r0, r1⟩ := useSeq_in h hx
  obtain ⟨r, hr⟩ := fold_addU_pre six (firstsM b)
  have hn := (ord6_ok h).1
  rw [firstUse_gx h r0 r1]
  rw [ord6_eq, hr] at hn ⊢
  exact idxM_append r hn (mem_firsts.2 hx)
theorem firstUse_inj {b : GBlock} (h : BlockOkM b = true) : InjM (FirstUseM b) := by
  refine ⟨firstUse_ok h, ?_⟩
  obtain ⟨g1, g2, g3⟩ := ord6_ok h
  have e : FirstUseM b = (List.range 6).map fun a : Nat => idxM (ord6 b) (a : Int) := by simp [FirstUseM, h]
  rw [e]
  unfold List.Nodup
  rw [List.pairwise_map]
  refine List.Pairwise.imp_of_mem (fun {x y} hx hy hne hxy => hne ?_) (List.nodup_range (n := 6))
  have hx6 : x < 6 := by simpa using hx
  have hy6 : y < 6 := by simpa using hy
  rcases idxM_cases (ord6 b) (x : Int) with ⟨k1, _⟩ | ⟨k, k1, k2, k3⟩
  · exact absurd ((g2 _).2 ⟨by omega, by omega⟩) k1
  rcases idxM_cases (ord6 b) (y : Int) with ⟨m1, _⟩ | ⟨m, m1, m2, m3⟩
  · exact absurd ((g2 _).2 ⟨by omega, by omega⟩) m1
  have : k = m := by omega
  subst this
  omega

theorem useSeq_exB {b : GBlock} (hb : BlockOkM b = true) {l : List Int} (hl : InjM l) : useSeq (exB l b) = (useSeq b).map fun x => gx l x.toNat := by
  unfold useSeq
  rw [exB_inj_cells hb hl, List.flatMap_map, List.map_flatMap]
  rfl
theorem firsts_exB {b : GBlock} (hb : BlockOkM b = true) {l : List Int} (hl : InjM l) : firstsM (exB l b) = (firstsM b).map fun x => gx l x.toNat := by
  unfold firstsM
  rw [useSeq_exB hb hl]
  exact fold_addU_map (F := fun x => gx l x.toNat) (fun x => 0 ≤ x ∧ x ≤ 5) (fun x y hx hy e => by
    have := inj_gx hl hx.1 hx.2 hy.1 hy.2
    have e2 : (gx l x.toNat == gx l y.toNat) = true := by simpa using e
    rw [e2] at this
    simpa using this.symm) (useSeq b) [] (fun x hx => useSeq_in hb hx) (by simp)

/-- The plain block of an exchanged block is that of the block. -/
theorem plain_exB {b : GBlock} (hb : BlockOkM b = true) {l : List Int} (hl : InjM l) : exB (FirstUseM (exB l b)) (exB l b) = exB (FirstUseM b) b := by
  have hx := exB_ok hb l
  have hs : (exB (FirstUseM (exB l b)) (exB l b)).Size = (exB (FirstUseM b) b).Size := rfl
  have hc : (exB (FirstUseM (exB l b)) (exB l b)).Cells = (exB (FirstUseM b) b).Cells := by
    rw [exB_inj_cells hx (firstUse_inj hx), exB_inj_cells hb (firstUse_inj hb), exB_inj_cells hb hl, List.map_map]
    have key : ∀ x, x ∈ useSeq b → gx (FirstUseM (exB l b)) (gx l x.toNat).toNat = gx (FirstUseM b) x.toNat := fun x hu => by
      have hu' : gx l x.toNat ∈ useSeq (exB l b) := by rw [useSeq_exB hb hl]; exact List.mem_map.2 ⟨x, hu, rfl⟩
      rw [firstUse_used hx hu', firstUse_used hb hu, firsts_exB hb hl]
      rcases idxM_cases (firstsM b) x with ⟨k1, _⟩ | ⟨k, k1, k2, k3⟩
      · exact absurd (mem_firsts.2 hu) k1
      have hn : ((firstsM b).map fun x => gx l x.toNat).Nodup := by rw [← firsts_exB hb hl]; exact firsts_nodup _
      have := idxM_of hn (k := k) (by simpa using k1)
      have e : gx ((firstsM b).map fun x => gx l x.toNat) k = gx l x.toNat := by
        rw [gx_lt (by simpa using k1), List.getElem_map, ← gx_lt k1, k3]
      rw [e] at this
      rw [this, k2]
    refine List.map_congr_left fun c hm => ?_
    simp only [Function.comp]
    rw [key c.A (mem_useSeq.2 ⟨c, hm, .inl rfl⟩), key c.B (mem_useSeq.2 ⟨c, hm, .inr rfl⟩)]
  calc exB (FirstUseM (exB l b)) (exB l b) = ⟨(exB (FirstUseM (exB l b)) (exB l b)).Size, (exB (FirstUseM (exB l b)) (exB l b)).Cells⟩ := rfl
    _ = ⟨(exB (FirstUseM b) b).Size, (exB (FirstUseM b) b).Cells⟩ := by rw [hs, hc]
    _ = exB (FirstUseM b) b := rfl

theorem nodup_sub : ∀ (l m : List Int), l.Nodup → (∀ y ∈ l, y ∈ m) → l.length ≤ m.length
  | [], _, _, _ => by simp
  | a :: l, m, hn, h => by
    rw [List.nodup_cons] at hn
    have ha := h a (by simp)
    have := nodup_sub l (m.erase a) hn.2 fun y hy => (List.mem_erase_of_ne (fun e : y = a => hn.1 (by rw [← e]; exact hy))).2 (h y (by simp [hy]))
    have hpos := List.length_pos_of_mem ha
    rw [List.length_erase_of_mem ha] at this
    simp only [List.length_cons]
    omega
theorem mem_of_inj {l : List Int} (h : InjM l) (x : Int) : x ∈ l ↔ 0 ≤ x ∧ x ≤ 5 := by
  obtain ⟨hl, hr⟩ := listOk_spec h.1
  constructor
  · exact hr x
  · intro hx
    refine Classical.byContradiction fun hn => ?_
    have := nodup_sub (x :: l) six (List.nodup_cons.2 ⟨hn, h.2⟩) fun y hy => by
      rcases List.mem_cons.1 hy with rfl | hy
      · exact mem_six.2 hx
      · exact mem_six.2 (hr y hy)
    simp [hl, six] at this
def undoM (l : List Int) : List Int := (List.range 6).map fun a : Nat => idxM l (a : Int)
theorem undo_inj {l : List Int} (h : InjM l) : InjM (undoM l) ∧ ∀ x : Int, 0 ≤ x → x ≤ 5 → gx (undoM l) (gx l x.toNat).toNat = x := by
  obtain ⟨hl, hr⟩ := listOk_spec h.1
  have hmem := mem_of_inj h
  have hix : ∀ a : Nat, a < 6 → ∃ k : Nat, k < 6 ∧ idxM l (a : Int) = k ∧ gx l k = a := fun a ha => by
    rcases idxM_cases l (a : Int) with ⟨k1, _⟩ | ⟨k, k1, k2, k3⟩
    · exact absurd ((hmem _).2 ⟨by omega, by omega⟩) k1
    · exact ⟨k, by omega, k2, k3⟩
  refine ⟨⟨listOk_of (by simp [undoM]) fun a ha => ?_, ?_⟩, fun x h0 h1 => ?_⟩
  · simp only [undoM, List.mem_map, List.mem_range] at ha
    obtain ⟨y, hy, rfl⟩ := ha
    obtain ⟨k, k1, k2, _⟩ := hix y hy
    omega
  · unfold undoM List.Nodup
    rw [List.pairwise_map]
    refine List.Pairwise.imp_of_mem (fun {x y} hx hy hne hxy => hne ?_) (List.nodup_range (n := 6))
    obtain ⟨k, k1, k2, k3⟩ := hix x (by simpa using hx)
    obtain ⟨m, m1, m2, m3⟩ := hix y (by simpa using hy)
    have : k = m := by omega
    subst this
    omega
  · obtain ⟨g0, g1⟩ := list_gx h.1 h0 h1
    unfold undoM
    rw [gx_range _ (by omega)]
    have e : (((gx l x.toNat).toNat : Nat) : Int) = gx l x.toNat := by omega
    rw [e, idxM_of h.2 (by omega)]
    omega

/-- A valid block is its size and its cells at their places. -/
theorem block_ext {b d : GBlock} (hb : BlockOkM b = true) (hd : BlockOkM d = true) (hs : b.Size = d.Size) (h : ∀ n : Nat, b.Size = n → ∀ y x, y < n → x < n → gx b.Cells (y * n + x) = gx d.Cells (y * n + x)) : b = d := by
  obtain ⟨n, hn, h1, h2, hl, hc⟩ := blockOk_spec hb
  obtain ⟨m, hm, _, _, gl, gc⟩ := blockOk_spec hd
  have hnm : n = m := by omega
  subst hnm
  have hcells : b.Cells = d.Cells := by
    refine gx_ext (by rw [hl, gl]) fun k hk => ?_
    have hq : k / n < n := Nat.div_lt_of_lt_mul (by rw [hl] at hk; exact hk)
    have hr : k % n < n := Nat.mod_lt _ (by omega)
    have e : k / n * n + k % n = k := by rw [Nat.mul_comm]; exact Nat.div_add_mod k n
    have := h n hn (k / n) (k % n) hq hr
    rwa [e] at this
  cases b; cases d
  simp only at hs hcells
  rw [hs, hcells]
theorem turn_gx {b : GBlock} (hb : BlockOkM b = true) {n : Nat} (hn : b.Size = n) {y x : Nat} (hy : y < n) (hx : x < n) : gx (TurnBlockM b).Cells (y * n + x) = TurnCellM (gx b.Cells ((n - 1 - x) * n + y)) := by
  unfold TurnBlockM
  rw [hb, hn]
  simp only [cond_true, Int.toNat_natCast]
  exact cellsM_gx hy hx
theorem mirror_gx {b : GBlock} (hb : BlockOkM b = true) {n : Nat} (hn : b.Size = n) {y x : Nat} (hy : y < n) (hx : x < n) : gx (MirrorBlockM b).Cells (y * n + x) = MirrorCellM (gx b.Cells (y * n + (n - 1 - x))) := by
  unfold MirrorBlockM
  rw [hb, hn]
  simp only [cond_true, Int.toNat_natCast]
  exact cellsM_gx hy hx
theorem cell_gx {b : GBlock} (hb : BlockOkM b = true) {n : Nat} (hn : b.Size = n) {y x : Nat} (hy : y < n) (hx : x < n) : CellOkM (gx b.Cells (y * n + x)) = true := by
  obtain ⟨m, hm, _, _, hl, hc⟩ := blockOk_spec hb
  have : n = m := by omega
  subst this
  exact hc _ (gx_mem (by rw [hl]; exact idx_lt hy hx))

theorem split_cases {c : GCell} (h : CellOkM c = true) : c.Split = 0 ∨ c.Split = 1 ∨ c.Split = 2 := by
  obtain ⟨h1, h2, _⟩ := cellOk_spec h
  omega
theorem turn2_cell {c : GCell} (h : CellOkM c = true) : TurnCellM (TurnCellM c) = ⟨c.Split, c.B, c.A⟩ := by
  have ht := turnCell_ok h
  obtain ⟨_, _, _, _, _, _, h7⟩ := cellOk_spec h
  have e1 : TurnCellM c = (bif c.Split == 1 then ⟨2, c.B, c.A⟩ else bif c.Split == 2 then ⟨1, c.A, c.B⟩ else c) := by unfold TurnCellM; rw [h]; rfl
  rw [e1] at ht ⊢
  obtain ⟨s, a, b⟩ := c
  rcases split_cases h with e | e | e <;> simp only at e h7 <;> subst e
  · have := h7.1 rfl
    subst this
    show TurnCellM ⟨0, a, a⟩ = _
    unfold TurnCellM
    rw [h]; rfl
  · show TurnCellM ⟨2, b, a⟩ = _
    unfold TurnCellM
    rw [show CellOkM ⟨2, b, a⟩ = true from ht]; rfl
  · show TurnCellM ⟨1, a, b⟩ = _
    unfold TurnCellM
    rw [show CellOkM ⟨1, a, b⟩ = true from ht]; rfl
theorem turn4_cell {c : GCell} (h : CellOkM c = true) : TurnCellM (TurnCellM (TurnCellM (TurnCellM c))) = c := by
  have h2 := turnCell_ok (turnCell_ok h)
  rw [turn2_cell h2, turn2_cell h]
theorem mirror_cell {c : GCell} (h : CellOkM c = true) : MirrorCellM c = bif c.Split == 0 then c else ⟨3 - c.Split, c.B, c.A⟩ := by unfold MirrorCellM; rw [h]; rfl
theorem mirror2_cell {c : GCell} (h : CellOkM c = true) : MirrorCellM (MirrorCellM c) = c := by
  have hm := mirrorCell_ok h
  rw [mirror_cell hm, mirror_cell h]
  obtain ⟨s, a, b⟩ := c
  rcases split_cases h with e | e | e <;> simp only at e <;> subst e <;> rfl
theorem tmt_cell {c : GCell} (h : CellOkM c = true) : TurnCellM (MirrorCellM (TurnCellM c)) = MirrorCellM c := by
  have ht := turnCell_ok h
  have hm := mirrorCell_ok ht
  have e1 : TurnCellM c = (bif c.Split == 1 then ⟨2, c.B, c.A⟩ else bif c.Split == 2 then ⟨1, c.A, c.B⟩ else c) := by unfold TurnCellM; rw [h]; rfl
  rw [mirror_cell ht] at hm ⊢
  rw [mirror_cell h]
  unfold TurnCellM at hm ⊢
  rw [h] at hm ⊢
  simp only [cond_true] at hm ⊢
  rw [hm]
  obtain ⟨s, a, b⟩ := c
  rcases split_cases h with e | e | e <;> simp only at e <;> subst e <;> rfl

theorem turn4 {b : GBlock} (hb : BlockOkM b = true) : TurnBlockM (TurnBlockM (TurnBlockM (TurnBlockM b))) = b := by
  have o1 := turnBlock_ok hb
  have o2 := turnBlock_ok o1
  have o3 := turnBlock_ok o2
  have o4 := turnBlock_ok o3
  have s1 := turnBlock_size _ hb
  have s2 := turnBlock_size _ o1
  have s3 := turnBlock_size _ o2
  have s4 := turnBlock_size _ o3
  refine block_ext o4 hb (by rw [s4, s3, s2, s1]) fun n hn y x hy hx => ?_
  have n1 : (TurnBlockM (TurnBlockM (TurnBlockM b))).Size = n := by rw [← hn, s4]
  have n2 : (TurnBlockM (TurnBlockM b)).Size = n := by rw [← n1, s3]
  have n3 : (TurnBlockM b).Size = n := by rw [← n2, s2]
  have n4 : b.Size = n := by rw [← n3, s1]
  rw [turn_gx o3 n1 hy hx, turn_gx o2 n2 (by omega) hy, turn_gx o1 n3 (by omega) (by omega), turn_gx hb n4 (by omega) (by omega)]
  have ey : n - 1 - (n - 1 - y) = y := by omega
  have ex : n - 1 - (n - 1 - x) = x := by omega
  rw [ey, ex]
  exact turn4_cell (cell_gx hb n4 hy hx)
theorem mirror2 {b : GBlock} (hb : BlockOkM b = true) : MirrorBlockM (MirrorBlockM b) = b := by
  have o1 := mirrorBlock_ok hb
  have o2 := mirrorBlock_ok o1
  have s1 := mirrorBlock_size _ hb
  have s2 := mirrorBlock_size _ o1
  refine block_ext o2 hb (by rw [s2, s1]) fun n hn y x hy hx => ?_
  have n1 : (MirrorBlockM b).Size = n := by rw [← hn, s2]
  have n2 : b.Size = n := by rw [← n1, s1]
  rw [mirror_gx o1 n1 hy hx, mirror_gx hb n2 hy (by omega)]
  have ex : n - 1 - (n - 1 - x) = x := by omega
  rw [ex]
  exact mirror2_cell (cell_gx hb n2 hy hx)
theorem tmt {b : GBlock} (hb : BlockOkM b = true) : TurnBlockM (MirrorBlockM (TurnBlockM b)) = MirrorBlockM b := by
  have o1 := turnBlock_ok hb
  have o2 := mirrorBlock_ok o1
  have o3 := turnBlock_ok o2
  have s1 := turnBlock_size _ hb
  have s2 := mirrorBlock_size _ o1
  have s3 := turnBlock_size _ o2
  refine block_ext o3 (mirrorBlock_ok hb) (by rw [s3, s2, s1, mirrorBlock_size _ hb]) fun n hn y x hy hx => ?_
  have n1 : (MirrorBlockM (TurnBlockM b)).Size = n := by rw [← hn, s3]
  have n2 : (TurnBlockM b).Size = n := by rw [← n1, s2]
  have n3 : b.Size = n := by rw [← n2, s1]
  rw [turn_gx o2 n1 hy hx, mirror_gx o1 n2 (by omega) hy, turn_gx hb n3 (by omega) (by omega), mirror_gx hb n3 hy hx]
  have ey : n - 1 - (n - 1 - y) = y := by omega
  rw [ey]
  exact tmt_cell (cell_gx hb n3 hy (by omega))

theorem turns_add (b : GBlock) (j : Nat) : ∀ k, turnsM (j + k) b = turnsM k (turnsM j b)
  | 0 => rfl
  | k + 1 => by
    show TurnBlockM (turnsM (j + k) b) = TurnBlockM (turnsM k (turnsM j b))
    rw [turns_add b j k]
theorem turns_four {b : GBlock} (hb : BlockOkM b = true) : turnsM 4 b = b := turn4 hb
theorem turns_mul {b : GBlock} (hb : BlockOkM b = true) (r : Nat) : ∀ q, turnsM (4 * q + r) b = turnsM r b
  | 0 => by rw [show 4 * 0 + r = r by omega]
  | q + 1 => by
    rw [show 4 * (q + 1) + r = 4 + (4 * q + r) by omega, turns_add, turns_four hb]
    exact turns_mul hb r q
theorem turns_mod {b : GBlock} (hb : BlockOkM b = true) (k : Nat) : turnsM (k % 4) b = turnsM k b := by
  have := turns_mul hb (k % 4) (k / 4)
  rw [Nat.div_add_mod] at this
  exact this.symm
theorem mirror_turn {b : GBlock} (hb : BlockOkM b = true) : MirrorBlockM (TurnBlockM b) = turnsM 3 (MirrorBlockM b) := by
  have o := mirrorBlock_ok (turnBlock_ok hb)
  have h := turn4 o
  rw [tmt hb] at h
  exact h.symm
theorem mirror_turns {b : GBlock} (hb : BlockOkM b = true) : ∀ i, MirrorBlockM (turnsM i b) = turnsM (3 * i) (MirrorBlockM b)
  | 0 => rfl
  | i + 1 => by
    show MirrorBlockM (TurnBlockM (turnsM i b)) = _
    rw [mirror_turn (turns_ok hb i).1, mirror_turns hb i, ← turns_add]
    congr 1

theorem seen_low {b : GBlock} (hb : BlockOkM b = true) {i : Nat} (hi : i < 4) : SeenM b (i : Int) = turnsM i b := by
  have h7 : inR (i : Int) 0 7 = true := inR_iff.2 ⟨by omega, by omega⟩
  have e1 : ((i : Int).tmod 4).toNat = i := by
    rw [Int.tmod_eq_emod_of_nonneg (by omega)]; omega
  have e2 : decide ((i : Int) ≥ 4) = false := decide_eq_false (by omega)
  unfold SeenM
  rw [hb, h7, e1, e2]; rfl
theorem seen_high {b : GBlock} (hb : BlockOkM b = true) {i : Nat} (h4 : 4 ≤ i) (hi : i < 8) : SeenM b (i : Int) = turnsM (i - 4) (MirrorBlockM b) := by
  have h7 : inR (i : Int) 0 7 = true := inR_iff.2 ⟨by omega, by omega⟩
  have e1 : ((i : Int).tmod 4).toNat = i - 4 := by
    rw [Int.tmod_eq_emod_of_nonneg (by omega)]; omega
  have e2 : decide ((i : Int) ≥ 4) = true := decide_eq_true (by omega)
  unfold SeenM
  rw [hb, h7, e1, e2]; rfl
/-- The number of the view of a view. -/
def prodN (i k : Nat) : Nat := if i < 4 ∧ k < 4 then (i + k) % 4 else if k < 4 then 4 + (i + k) % 4 else if i < 4 then 4 + (k + 4 - i) % 4 else (k + 4 - i) % 4
theorem prod_lt {i k : Nat} : prodN i k < 8 := by unfold prodN; split <;> (try split) <;> (try split) <;> omega
theorem seen_seen {b : GBlock} (hb : BlockOkM b = true) {i k : Nat} (hi : i < 8) (hk : k < 8) : SeenM (SeenM b (i : Int)) (k : Int) = SeenM b ((prodN i k : Nat) : Int) := by
  have hv := (view_ok hb hi).1
  have hm := mirrorBlock_ok hb
  unfold prodN
  by_cases h1 : i < 4
  · by_cases h2 : k < 4
    · rw [if_pos ⟨h1, h2⟩, seen_low hv h2, seen_low hb h1, seen_low hb (by omega), ← turns_add, turns_mod hb]
    · rw [if_neg (by omega), if_neg h2, if_pos h1, seen_high hv (by omega) hk, seen_low hb h1, mirror_turns hb, ← turns_add, seen_high hb (by omega) (by omega), Nat.add_sub_cancel_left, ← turns_mod hm]
      congr 1
      omega
  · by_cases h2 : k < 4
    · rw [if_neg (by omega), if_pos h2, seen_low hv h2, seen_high hb (by omega) hi, ← turns_add, seen_high hb (by omega) (by omega), Nat.add_sub_cancel_left, ← turns_mod hm]
      congr 1
      omega
    · rw [if_neg (by omega), if_neg h2, if_neg h1, seen_high hv (by omega) hk, seen_high hb (by omega) hi, mirror_turns hm, mirror2 hb, ← turns_add, seen_low hb (by omega), ← turns_mod hb]
      congr 1
      omega

theorem prod_assoc : ∀ i, i < 8 → ∀ k, k < 8 → ∀ m, m < 8 → prodN (prodN i k) m = prodN i (prodN k m) := by decide +kernel
def invN (i : Nat) : Nat := if i < 4 then (4 - i) % 4 else i
theorem prod_inv : ∀ i, i < 8 → invN i < 8 ∧ prodN i (invN i) = 0 ∧ prodN (invN i) i = 0 ∧ prodN i 0 = i ∧ prodN 0 i = i := by decide +kernel

/-- The views that leave a block as it is. -/
def stabM (b : GBlock) (k : Nat) : Bool := SameBlockM (SeenM b (k : Int)) b
theorem stab_iff {b : GBlock} {k : Nat} : stabM b k = true ↔ SeenM b (k : Int) = b := sameBlock_iff
theorem stab_prod {b : GBlock} (hb : BlockOkM b = true) {i k : Nat} (hi : i < 8) (hk : k < 8) (h1 : stabM b i = true) (h2 : stabM b k = true) : stabM b (prodN i k) = true := by
  rw [stab_iff] at h1 h2 ⊢
  rw [← seen_seen hb hi hk, h1, h2]
theorem same_view {b : GBlock} (hb : BlockOkM b = true) {j k : Nat} (hj : j < 8) (hk : k < 8) : SameBlockM (SeenM b (j : Int)) (SeenM b (k : Int)) = stabM b (prodN j (invN k)) := by
  obtain ⟨v1, v2, v3, v4, v5⟩ := prod_inv k hk
  rw [Bool.eq_iff_iff, sameBlock_iff, stab_iff, ← seen_seen hb hj v1]
  have h0 : SeenM b ((0 : Nat) : Int) = b := seen_zero hb
  constructor
  · intro h; rw [h, seen_seen hb hk v1, v2, h0]
  · intro h
    have := congrArg (fun d => SeenM d (k : Int)) h
    have this : SeenM (SeenM (SeenM b (j : Int)) ((invN k : Nat) : Int)) (k : Int) = SeenM b (k : Int) := this
    rw [seen_seen (view_ok hb hj).1 v1 hk, v3] at this
    rw [← this]
    have hz : SeenM (SeenM b (j : Int)) ((0 : Nat) : Int) = SeenM b (j : Int) := seen_zero (view_ok hb hj).1
    exact hz.symm

/-- How many of the eight are in S; how many are not led to one before by S. -/
def sizeS (S : Nat → Bool) : Nat := ((List.range 8).filter S).length
def formsS (S : Nat → Bool) : Nat := ((List.range 8).filter fun k => (List.range k).all fun j => !S (prodN j (invN k))).length
def closedS (S : Nat → Bool) : Bool := S 0 && (List.range 8).all fun i => (List.range 8).all fun k => !(S i && S k) || S (prodN i k)
theorem orbits : ∀ v, v < 256 → closedS (fun k => v.testBit k) = true → sizeS (fun k => v.testBit k) * formsS (fun k => v.testBit k) = 8 := by decide +kernel

def viewsL (S : Nat → Bool) : List Int := ((List.range 8).filter S).map fun k : Nat => (k : Int)
theorem mem_viewsL {S : Nat → Bool} {x : Int} : x ∈ viewsL S ↔ ∃ k : Nat, k < 8 ∧ S k = true ∧ x = (k : Int) := by
  simp only [viewsL, List.mem_map, List.mem_filter, List.mem_range]
  constructor
  · rintro ⟨k, ⟨h1, h2⟩, rfl⟩; exact ⟨k, h1, h2, rfl⟩
  · rintro ⟨k, h1, h2, rfl⟩; exact ⟨k, ⟨h1, h2⟩, rfl⟩
theorem viewsL_len (S : Nat → Bool) : (viewsL S).length = sizeS S := by simp [viewsL, sizeS]
theorem sizeS_le (S : Nat → Bool) : sizeS S ≤ 8 := by
  have := List.length_filter_le S (List.range 8)
  simpa [sizeS] using this
theorem viewsL_strict (S : Nat → Bool) : (viewsL S).Pairwise (· < ·) := by
  unfold viewsL
  rw [List.pairwise_map]
  exact (List.Pairwise.filter S List.pairwise_lt_range).imp fun h => by omega

def colS (b : GBlock) (k : Nat) : Bool := SameBlockM (PlainM (SeenM b (k : Int))) (PlainM b)
theorem colorSym_views {b : GBlock} (hb : BlockOkM b = true) : ColorSymM b = viewsL (colS b) := by unfold ColorSymM; rw [hb]; rfl
theorem stab_col {b : GBlock} {k : Nat} (h : stabM b k = true) : colS b k = true := by
  unfold colS
  rw [stab_iff.1 h]
  exact sameBlock_refl _
theorem plain_view {b : GBlock} (hb : BlockOkM b = true) : PlainM b = exB (FirstUseM b) b := by
  unfold PlainM
  rw [exB_eq hb (firstUse_ok hb)]
theorem col_prod {b : GBlock} (hb : BlockOkM b = true) {i k : Nat} (hi : i < 8) (hk : k < 8) (h1 : colS b i = true) (h2 : colS b k = true) : colS b (prodN i k) = true := by
  have hv := (view_ok hb hi).1
  have hw := (view_ok hb hk).1
  unfold colS at h1 h2 ⊢
  rw [sameBlock_iff] at h1 h2 ⊢
  rw [plain_view hv, plain_view hb] at h1
  -- the view is an exchange of the block
  have hu := firstUse_inj hv
  have hf := firstUse_inj hb
  obtain ⟨hui, hun⟩ := undo_inj hu
  have he : SeenM b (i : Int) = exB (undoM (FirstUseM (SeenM b (i : Int)))) (exB (FirstUseM b) b) := by
    rw [← h1, exB_undo hv hu hui hun]
  have hpl := exB_ok hb (FirstUseM b)
  have hvk := (view_ok hpl hk).1
  have e1 : SeenM (SeenM b (i : Int)) (k : Int) = exB (undoM (FirstUseM (SeenM b (i : Int)))) (exB (FirstUseM b) (SeenM b (k : Int))) := by
    rw [he, seen_exchange hpl hui.1 hk, seen_exchange hb hf.1 hk, ← he]
  have hx1 := exB_ok hw (FirstUseM b)
  rw [← seen_seen hb hi hk, e1, plain_view (exB_ok hx1 _), plain_exB hx1 hui, plain_exB hw hf, ← plain_view hw, h2]
theorem col_closed {b : GBlock} (hb : BlockOkM b = true) : closedS (colS b) = true := by
  unfold closedS
  rw [stab_col (stab_iff.2 (seen_zero hb))]
  simp only [Bool.true_and, List.all_eq_true, List.mem_range]
  intro i hi k hk
  cases h1 : colS b i
  · rfl
  cases h2 : colS b k
  · rfl
  simp [col_prod hb hi hk h1 h2]

theorem bytesLess_trans : ∀ {a b c : List UInt8}, Op.bytesLess a b = true → Op.bytesLess b c = true → Op.bytesLess a c = true
  | [], [], _, h, _ => by simp [Op.bytesLess] at h
  | [], _ :: _, [], _, h => by simp [Op.bytesLess] at h
  | [], _ :: _, _ :: _, _, _ => rfl
  | _ :: _, [], _, h, _ => by simp [Op.bytesLess] at h
  | _ :: _, _ :: _, [], _, h => by simp [Op.bytesLess] at h
  | x :: a, y :: b, z :: c, h1, h2 => by
    simp only [Op.bytesLess, Bool.or_eq_true, Bool.and_eq_true, decide_eq_true_iff, beq_iff_eq] at h1 h2 ⊢
    rcases h1 with h1 | ⟨rfl, h1⟩
    · rcases h2 with h2 | ⟨rfl, h2⟩
      · exact Or.inl (UInt8.lt_trans h1 h2)
      · exact Or.inl h1
    · rcases h2 with h2 | ⟨rfl, h2⟩
      · exact Or.inl h2
      · exact Or.inr ⟨rfl, bytesLess_trans h1 h2⟩
theorem bytesLess_total : ∀ {a b : List UInt8}, Op.bytesLess a b = false → Op.bytesLess b a = false → a = b
  | [], [], _, _ => rfl
  | [], _ :: _, h, _ => by simp [Op.bytesLess] at h
  | _ :: _, [], _, h => by simp [Op.bytesLess] at h
  | x :: a, y :: b, h1, h2 => by
    simp only [Op.bytesLess, Bool.or_eq_false_iff, Bool.and_eq_false_iff, decide_eq_false_iff_not, beq_eq_false_iff_ne] at h1 h2
    have hxy : x = y := UInt8.le_antisymm (UInt8.not_lt.1 h2.1) (UInt8.not_lt.1 h1.1)
    subst hxy
    have e1 := h1.2.resolve_left (fun h => h rfl)
    have e2 := h2.2.resolve_left (fun h => h rfl)
    rw [bytesLess_total e1 e2]

theorem slt_trans {a b c : Str} (h1 : slt a b = true) (h2 : slt b c = true) : slt a c = true := bytesLess_trans h1 h2
theorem slt_total {a b : Str} (h1 : slt a b = false) (h2 : slt b a = false) : a = b := by
  have := bytesLess_total h1 h2
  cases a; cases b; simp only at this; rw [this]
/-- The least of blocks is not behind any of them. -/
theorem lst_least (F : Nat → GBlock) : ∀ n k, k ≤ n → slt (textM (F k)) (textM (lstM F n)) = false
  | 0, k, hk => by
    have : k = 0 := by omega
    subst this
    exact slt_irrefl _
  | n + 1, k, hk => by
    unfold lstM
    cases h : slt (textM (F (n + 1))) (textM (lstM F n))
    · rw [cond_false]
      rcases Nat.lt_or_ge k (n + 1) with h1 | h1
      · exact lst_least F n k (by omega)
      · have : k = n + 1 := by omega
        subst this; exact h
    · rw [cond_true]
      rcases Nat.lt_or_ge k (n + 1) with h1 | h1
      · have ih := lst_least F n k (by omega)
        rw [Bool.eq_false_iff]
        intro hk2
        have := slt_trans hk2 h
        rw [this] at ih; cases ih
      · have : k = n + 1 := by omega
        subst this; exact slt_irrefl _
/-- Two lists with the same valid blocks have the same least one. -/
theorem lst_same {F G : Nat → GBlock} {n : Nat} (hF : ∀ k, k ≤ n → BlockOkM (F k) = true) (hG : ∀ k, k ≤ n → BlockOkM (G k) = true) (h1 : ∀ k, k ≤ n → ∃ j, j ≤ n ∧ F k = G j) (h2 : ∀ k, k ≤ n → ∃ j, j ≤ n ∧ G k = F j) : lstM F n = lstM G n := by
  obtain ⟨i, hi, ei⟩ := lst_in F n
  obtain ⟨j, hj, ej⟩ := lst_in G n
  obtain ⟨a, ha, ea⟩ := h1 i hi
  obtain ⟨c, hc, ec⟩ := h2 j hj
  have l1 := lst_least G n a ha
  have l2 := lst_least F n c hc
  rw [← ea, ← ei] at l1
  rw [← ec, ← ej] at l2
  have := slt_total l1 l2
  refine text_inj ?_ ?_ this
  · rw [ei]; exact hF i hi
  · rw [ej]; exact hG j hj

/-- Every view of a block is a view of each of its views. -/
theorem view_back {b : GBlock} (hb : BlockOkM b = true) {i k : Nat} (hi : i < 8) (hk : k < 8) : ∃ j : Nat, j ≤ 7 ∧ SeenM b (k : Int) = SeenM (SeenM b (i : Int)) (j : Int) := by
  obtain ⟨v1, v2, v3, v4, v5⟩ := prod_inv i hi
  refine ⟨prodN (invN i) k, by have := prod_lt (i := invN i) (k := k); omega, ?_⟩
  rw [seen_seen hb hi prod_lt, ← prod_assoc i hi (invN i) v1 k hk, v2, (prod_inv k hk).2.2.2.2]
theorem form_view {b : GBlock} (hb : BlockOkM b = true) {i : Nat} (hi : i < 8) : FormM (SeenM b (i : Int)) = FormM b := by
  have hv := (view_ok hb hi).1
  unfold FormM
  rw [hb, hv, cond_true, cond_true]
  refine lst_same (fun k hk => (view_ok hv (by omega)).1) (fun k hk => (view_ok hb (by omega)).1) (fun k hk => ?_) (fun k hk => view_back hb hi (by omega))
  exact ⟨prodN i k, by have := prod_lt (i := i) (k := k); omega, seen_seen hb hi (by omega)⟩

theorem plain_exB' {b : GBlock} (hb : BlockOkM b = true) {l : List Int} (hl : InjM l) : PlainM (exB l b) = PlainM b := by
  rw [plain_view (exB_ok hb l), plain_view hb, plain_exB hb hl]
theorem patt_exB {b : GBlock} (hb : BlockOkM b = true) {l : List Int} (hl : InjM l) : PattM (exB l b) = PattM b := by
  unfold PattM
  rw [exB_ok hb l, hb, cond_true, cond_true]
  refine lst_congr fun k hk => ?_
  show PlainM (SeenM (exB l b) (k : Int)) = PlainM (SeenM b (k : Int))
  rw [seen_exchange hb hl.1 (by omega), plain_exB' (view_ok hb (by omega)).1 hl]
theorem patt_view {b : GBlock} (hb : BlockOkM b = true) {i : Nat} (hi : i < 8) : PattM (SeenM b (i : Int)) = PattM b := by
  have hv := (view_ok hb hi).1
  unfold PattM
  rw [hb, hv, cond_true, cond_true]
  refine lst_same (fun k hk => (plain_ok (view_ok hv (by omega)).1).1) (fun k hk => (plain_ok (view_ok hb (by omega)).1).1) (fun k hk => ?_) (fun k hk => ?_)
  · exact ⟨prodN i k, by have := prod_lt (i := i) (k := k); omega, by show PlainM (SeenM (SeenM b (i : Int)) (k : Int)) = _; rw [seen_seen hb hi (by omega)]⟩
  · obtain ⟨j, hj, e⟩ := view_back hb hi (k := k) (by omega)
    exact ⟨j, hj, by show PlainM (SeenM b (k : Int)) = _; rw [e]⟩

theorem book_true {xs : List GBooking} {b : GBooking} (h : (BookM xs b).2 = true) : (BookM xs b).1 = xs ++ [b] := by
  unfold BookM at h ⊢
  cases hc : LedgerOkM xs && LedgerOkM (xs ++ [b])
  · rw [hc] at h; cases h
  · rfl

theorem gx_last {α : Type} [Rep α] (l : List α) (x : α) : gx (l ++ [x]) l.length = x := by
  have := gx_mid l [] x rfl
  simpa using this

/-- No entry is a copy of an older one. -/
def NoCopy (xs : List GEntry) : Prop := ∀ k, k < xs.length → ∀ m, m < k → CopyM (gx xs k) (gx xs m) = false
/-- A guild with a history of its own. -/
def Hist (g : GGuild) : Prop := GuildOkM g = true ∧ NoCopy g.Entries ∧ ∀ b ∈ g.Books, b.From = 0 ∧ b.To = 1 ∧ b.Sum = 20
theorem hist_of {g x : GGuild} (h : Hist g) (he : x.Entries = g.Entries) (hb : x.Books = g.Books) (ok : GuildOkM x = true) : Hist x := ⟨ok, by rw [he]; exact h.2.1, by rw [hb]; exact h.2.2⟩

theorem guild_stock {g : GGuild} {s : List Int} (h : GuildOkM g = true) (hs : StockOkM s = true) : GuildOkM (⟨g.Members, s, g.Entries, g.Books, g.Round, g.Year⟩ : GGuild) = true := by
  simp only [GuildOkM, Bool.and_eq_true] at h ⊢
  obtain ⟨⟨⟨⟨⟨⟨a, _⟩, c⟩, d⟩, e⟩, f⟩, i⟩ := h
  exact ⟨⟨⟨⟨⟨⟨a, hs⟩, c⟩, d⟩, e⟩, f⟩, i⟩

theorem hist_admit {g : GGuild} {n : Int} {w : GGuild × Bool} (h : Hist g) (hw : w = (g, false) ∨ AdmitTo g n w) : Hist w.1 := by
  rcases hw with rfl | ⟨r, d, _, _, _, hb, rfl, hok⟩
  · exact h
  · refine ⟨hok, h.2.1, fun b hbm => ?_⟩
    have hbm' : b ∈ (BookM g.Books ⟨d, 0, 1, 20⟩).1 := hbm
    rw [book_true hb, List.mem_append, List.mem_singleton] at hbm'
    rcases hbm' with hh | rfl
    · exact h.2.2 b hh
    · exact ⟨rfl, rfl, rfl⟩

theorem hist_submit {g : GGuild} {n d : Int} {b : GBlock} {w : GGuild × Bool} (h : Hist g) (hw : w = (g, false) ∨ SubmitTo g n d b w) : Hist w.1 := by
  rcases hw with rfl | ⟨hno, rfl, hok⟩
  · exact h
  · refine ⟨hok, fun k hk m hm => ?_, h.2.2⟩
    simp only [List.length_append, List.length_cons, List.length_nil] at hk
    show CopyM (gx (g.Entries ++ [⟨n, d, b⟩]) k) (gx (g.Entries ++ [⟨n, d, b⟩]) m) = false
    by_cases hkl : k < g.Entries.length
    · rw [gx_append_left hkl, gx_append_left (show m < g.Entries.length by omega)]
      exact h.2.1 k hkl m hm
    · have e : k = g.Entries.length := by omega
      subst e
      rw [gx_last, gx_append_left hm]
      exact hno m hm

theorem new_ok {y : Int} (h1 : 1900 ≤ y) (h2 : y ≤ 2999) : spec_NewGuild y = some ((⟨[], [1000, 1000, 1000, 1000, 1000, 1000], [], [], 0, y⟩ : GGuild), true) ∧ Hist (⟨[], [1000, 1000, 1000, 1000, 1000, 1000], [], [], 0, y⟩ : GGuild) := by
  have hg : GL (⟨[], [1000, 1000, 1000, 1000, 1000, 1000], [], [], 0, y⟩ : GGuild) := ⟨by simp, by simp, by simp, by simp⟩
  have hl : lpO spec_NewGuild_L1 6 ([] : List Int) = some [1000, 1000, 1000, 1000, 1000, 1000] := rfl
  have hk : GuildOkM (⟨[], [1000, 1000, 1000, 1000, 1000, 1000], [], [], 0, y⟩ : GGuild) = true := by
    simp [GuildOkM, RoundsM, GoodM, StockOkM, MembersOkM, LedgerOkM, inR, h1, h2]
  refine ⟨?_, hk, fun k hk => by simp at hk, fun b hb => by simp at hb⟩
  unfold spec_NewGuild
  rw [hl]
  simp only [Option.bind_some, spec_GuildOk_eq _ hg, hk]
  rfl

theorem wlO_down {S : Type} {f : S → Option (Res S Empty)} (I : S → Prop) (ct : S → Nat) (h : ∀ s, I s → (∃ s', I s' ∧ ct s' < ct s ∧ f s = some (.next s')) ∨ ∃ s', I s' ∧ f s = some (.brk s')) {fuel : Nat} {s : S} (hs : I s) (hf : ct s < fuel) : ∃ s', I s' ∧ wlO f fuel s = some s' := by
  obtain ⟨s', h1, h2⟩ := whO_down I ct h (ct s) fuel s hs (Nat.le_refl _) hf
  exact ⟨s', h1, by unfold wlO; rw [h2]; rfl⟩

theorem pay_num {xs : List GMember} {n : Int} {x : GMember} (h : x ∈ (PayM xs n).1) : ∃ y ∈ xs, x.Number = y.Number := by
  unfold PayM at h
  cases hc : MembersOkM xs && xs.any (fun m => m.Number == n) && MembersOkM (xs.map (dueM n))
  · rw [hc] at h
    exact ⟨x, h, rfl⟩
  · rw [hc, cond_true] at h
    obtain ⟨y, hy, rfl⟩ := List.mem_map.1 h
    refine ⟨y, hy, ?_⟩
    unfold dueM
    cases y.Number == n <;> rfl
/-- A guild with few members, bookings and days. -/
def Few (g : GGuild) (m : Int) : Prop := (∀ x ∈ g.Members, x.Number ≤ 8) ∧ (g.Members.length : Int) ≤ m ∧ (g.Books.length : Int) ≤ m ∧ g.Year ≤ 2100 ∧ ∀ e ∈ g.Entries, e.Day ≤ 100
theorem few_admit {g : GGuild} {n m : Int} {w : GGuild × Bool} (hs : Sm.ok g) (h : Few g m) (hn : n ≤ 8) (hw : w = (g, false) ∨ AdmitTo g n w) : Few w.1 (m + 1) := by
  obtain ⟨f1, f2, f3, f4, f5⟩ := h
  rcases hw with rfl | ⟨r, d, e1, _, _, _, rfl, _⟩
  · exact ⟨f1, by simp only; omega, by simp only; omega, f4, f5⟩
  · obtain ⟨r', _, _, q1, q2, _, q3, _⟩ := rx_join g.Members n g.Year hs.1.1
    rw [e1] at q2
    cases q2
    have pl := pay_len r.1 n
    have bl := book_len g.Books ⟨d, 0, 1, 20⟩
    refine ⟨fun x hx => ?_, ?_, ?_, f4, f5⟩
    · obtain ⟨y, hy, e⟩ := pay_num hx
      rw [e]
      rcases q3 y hy with h | h
      · exact f1 y h
      · omega
    · show (((PayM r.1 n).1.length : Nat) : Int) ≤ m + 1
      omega
    · show (((BookM g.Books ⟨d, 0, 1, 20⟩).1.length : Nat) : Int) ≤ m + 1
      omega
theorem few_submit {g : GGuild} {n d m : Int} {b : GBlock} {w : GGuild × Bool} (h : Few g m) (hd : d ≤ 100) (hw : w = (g, false) ∨ SubmitTo g n d b w) : Few w.1 m := by
  obtain ⟨f1, f2, f3, f4, f5⟩ := h
  rcases hw with rfl | ⟨_, rfl, _⟩
  · exact ⟨f1, f2, f3, f4, f5⟩
  · refine ⟨f1, f2, f3, f4, fun e he => ?_⟩
    rcases List.mem_append.1 he with he | he
    · exact f5 e he
    · rw [List.mem_singleton.1 he]; exact hd

theorem draw_Stock {c : List UInt8} {i g : Int} (h : CurOk c i) : ∃ l i' g', spec_l31Stock c i g 60 = some (l, i', g') ∧ CurOk c i' ∧ StockOkM l = true := by
  obtain ⟨s, ⟨s1, s2, s3⟩, es⟩ := lpO_inv2 (f := spec_l31Stock_L1 c 60) (N := 6) (s0 := (([] : List Int), i, g)) (fun k s => s.1.length = k ∧ CurOk c s.2.1 ∧ ∀ x ∈ s.1, inR x 0 1000000 = true) ⟨rfl, h, by simp⟩ fun k s hk hs => by
    obtain ⟨s1, s2, s3⟩ := hs
    obtain ⟨x, i1, g1, e1, c1, x0, x1, _⟩ := draw_Below (g := s.2.2) (n := 60) s2 (by omega)
    have x2 := x1 (by omega)
    unfold spec_l31Stock_L1
    rw [e1]
    simp only [Option.bind_some]
    rw [gd_pos (by omega)]
    refine ⟨_, ⟨by simp [s1], c1, fun z hz => ?_⟩, rfl⟩
    rcases List.mem_append.1 hz with hz | hz
    · exact s3 z hz
    · rw [List.mem_singleton.1 hz]; exact inR_iff.2 ⟨x0, by omega⟩
  unfold spec_l31Stock
  rw [es]
  refine ⟨_, _, _, rfl, s2, ?_⟩
  simp only [StockOkM, Bool.and_eq_true, List.all_eq_true, beq_iff_eq]
  exact ⟨s3, by omega⟩

def g8 (t : (List GMember) × (List Int) × (List GEntry) × (List GBooking) × Int × Int) : GGuild := ⟨t.1, t.2.1, t.2.2.1, t.2.2.2.1, t.2.2.2.2.1, t.2.2.2.2.2⟩
theorem draw_admits {c : List UInt8} {k i g : Int} {t : (List GMember) × (List Int) × (List GEntry) × (List GBooking) × Int × Int} (h : CurOk c i) (k0 : 0 ≤ k) (k1 : k ≤ 4) (ht : Hist (g8 t)) (hf : Few (g8 t) (4 - k)) : ∃ s, wlO (spec_l38Guild_L1 c) 18446744073709551616 (k, i, g, t) = some s ∧ CurOk c s.2.1 ∧ Hist (g8 s.2.2.2) ∧ Few (g8 s.2.2.2) 4 := by
  obtain ⟨s, ⟨s1, s2, s3, _, s5⟩, es⟩ := wlO_down (f := spec_l38Guild_L1 c) (fun s => CurOk c s.2.1 ∧ Hist (g8 s.2.2.2) ∧ 0 ≤ s.1 ∧ s.1 ≤ 4 ∧ Few (g8 s.2.2.2) (4 - s.1)) (fun s => s.1.toNat) (fun s hs => by
    obtain ⟨s1, s2, s3, s4, s5⟩ := hs
    unfold spec_l38Guild_L1
    by_cases hp : s.1 > 0
    · left
      obtain ⟨x, i1, g1, e1, c1, x0, x1, _⟩ := draw_Below (g := s.2.2.1) (n := 8) s1 (by omega)
      have ew : wr (s.1 - 1) = s.1 - 1 := wr_of (by omega) (by omega)
      obtain ⟨v, v1, _, _, v4⟩ := rx_Admit (g8 s.2.2.2) (wr (1 + x)) (guildOk_sm s2.1)
      rw [decide_eq_true hp, cond_true, e1]
      simp only [Option.bind_some]
      unfold g8 at v1
      rw [v1]
      have hv : Hist v.1 := hist_admit s2 v4
      have x2 := x1 (by omega)
      have hq : Few v.1 (4 - s.1 + 1) := few_admit (guildOk_sm s2.1) s5 (by rw [wr_of (by omega) (by omega)]; omega) v4
      refine ⟨(wr (s.1 - 1), i1, g1, v.1.Members, v.1.Stock, v.1.Entries, v.1.Books, v.1.Round, v.1.Year), ⟨c1, hv, by simp only [ew]; omega, by simp only [ew]; omega, by simp only [ew]; rw [show 4 - (s.1 - 1) = 4 - s.1 + 1 by omega]; exact hq⟩, by simp only [ew]; omega, rfl⟩
    · right
      rw [decide_eq_false hp, cond_false]
      exact ⟨s, ⟨s1, s2, s3, s4, s5⟩, rfl⟩) (s := (k, i, g, t)) (fuel := 18446744073709551616) ⟨h, ht, k0, k1, hf⟩ (by simp only; omega)
  exact ⟨s, es, s1, s2, s5.1, by have := s5.2.1; omega, by have := s5.2.2.1; omega, s5.2.2.2⟩

theorem draw_cells4 {c : List UInt8} {i g : Int} (h : CurOk c i) : ∃ s, lpO (spec_l38Guild_L3 c) 4 (([] : List GCell), i, g) = some s ∧ CurOk c s.2.1 ∧ s.1.length = 4 ∧ ∀ x ∈ s.1, CellOkM x = true := by
  obtain ⟨s, ⟨s1, s2, s3⟩, es⟩ := lpO_inv2 (f := spec_l38Guild_L3 c) (N := 4) (s0 := (([] : List GCell), i, g)) (fun k s => s.1.length = k ∧ CurOk c s.2.1 ∧ ∀ x ∈ s.1, CellOkM x = true) ⟨rfl, h, by simp⟩ fun k s hk hs => by
    obtain ⟨s1, s2, s3⟩ := hs
    obtain ⟨y, i3, g3, e3, c3, hy⟩ := draw_Cell (g := s.2.2) s2
    unfold spec_l38Guild_L3
    rw [e3]
    simp only [Option.bind_some]
    rw [gd_pos (by omega)]
    refine ⟨_, ⟨by simp [s1], c3, fun z hz => ?_⟩, rfl⟩
    rcases List.mem_append.1 hz with hz | hz
    · exact s3 z hz
    · rw [List.mem_singleton.1 hz]; exact hy
  exact ⟨s, es, s2, s1, s3⟩

theorem draw_submits {c : List UInt8} {d k i g : Int} {t : (List GMember) × (List Int) × (List GEntry) × (List GBooking) × Int × Int} (h : CurOk c i) (k0 : 0 ≤ k) (k1 : k ≤ 3) (ht : Hist (g8 t)) (hf : Few (g8 t) 4) (d0 : 0 ≤ d) (dk : d + 2 * k ≤ 6) : ∃ s, wlO (spec_l38Guild_L2 c) 18446744073709551616 (d, k, i, g, t) = some s ∧ CurOk c s.2.2.1 ∧ Hist (g8 s.2.2.2.2) ∧ Few (g8 s.2.2.2.2) 4 := by
  obtain ⟨s, ⟨s1, s2, _, _, s5, _⟩, es⟩ := wlO_down (f := spec_l38Guild_L2 c) (fun s => CurOk c s.2.2.1 ∧ Hist (g8 s.2.2.2.2) ∧ 0 ≤ s.2.1 ∧ s.2.1 ≤ 3 ∧ Few (g8 s.2.2.2.2) 4 ∧ 0 ≤ s.1 ∧ s.1 + 2 * s.2.1 ≤ 6) (fun s => s.2.1.toNat) (fun s hs => by
    obtain ⟨s1, s2, s3, s4, s5, s6, s7⟩ := hs
    unfold spec_l38Guild_L2
    by_cases hp : s.2.1 > 0
    · by_cases hm : ((s.2.2.2.2.1.length : Nat) : Int) > 0
      · left
        have hml : s.2.2.2.2.1.length ≤ 40 := memOk_len (guild_parts s2.1).1
        obtain ⟨x, i1, g1, e1, c1, x0, x1, _⟩ := draw_Below (g := s.2.2.2.1) (n := 3) s1 (by omega)
        obtain ⟨q, e2, c2, q1, _⟩ := draw_cells4 (g := g1) c1
        obtain ⟨y, i3, g3, e3, c3, y0, y1, _⟩ := draw_Below (g := q.2.2) (n := ((s.2.2.2.2.1.length : Nat) : Int)) c2 (by omega)
        have y2 := y1 (by omega)
        have ew : wr (s.2.1 - 1) = s.2.1 - 1 := wr_of (by omega) (by omega)
        obtain ⟨v, v1, _, _, v4⟩ := rx_Submit (g8 s.2.2.2.2) (gx s.2.2.2.2.1 y.toNat).Number (wr (s.1 + x)) ⟨2, q.1⟩ (guildOk_sm s2.1) ⟨by simp only; omega, fun _ _ => trivial⟩
        rw [decide_eq_true hp, decide_eq_true hm, Bool.and_self, cond_true, e1]
        simp only [Option.bind_some]
        rw [e2]
        simp only [Option.bind_some]
        rw [e3]
        simp only [Option.bind_some]
        rw [gd_pos ⟨y0, y2⟩]
        unfold g8 at v1
        rw [v1]
        have hv : Hist v.1 := hist_submit s2 v4
        have x2 := x1 (by omega)
        have ex : wr (s.1 + x) = s.1 + x := wr_of (by omega) (by omega)
        have hq : Few v.1 4 := few_submit s5 (by omega) v4
        refine ⟨(wr (s.1 + x), wr (s.2.1 - 1), i3, g3, v.1.Members, v.1.Stock, v.1.Entries, v.1.Books, v.1.Round, v.1.Year), ⟨c3, hv, by simp only [ew]; omega, by simp only [ew]; omega, hq, by simp only [ex]; omega, by simp only [ew, ex]; omega⟩, by simp only [ew]; omega, rfl⟩
      · right
        rw [decide_eq_false hm, Bool.and_false, cond_false]
        exact ⟨s, ⟨s1, s2, s3, s4, s5, s6, s7⟩, rfl⟩
    · right
      rw [decide_eq_false hp, Bool.false_and, cond_false]
      exact ⟨s, ⟨s1, s2, s3, s4, s5, s6, s7⟩, rfl⟩) (s := (d, k, i, g, t)) (fuel := 18446744073709551616) ⟨h, ht, k0, k1, hf, d0, dk⟩ (by simp only; omega)
  exact ⟨s, es, s1, s2, s5⟩

theorem draw_rounds {k : Int} {t : (List GMember) × (List Int) × (List GEntry) × (List GBooking) × Int × Int} (k0 : 0 ≤ k) (k1 : k ≤ 3) (ht : Hist (g8 t)) (hf : Few (g8 t) 4) : ∃ s, wlO spec_l38Guild_L4 18446744073709551616 (k, t) = some s ∧ Hist (g8 s.2) ∧ Few (g8 s.2) 4 := by
  obtain ⟨s, ⟨s2, _, _, s5⟩, es⟩ := wlO_down (f := spec_l38Guild_L4) (fun s => Hist (g8 s.2) ∧ 0 ≤ s.1 ∧ s.1 ≤ 3 ∧ Few (g8 s.2) 4) (fun s => s.1.toNat) (fun s hs => by
    obtain ⟨s2, s3, s4, s5⟩ := hs
    unfold spec_l38Guild_L4
    by_cases hp : s.1 > 0
    · left
      have ew : wr (s.1 - 1) = s.1 - 1 := wr_of (by omega) (by omega)
      obtain ⟨v, v1, _, _, v4⟩ := rx_SwapRound (g8 s.2) (guildOk_sm s2.1)
      have hv : Hist v.1 := by
        rcases v4 with rfl | ⟨rfl, ok⟩
        · exact s2
        · exact hist_of s2 rfl rfl ok
      have hq : Few v.1 4 := by
        rcases v4 with rfl | ⟨rfl, ok⟩
        · exact s5
        · exact s5
      rw [decide_eq_true hp, cond_true]
      unfold g8 at v1
      rw [v1]
      refine ⟨(wr (s.1 - 1), v.1.Members, v.1.Stock, v.1.Entries, v.1.Books, v.1.Round, v.1.Year), ⟨hv, by simp only [ew]; omega, by simp only [ew]; omega, hq⟩, by simp only [ew]; omega, rfl⟩
    · right
      rw [decide_eq_false hp, cond_false]
      exact ⟨s, ⟨s2, s3, s4, s5⟩, rfl⟩) (s := (k, t)) (fuel := 18446744073709551616) ⟨ht, k0, k1, hf⟩ (by simp only; omega)
  exact ⟨s, es, s2, s5⟩

theorem draw_Guild {c : List UInt8} {i g : Int} (h : CurOk c i) : ∃ q i' g', spec_l38Guild c i g = some (q, i', g') ∧ CurOk c i' ∧ Hist q ∧ Few q 4 := by
  obtain ⟨x1, i1, g1, e1, c1, a1, b1, _⟩ := draw_Below (g := g) (n := 20) h (by omega)
  have b1' := b1 (by omega)
  obtain ⟨n1, n2⟩ := new_ok (y := wr (2000 + x1)) (by rw [wr_of (by omega) (by omega)]; omega) (by rw [wr_of (by omega) (by omega)]; omega)
  obtain ⟨x2, i2, g2, e2, c2, a2, b2, _⟩ := draw_Below (g := g1) (n := 5) c1 (by omega)
  have b2' := b2 (by omega)
  have nf : Few (g8 (([] : List GMember), [1000, 1000, 1000, 1000, 1000, 1000], ([] : List GEntry), ([] : List GBooking), 0, wr (2000 + x1))) (4 - x2) := ⟨fun x hx => (by cases hx), (by show ((0 : Nat) : Int) ≤ _; omega), (by show ((0 : Nat) : Int) ≤ _; omega), (by show wr (2000 + x1) ≤ 2100; rw [wr_of (by omega) (by omega)]; omega), fun e he => (by cases he)⟩
  obtain ⟨s1, e3, c3, h3, f3⟩ := draw_admits (g := g2) (t := (([] : List GMember), [1000, 1000, 1000, 1000, 1000, 1000], ([] : List GEntry), ([] : List GBooking), 0, wr (2000 + x1))) c2 a2 (by omega) n2 nf
  obtain ⟨x4, i4, g4, e4, c4, a4, b4, _⟩ := draw_Below (g := s1.2.2.1) (n := 4) c3 (by omega)
  have b4' := b4 (by omega)
  obtain ⟨s2, e5, c5, h5, f5⟩ := draw_submits (d := 0) (g := g4) (t := s1.2.2.2) c4 a4 (by omega) h3 f3 (by omega) (by omega)
  obtain ⟨x6, i6, g6, e6, c6, a6, b6, _⟩ := draw_Below (g := s2.2.2.2.1) (n := 4) c5 (by omega)
  have b6' := b6 (by omega)
  obtain ⟨s3, e7, h7, f7⟩ := draw_rounds (k := x6) (t := s2.2.2.2.2) a6 (by omega) h5 f5
  obtain ⟨x8, i8, g8', e8, c8, _⟩ := draw_Below (g := g6) (n := 3) c6 (by omega)
  unfold spec_l38Guild
  rw [e1]
  simp only [Option.bind_some]
  rw [n1]
  simp only [Option.bind_some]
  rw [e2]
  simp only [Option.bind_some]
  rw [e3]
  simp only [Option.bind_some]
  rw [e4]
  simp only [Option.bind_some]
  rw [e5]
  simp only [Option.bind_some]
  rw [e6]
  simp only [Option.bind_some]
  rw [e7]
  simp only [Option.bind_some]
  unfold spec_l01Once
  rw [e8]
  simp only [Option.bind_some]
  cases hx : x8 == 0
  · simp only [cond_false, Option.bind_some]
    exact ⟨_, _, _, rfl, c8, h7, f7⟩
  · obtain ⟨l, i9, g9, e9, c9, hl⟩ := draw_Stock (g := g8') c8
    simp only [cond_true, e9, Option.bind_some]
    exact ⟨_, _, _, rfl, c9, hist_of h7 rfl rfl (guild_stock h7.1 hl), f7⟩

theorem spec_bal1 {xs : List GBooking} (hok : LedgerOkM xs = true) (hd : ∀ b ∈ xs, b.From = 0 ∧ b.To = 1 ∧ b.Sum = 20) : spec_BalanceOf xs 1 = some (20 * (xs.length : Int)) := by
  have hl := ledOk_len hok
  unfold spec_BalanceOf
  rw [gd_pos (by omega), lpO_st (f := spec_BalanceOf_L1 xs 1) (s0 := 0) (fun k => 20 * (k : Int)) (by simp) (fun k hk => by
    obtain ⟨f1, f2, f3⟩ := hd _ (gx_mem hk)
    unfold spec_BalanceOf_L1
    rw [spec_LedgerOk_eq xs (by omega), hok]
    simp only [Option.bind_some, cond_true, f1, f2, f3]
    rw [show ((0 : Int) == 1) = false from rfl, show ((1 : Int) == 1) = true from rfl]
    simp only [cond_false, cond_true]
    rw [wr_of (by omega) (by omega)]
    congr 2 <;> omega)]
  rfl

theorem guild_round {g : GGuild} (h : GuildOkM g = true) : 0 ≤ g.Round ∧ g.Round ≤ RoundsM g := by
  simp only [GuildOkM, Bool.and_eq_true] at h
  exact inR_iff.1 h.2

theorem verdict_same {e f : GEntry} : VerdictM e f = 3 ↔ EntOkM e = true ∧ EntOkM f = true ∧ e.Block.Size = f.Block.Size ∧ PattM e.Block = PattM f.Block := by
  unfold VerdictM
  cases he : EntOkM e
  · simp
  cases hf : EntOkM f
  · simp
  have be : BlockOkM e.Block = true := by
    simp only [EntOkM, Bool.and_eq_true] at he; exact he.2
  have bf : BlockOkM f.Block = true := by
    simp only [EntOkM, Bool.and_eq_true] at hf; exact hf.2
  unfold ArePattM
  rw [be, bf]
  cases hs : e.Block.Size != f.Block.Size
  · have hs' : e.Block.Size = f.Block.Size := by simpa using hs
    cases hp : SameBlockM (PattM e.Block) (PattM f.Block)
    · have hp' : ¬ PattM e.Block = PattM f.Block := fun hh => by rw [sameBlock_iff.2 hh] at hp; cases hp
      simp only [Bool.not_true, Bool.or_self, cond_false, Bool.and_self, Bool.and_false]
      constructor
      · intro hh
        cases hd : decide (wr (10 * PatLikeM e.Block f.Block) ≥ wr (36 * (e.Block.Cells.length : Int))) <;> rw [hd] at hh <;> simp at hh
      · intro hh; exact absurd hh.2.2.2 hp'
    · have hp' := sameBlock_iff.1 hp
      simp [hs', hp']
  · have hs' : ¬ e.Block.Size = f.Block.Size := by simpa using hs
    simp [hs']

theorem join_all {xs : List GMember} {n : Int} (hl : xs.length ≤ 1048600) (h : ∀ x ∈ xs, x.Number < n) : wlO (spec_JoinGuild_L1 xs n) 18446744073709551616 0 = some ((xs.length : Nat) : Int) := by
  have key : ∀ m k fuel, k + m = xs.length → m < fuel → whO (spec_JoinGuild_L1 xs n) fuel (k : Int) = some (.inl ((xs.length : Nat) : Int)) := by
    intro m
    induction m with
    | zero =>
      intro k fuel hk hf
      obtain ⟨fuel, rfl⟩ : ∃ q, fuel = q + 1 := ⟨fuel - 1, by omega⟩
      have e : k = xs.length := by omega
      have hd : decide ((k : Int) < (xs.length : Int)) = false := by simp; omega
      have hg : spec_JoinGuild_L1 xs n (k : Int) = some (.brk (k : Int)) := by
        unfold spec_JoinGuild_L1
        rw [hd]; rfl
      rw [whO, hg, e]; rfl
    | succ m ih =>
      intro k fuel hk hf
      obtain ⟨fuel, rfl⟩ : ∃ q, fuel = q + 1 := ⟨fuel - 1, by omega⟩
      have hd : decide ((k : Int) < (xs.length : Int)) = true := by simp; omega
      have e : wr ((k : Int) + 1) = ((k + 1 : Nat) : Int) := by rw [wr_of (by omega) (by omega)]; simp
      have hn := h _ (gx_mem (xs := xs) (k := k) (by omega))
      have hg : spec_JoinGuild_L1 xs n (k : Int) = some (.next ((k + 1 : Nat) : Int)) := by
        unfold spec_JoinGuild_L1
        rw [hd, e]
        simp only [cond_true, Int.toNat_natCast]
        rw [gd_pos ⟨by omega, by omega⟩, decide_eq_true hn]
        rfl
      rw [whO, hg]
      exact ih (k + 1) fuel (by omega) (by omega)
  have h2 := key xs.length 0 18446744073709551616 (by omega) (by omega)
  unfold wlO
  rw [show (0 : Int) = ((0 : Nat) : Int) from rfl, h2]; rfl

theorem members_snoc {xs : List GMember} {m : GMember} (h : MembersOkM xs = true) (hl : xs.length ≤ 39) (h1 : inR m.Number 1 999 = true) (h2 : inR m.Since 1900 2999 = true) (h3 : inR m.Paid (wr (m.Since - 1)) 2999 = true) (h4 : ∀ x ∈ xs, x.Number < m.Number) : MembersOkM (xs ++ [m]) = true := by
  simp only [MembersOkM, Bool.and_eq_true, List.all_eq_true, List.mem_range, decide_eq_true_eq] at h ⊢
  refine ⟨fun k hk => ?_, by simp; omega⟩
  have hk' : k < xs.length + 1 := by simpa using hk
  unfold memP
  by_cases hkl : k < xs.length
  · have := h.1 k hkl
    unfold memP at this
    rw [gx_append_left hkl, gx_append_left (show k - 1 < xs.length by omega)]
    exact this
  · have e : k = xs.length := by omega
    subst e
    rw [gx_last, h1, h2, h3]
    rcases Nat.eq_zero_or_pos xs.length with e | e
    · rw [e]; rfl
    · have := h4 _ (gx_mem (xs := xs) (k := xs.length - 1) (by omega))
      rw [gx_append_left (show xs.length - 1 < xs.length by omega), decide_eq_false (show ¬ m.Number ≤ (gx xs (xs.length - 1)).Number by omega)]
      simp

theorem books_snoc {xs : List GBooking} (h : LedgerOkM xs = true) (hl : xs.length ≤ 59) : LedgerOkM (xs ++ [⟨lastDay xs, 0, 1, 20⟩]) = true := by
  simp only [LedgerOkM, Bool.and_eq_true, List.all_eq_true, List.mem_range, decide_eq_true_eq] at h ⊢
  refine ⟨fun k hk => ?_, by simp; omega⟩
  have hk' : k < xs.length + 1 := by simpa using hk
  unfold ledP
  by_cases hkl : k < xs.length
  · have := h.1 k hkl
    unfold ledP at this
    rw [gx_append_left hkl, gx_append_left (show k - 1 < xs.length by omega)]
    exact this
  · have e : k = xs.length := by omega
    subst e
    rw [gx_last]
    rcases Nat.eq_zero_or_pos xs.length with e | e
    · rw [e]; unfold lastDay; rw [e]; rfl
    · have hl : lastDay xs = (gx xs (xs.length - 1)).Day := by
        unfold lastDay
        rw [decide_eq_true (show (xs.length : Int) > 0 by omega)]; rfl
      have := h.1 (xs.length - 1) (by omega)
      unfold ledP at this
      simp only [Bool.and_eq_true] at this
      rw [gx_append_left (show xs.length - 1 < xs.length by omega)]
      simp only [hl]
      rw [this.1.1.1.1.1, decide_eq_false (show ¬ (gx xs (xs.length - 1)).Day < (gx xs (xs.length - 1)).Day by omega)]
      simp [inR]

theorem memberM_iff {xs : List GMember} {n : Int} : memberM xs n = true ↔ ∃ x ∈ xs, x.Number = n := by
  unfold memberM
  rw [all_gx (fun m : GMember => !(m.Number == n))]
  simp

theorem rounds_bound (g : GGuild) : 0 ≤ RoundsM g ∧ RoundsM g ≤ 9 := by
  unfold RoundsM
  cases h : inR ((GoodM g.Members g.Year).length : Int) 2 10
  · simp
  · have := inR_iff.1 h
    simp only [cond_true]; omega
theorem guild_year {g : GGuild} (h : GuildOkM g = true) : 1900 ≤ g.Year ∧ g.Year ≤ 2999 := by
  simp only [GuildOkM, Bool.and_eq_true] at h
  exact inR_iff.1 h.1.1.2

theorem admit_new {g : GGuild} {n : Int} (hg : Hist g) (hf : Few g 4) (h0 : g.Round = 0) (n1 : 20 ≤ n) (n2 : n ≤ 119) : impl_Admit g n = some ((⟨g.Members ++ [⟨n, g.Year, g.Year⟩], g.Stock, g.Entries, g.Books ++ [⟨lastDay g.Books, 0, 1, 20⟩], g.Round, g.Year⟩ : GGuild), true) ∧ GuildOkM (⟨g.Members ++ [⟨n, g.Year, g.Year⟩], g.Stock, g.Entries, g.Books ++ [⟨lastDay g.Books, 0, 1, 20⟩], g.Round, g.Year⟩ : GGuild) = true := by
  obtain ⟨m1, _, m3, _⟩ := guild_parts hg.1
  obtain ⟨f1, f2, f3, f4, _⟩ := hf
  have hsm := guildOk_sm hg.1
  have hy := guild_year hg.1
  have hyi : inR g.Year 1900 2999 = true := inR_iff.2 hy
  have hni : inR n 1 999 = true := inR_iff.2 ⟨by omega, by omega⟩
  have hlt : ∀ x ∈ g.Members, x.Number < n := fun x hx => by have := f1 x hx; omega
  have hw : wr (g.Year - 1) = g.Year - 1 := wr_of (by omega) (by omega)
  obtain ⟨r, j, jl, _, q2, _, _, q4⟩ := rx_join g.Members n g.Year (by omega)
  have hja := join_all (n := n) (show g.Members.length ≤ 1048600 by omega) hlt
  rw [hja] at jl
  have hj : j = g.Members.length := by have := Option.some.inj jl; omega
  subst hj
  have ho : MembersOkM (g.Members ++ [⟨n, g.Year, wr (g.Year - 1)⟩]) = true := members_snoc m1 (by omega) hni hyi (inR_iff.2 ⟨Int.le_refl _, by simp only [hw]; omega⟩) hlt
  have hl : ((([] : List GMember) ++ ((g.Members.drop 0).take (g.Members.length - 0))) ++ [(GMember.mk n g.Year (wr (g.Year - 1)))]) ++ ((g.Members.drop g.Members.length).take (g.Members.length - g.Members.length)) = g.Members ++ [⟨n, g.Year, wr (g.Year - 1)⟩] := by simp
  rw [hl] at q4
  have hr := q4 m1 hyi ho
  have hp : (g.Members ++ [(⟨n, g.Year, wr (g.Year - 1)⟩ : GMember)]).map (dueM n) = g.Members ++ [⟨n, g.Year, g.Year⟩] := by
    rw [List.map_append]
    congr 1
    · have : g.Members.map (dueM n) = g.Members.map id := List.map_congr_left fun x hx => by
        have h1 := hlt x hx
        have : (x.Number == n) = false := by simp; omega
        unfold dueM
        rw [this]; rfl
      rw [this, List.map_id]
    · simp only [List.map_cons, List.map_nil, dueM, beq_self_eq_true, cond_true]
      rw [hw, show g.Year - 1 + 1 = g.Year by omega, wr_of (by omega) (by omega)]
  have hpo : MembersOkM (g.Members ++ [⟨n, g.Year, g.Year⟩]) = true := members_snoc m1 (by omega) hni hyi (inR_iff.2 ⟨by simp only [hw]; omega, by simp only; omega⟩) hlt
  have hpay : PayM (g.Members ++ [⟨n, g.Year, wr (g.Year - 1)⟩]) n = (g.Members ++ [⟨n, g.Year, g.Year⟩], true) := by
    unfold PayM
    rw [ho, hp, hpo]
    simp
  have hb : BookM g.Books ⟨lastDay g.Books, 0, 1, 20⟩ = (g.Books ++ [⟨lastDay g.Books, 0, 1, 20⟩], true) := by
    unfold BookM
    rw [m3, books_snoc m3 (by omega)]; rfl
  have hok : GuildOkM (⟨g.Members ++ [⟨n, g.Year, g.Year⟩], g.Stock, g.Entries, g.Books ++ [⟨lastDay g.Books, 0, 1, 20⟩], g.Round, g.Year⟩ : GGuild) = true := by
    have hh := hg.1
    simp only [GuildOkM, Bool.and_eq_true, List.all_eq_true, List.mem_range] at hh ⊢
    obtain ⟨⟨⟨⟨⟨⟨_, b⟩, _⟩, d⟩, e⟩, f⟩, _⟩ := hh
    refine ⟨⟨⟨⟨⟨⟨hpo, b⟩, books_snoc m3 (by omega)⟩, d⟩, e⟩, fun k hk => ?_⟩, inR_iff.2 ⟨by omega, by rw [h0]; exact (rounds_bound _).1⟩⟩
    have := f k hk
    simp only [entP, Bool.and_eq_true] at this ⊢
    obtain ⟨⟨t1, t2⟩, t3⟩ := this
    refine ⟨⟨t1, memberM_iff.2 ?_⟩, t3⟩
    obtain ⟨x, hx, e⟩ := memberM_iff.1 t2
    exact ⟨x, List.mem_append.2 (.inl hx), e⟩
  obtain ⟨r', a1, _, ax⟩ := fx_Admit g n hsm
  rw [q2] at a1
  cases a1
  obtain ⟨_, e2⟩ := ax _ rfl
  rw [hr] at e2
  simp only [hpay, hb, hg.1, hok, Bool.and_self, Bool.and_true, Bool.true_and] at e2
  rw [h0] at e2 hok ⊢
  exact ⟨e2, hok⟩

theorem laws_has_eq {l : List Int} {n : Int} (hl : l.length ≤ 1048576) (h : n ∈ l) : laws_has l n = some true := by
  unfold laws_has
  rw [gd_pos (by omega), forO_all (f := laws_has_L1 l n) (c := true) (fun k => !(gx l k == n)) (fun k hk => by
    unfold laws_has_L1
    cases gx l k == n <;> rfl), all_gx (fun x : Int => !(x == n))]
  have : (l.all fun x : Int => !(x == n)) = false := by
    rw [List.all_eq_false]
    exact ⟨n, h, by simp⟩
  rw [this]; rfl

theorem good_new {xs : List GMember} {n y : Int} (h : MembersOkM (xs ++ [⟨n, y, y⟩]) = true) : n ∈ GoodM (xs ++ [⟨n, y, y⟩]) y := by
  unfold GoodM
  rw [h, cond_true, List.mem_map]
  refine ⟨xs.length, List.mem_filter.2 ⟨by simp, ?_⟩, by rw [gx_last]⟩
  rw [gx_last]; simp

theorem fx_SwapRound {g : GGuild} (h : GuildOkM g = true) : impl_SwapRound g = some (bif decide (g.Round < RoundsM g) then ((⟨g.Members, g.Stock, g.Entries, g.Books, wr (g.Round + 1), g.Year⟩ : GGuild), true) else (g, false)) := by
  have hs := guildOk_sm h
  have hn : GL (⟨g.Members, g.Stock, g.Entries, g.Books, wr (g.Round + 1), g.Year⟩ : GGuild) := sm_GL (g := g) hs
  obtain ⟨r0, r1⟩ := guild_round h
  have rb := rounds_bound g
  have hk : GuildOkM (⟨g.Members, g.Stock, g.Entries, g.Books, wr (g.Round + 1), g.Year⟩ : GGuild) = decide (g.Round < RoundsM g) := by
    have e : inR (wr (g.Round + 1)) 0 (RoundsM g) = decide (g.Round < RoundsM g) := by
      rw [wr_of (by omega) (by omega), Bool.eq_iff_iff, inR_iff, decide_eq_true_iff]
      omega
    simp only [GuildOkM, Bool.and_eq_true] at h
    obtain ⟨⟨⟨⟨⟨⟨a, b⟩, c⟩, d⟩, e'⟩, f⟩, _⟩ := h
    show (MembersOkM g.Members && StockOkM g.Stock && LedgerOkM g.Books && !decide (((g.Entries.length : Nat) : Int) > 10) && inR g.Year 1900 2999 && (List.range g.Entries.length).all (entP g) && inR (wr (g.Round + 1)) 0 (RoundsM g)) = _
    rw [a, b, c, d, e', f, e]; rfl
  unfold impl_SwapRound
  simp only [impl_Guild_copied_eq hs, Option.bind_some, impl_becomes_eq hs hn, h, hk]
  cases decide (g.Round < RoundsM g) <;> rfl

theorem fx_NewYear {g : GGuild} (h : GuildOkM g = true) (hy : g.Year ≤ 2100) : impl_NewYear g = some (bif g.Round == RoundsM g then ((⟨g.Members, g.Stock, g.Entries, g.Books, 0, wr (g.Year + 1)⟩ : GGuild), true) else (g, false)) := by
  have hs := guildOk_sm h
  have hn : GL (⟨g.Members, g.Stock, g.Entries, g.Books, 0, wr (g.Year + 1)⟩ : GGuild) := sm_GL (g := g) hs
  obtain ⟨r0, r1⟩ := guild_round h
  have hy0 := guild_year h
  have hk : GuildOkM (⟨g.Members, g.Stock, g.Entries, g.Books, 0, wr (g.Year + 1)⟩ : GGuild) = true := by
    have rb := (rounds_bound (⟨g.Members, g.Stock, g.Entries, g.Books, 0, wr (g.Year + 1)⟩ : GGuild)).1
    have hyy : inR (wr (g.Year + 1)) 1900 2999 = true := by rw [wr_of (by omega) (by omega)]; exact inR_iff.2 ⟨by omega, by omega⟩
    simp only [GuildOkM, Bool.and_eq_true] at h ⊢
    obtain ⟨⟨⟨⟨⟨⟨a, b⟩, c⟩, d⟩, e'⟩, f⟩, _⟩ := h
    exact ⟨⟨⟨⟨⟨⟨a, b⟩, c⟩, d⟩, hyy⟩, f⟩, inR_iff.2 ⟨Int.le_refl _, rb⟩⟩
  have e : decide (g.Round ≥ RoundsM g) = (g.Round == RoundsM g) := by
    rw [Bool.eq_iff_iff, decide_eq_true_iff, beq_iff_eq]; omega
  unfold impl_NewYear
  simp only [impl_Guild_copied_eq hs, Option.bind_some, impl_SwapRounds_eq g (sm_GL hs).1, e]
  rw [impl_becomes_eq hs hn, h, hk]
  cases g.Round == RoundsM g <;> rfl

theorem refused {g : GGuild} (hg : Hist g) (hf : Few g 4) {i : Nat} (hi : i < 4) (he : 0 < g.Entries.length) {k : Nat} (hk : k < g.Members.length) : ∃ w, impl_Submit g (gx g.Members k).Number 9000 (SeenM (gx g.Entries 0).Block (i : Int)) = some w ∧ (((gx g.Members k).Number != (gx g.Entries 0).Owner) && w.2) = false := by
  have hs := guildOk_sm hg.1
  obtain ⟨m1, _, _, m4, m5⟩ := guild_parts hg.1
  have hb := m5 0 he
  have hv := view_ok hb (k := i) (by omega)
  obtain ⟨w, _, w2, _, w4⟩ := rx_Submit g (gx g.Members k).Number 9000 (SeenM (gx g.Entries 0).Block (i : Int)) hs (blockOk_sm hv.1)
  refine ⟨w, w2, ?_⟩
  rcases w4 with rfl | ⟨hno, _, _⟩
  · simp
  · cases hne : (gx g.Members k).Number != (gx g.Entries 0).Owner
    · rfl
    · exfalso
      have h0 := hno 0 he
      have hmn := hf.1 _ (gx_mem hk)
      have hd := hf.2.2.2.2 _ (gx_mem he)
      have hm1 : 1 ≤ (gx g.Members k).Number := by
        have hmo := m1
        simp only [MembersOkM, Bool.and_eq_true, List.all_eq_true, List.mem_range] at hmo
        have := hmo.1 k hk
        simp only [memP, Bool.and_eq_true] at this
        exact (inR_iff.1 this.1.1.1).1
      have hent : EntOkM (gx g.Entries 0) = true := by
        have hh := hg.1
        simp only [GuildOkM, Bool.and_eq_true, List.all_eq_true, List.mem_range] at hh
        have := hh.1.2 0 he
        simp only [entP, Bool.and_eq_true] at this
        exact this.1.1
      have hnew : EntOkM ⟨(gx g.Members k).Number, 9000, SeenM (gx g.Entries 0).Block (i : Int)⟩ = true := by
        simp only [EntOkM, Bool.and_eq_true]
        exact ⟨⟨inR_iff.2 ⟨by omega, by omega⟩, rfl⟩, hv.1⟩
      have hver : VerdictM ⟨(gx g.Members k).Number, 9000, SeenM (gx g.Entries 0).Block (i : Int)⟩ (gx g.Entries 0) = 3 := verdict_same.2 ⟨hnew, hent, hv.2, patt_view hb (by omega)⟩
      unfold CopyM at h0
      rw [hver] at h0
      simp only [hne, Bool.true_and] at h0
      rw [decide_eq_true (show (9000 : Int) > (gx g.Entries 0).Day by omega)] at h0
      cases h0

theorem draw_DrawGuild {c : List UInt8} (h : c.length ≤ 1048576) : ∃ g, spec_DrawGuild c = some g ∧ Hist g ∧ Few g 4 := by
  obtain ⟨g0, e0, c0⟩ := draw_New h
  obtain ⟨q, i1, g1, e1, _, hq, fq⟩ := draw_Guild (g := g0) c0
  unfold spec_DrawGuild
  rw [e0]
  simp only [Option.bind_some, e1]
  exact ⟨q, rfl, hq, fq⟩

theorem p_FnGuilds (code : List UInt8) (_ : Fit.ok code) : laws_FnGuilds code = some true := by
  unfold laws_FnGuilds laws_big
  simp only [Option.bind_some]
  by_cases hc : ((code.length : Nat) : Int) > 1048576
  · rw [decide_eq_true hc]; rfl
  rw [decide_eq_false hc, cond_false]
  have hcl : code.length ≤ 1048576 := by omega
  obtain ⟨g, e0, hg, hf⟩ := draw_DrawGuild hcl
  obtain ⟨x, ex, x0, x1⟩ := draw_at hcl (i := 0) (by omega) (by omega)
  obtain ⟨y, ey, y0, y1⟩ := draw_at hcl (i := 1) (by omega) (by omega)
  have hs := guildOk_sm hg.1
  have hgl := sm_GL hs
  obtain ⟨m1, m2, m3, m4, m5⟩ := guild_parts hg.1
  have hml := memOk_len m1
  obtain ⟨sl, sb⟩ := stock_spec m2
  have xt0 := Int.tmod_nonneg 100 x0
  have xt1 := Int.tmod_lt_of_pos x (show (0 : Int) < 100 by omega)
  have yt0 := Int.tmod_nonneg 4 y0
  have yt1 := Int.tmod_lt_of_pos y (show (0 : Int) < 4 by omega)
  have en : wr (20 + x.tmod 100) = 20 + x.tmod 100 := wr_of (by omega) (by omega)
  have n1 : 20 ≤ 20 + x.tmod 100 := by omega
  have n2 : 20 + x.tmod 100 ≤ 119 := by omega
  obtain ⟨k, hk⟩ := Int.eq_ofNat_of_zero_le yt0
  have hk4 : k < 4 := by omega
  rw [e0]
  simp only [Option.bind_some]
  rw [ex]
  simp only [Option.bind_some, en]
  generalize 20 + x.tmod 100 = n at n1 n2 ⊢
  have h1 : ∃ a, impl_Admit g n = some a ∧ a.2 = (g.Round == 0) ∧ GuildOkM a.1 = true ∧ (bif a.2 then (spec_GoodStanding a.1.Members a.1.Year).bind fun v6 => (laws_has v6 n).bind fun v7 => bif (!v7) then some true else (spec_BalanceOf a.1.Books 1).bind fun v8 => (spec_BalanceOf g.Books 1).bind fun v9 => bif (v8 != (wr (v9 + 20))) then some true else some (((a.1.Members.length : Nat) : Int) != (wr (((g.Members.length : Nat) : Int) + 1))) else some false) = some false := by
    cases hr : g.Round == 0
    · obtain ⟨r, _, _, hx⟩ := fx_Admit g n hs
      obtain ⟨_, e2⟩ := hx _ rfl
      rw [hr] at e2
      simp only [Bool.and_false, Bool.false_and, cond_false] at e2
      exact ⟨_, e2, rfl, hg.1, rfl⟩
    · have hr0 : g.Round = 0 := by simpa using hr
      obtain ⟨a1, a2⟩ := admit_new hg hf hr0 n1 n2
      obtain ⟨b1, _, b3, _⟩ := guild_parts a2
      refine ⟨_, a1, rfl, a2, ?_⟩
      have hgl2 := good_len (g.Members ++ [⟨n, g.Year, g.Year⟩]) g.Year
      have hd : ∀ b ∈ g.Books ++ [(⟨lastDay g.Books, 0, 1, 20⟩ : GBooking)], b.From = 0 ∧ b.To = 1 ∧ b.Sum = 20 := fun b hb => by
        rcases List.mem_append.1 hb with hb | hb
        · exact hg.2.2 b hb
        · rw [List.mem_singleton.1 hb]; exact ⟨rfl, rfl, rfl⟩
      have hbl := ledOk_len m3
      simp only [cond_true]
      rw [spec_GoodStanding_eq _ _ (by simp; omega)]
      simp only [Option.bind_some]
      rw [laws_has_eq (by omega) (good_new b1)]
      simp only [Option.bind_some, Bool.not_true, cond_false]
      rw [spec_bal1 b3 hd, spec_bal1 m3 hg.2.2]
      simp only [Option.bind_some, List.length_append, List.length_cons, List.length_nil]
      rw [wr_of (by omega) (by omega), wr_of (by omega) (by omega)]
      have q1 : (20 * ((g.Books.length + (0 + 1) : Nat) : Int) != 20 * (g.Books.length : Int) + 20) = false := by simp; omega
      have q2 : (((g.Members.length + (0 + 1) : Nat) : Int) != (g.Members.length : Int) + 1) = false := by simp
      rw [q1, q2]; rfl
  obtain ⟨a, ea, a2, aok, hj2⟩ := h1
  rw [ea]
  simp only [Option.bind_some]
  rw [a2] at hj2 ⊢
  simp only [beq_self_eq_true, Bool.not_true, cond_false, Option.bind_some]
  rw [impl_GuildOk_eq _ (sm_GL (guildOk_sm aok)), aok]
  simp only [Option.bind_some, Bool.not_true, cond_false]
  rw [hj2]
  simp only [Option.bind_some, cond_false]
  rw [ey]
  simp only [Option.bind_some, hk]
  obtain ⟨w, w1, w2, _, w4, w5⟩ := qx_SewBlock g (k : Int) hs
  have hb2 : (bif w.2 then bif ((decide ((k : Int) ≥ ((g.Entries.length : Nat) : Int))) || (((w.1.Stock.length : Nat) : Int) != ((g.Stock.length : Nat) : Int))) then some (.inr false) else gd (0 ≤ (k : Int) ∧ (k : Int) < ((g.Entries.length : Nat) : Int)) <| (spec_AreaTable ((gx g.Entries ((k : Int).toNat)).Block)).bind fun v12 => gd (v12.length ≤ 4611686018427387904) <| sq (forO (laws_FnGuilds_L1 g w v12) v12.length 0 ()) fun _ => some (.inl ()) else (bif (decide ((k : Int) < ((g.Entries.length : Nat) : Int))) then gd (0 ≤ (k : Int) ∧ (k : Int) < ((g.Entries.length : Nat) : Int)) <| (spec_AreaTable ((gx g.Entries ((k : Int).toNat)).Block)).bind fun v13 => (spec_EnoughFor g.Stock v13).bind fun v14 => some v14 else some false).bind fun j5 => bif j5 then some (.inr false) else some (.inl ())) = (some (.inl ()) : Option (Unit ⊕ Bool)) := by
    cases hw : w.2
    · simp only [cond_false]
      cases hd : decide ((k : Int) < ((g.Entries.length : Nat) : Int))
      · rfl
      · have hd' : (k : Int) < ((g.Entries.length : Nat) : Int) := by simpa using hd
        have hb := m5 k (by omega)
        have hen := w5 hg.1 hw (by omega) hd'
        have hts : StockOkM (tab6 fun a => AreaM (gx g.Entries (k : Int).toNat).Block a) = true := tab_stock fun a _ => by have := area_bound (gx g.Entries (k : Int).toNat).Block (a : Int); omega
        rw [cond_true, gd_pos ⟨by omega, by omega⟩, spec_AreaTable_eq]
        have ha : areasM (gx g.Entries (k : Int).toNat).Block = tab6 fun a => AreaM (gx g.Entries (k : Int).toNat).Block a := by
          unfold areasM
          rw [Int.toNat_natCast, hb]; rfl
        rw [ha]
        simp only [Option.bind_some]
        rw [spec_EnoughFor_eq m2 hts, hen]
        rfl
    · rcases w4 with rfl | ⟨s, k0, k1, hb, hws, hst, hso⟩
      · cases hw
      · have hws1 : w.1.Stock = s := by rw [hws]
        have ha : areasM (gx g.Entries (k : Int).toNat).Block = tab6 fun a => AreaM (gx g.Entries (k : Int).toNat).Block a := by
          unfold areasM
          rw [hb]; rfl
        have sl2 := (stock_spec hso).1
        have hlen : (((w.1.Stock.length : Nat) : Int) != ((g.Stock.length : Nat) : Int)) = false := by rw [hws1, sl2, sl]; rfl
        have hloop : forO (laws_FnGuilds_L1 g w (tab6 fun a => AreaM (gx g.Entries (k : Int).toNat).Block a)) 6 0 () = some (.inl ()) := forO_st (fun _ => ()) rfl fun c hc => by
          have c1 := sb c hc
          have c2 := area_bound (gx g.Entries (k : Int).toNat).Block (c : Int)
          unfold laws_FnGuilds_L1
          rw [hws1, gd_pos (by omega), gd_pos (by omega), hst, tab6_gx _ hc, tab6_gx _ hc, wr_of (by omega) (by omega), bne_self_eq_false]
          rfl
        rw [cond_true, hlen, decide_eq_false (show ¬ (k : Int) ≥ ((g.Entries.length : Nat) : Int) by omega), Bool.or_self, cond_false]
        rw [gd_pos ⟨k0, k1⟩, spec_AreaTable_eq, ha]
        simp only [Option.bind_some, tab6_len]
        rw [gd_pos (by omega), hloop]
        rfl
  rw [w2]
  simp only [Option.bind_some]
  rw [hb2]
  simp only [sq_inl]
  have hb3 : (bif ((decide (((g.Entries.length : Nat) : Int) > 0)) && (decide (((g.Members.length : Nat) : Int) > 1))) then gd (0 < g.Entries.length) <| gd (g.Members.length ≤ 4611686018427387904) <| sq (forO (laws_FnGuilds_L2 g y) g.Members.length 0 ()) fun _ => some (.inl ()) else some (.inl ())) = (some (.inl ()) : Option (Unit ⊕ Bool)) := by
    cases hd : (decide (((g.Entries.length : Nat) : Int) > 0)) && (decide (((g.Members.length : Nat) : Int) > 1))
    · rfl
    · rw [Bool.and_eq_true, decide_eq_true_eq, decide_eq_true_eq] at hd
      have hloop : forO (laws_FnGuilds_L2 g y) g.Members.length 0 () = some (.inl ()) := forO_st (fun _ => ()) rfl fun m hm => by
        obtain ⟨v, v1, v2⟩ := refused hg hf hk4 (by omega) hm
        unfold laws_FnGuilds_L2
        rw [spec_SeenFrom_eq, hk]
        simp only [Option.bind_some]
        rw [v1]
        simp only [Option.bind_some]
        rw [v2]
        rfl
      rw [cond_true, gd_pos (by omega), gd_pos (by omega), hloop]
      rfl
  rw [hb3]
  simp only [sq_inl]
  have rb := rounds_bound g
  have hr := guild_round hg.1
  rw [fx_SwapRound hg.1]
  simp only [Option.bind_some]
  rw [fx_NewYear hg.1 hf.2.2.2.1]
  simp only [Option.bind_some]
  rw [impl_SwapRounds_eq g hgl.1]
  simp only [Option.bind_some, impl_GuildOk_eq g hgl, hg.1]
  rw [decide_eq_true (show RoundsM g ≥ 0 from rb.1), decide_eq_true (show RoundsM g ≤ 9 from rb.2)]
  cases decide (g.Round < RoundsM g) <;> cases g.Round == RoundsM g <;> simp
end Go.Proofs.YtgbcpjffnkiababGreatDoor
