/-
  The plain laws: what the functions compute, in Lean alone.
-/
import Derived.Test.YtlfhlajpdmcnaacGreatDoorP1
namespace Go.Proofs.YtlfhlajpdmcnaacGreatDoor
open Go

theorem impl_ColorwayAt_ok {b : GBlock} (h : BlockOkM b = true) (h3 : (colsM b).length ≤ 3) {i : Nat} (hi : i < chsM (colsM b).length) : impl_ColorwayAt b (i : Int) = some (exB (wayM (colsM b) (pkM (ratesM (colsM b).length) i six)) b, true) := by
  have hp := cols_pos h
  have hc : ColorsM b = colsM b := by simp [ColorsM, h]
  have hu : ∀ k, k < (colsM b).length → 0 ≤ gx (colsM b) k ∧ gx (colsM b) k ≤ 5 := fun k hk => (mem_cols.1 (gx_mem hk)).1
  have hpk := pk_ok hp h3 hi
  have hch := impl_choices_small h3
  have hn0 : ((colsM b).length == 0) = false := by rw [beq_eq_false_iff_ne]; omega
  rw [hn0, cond_false] at hch
  have hcount : impl_ColorwayCount b = some ((chsM (colsM b).length : Nat) : Int) := by
    unfold impl_ColorwayCount
    simp only [impl_BlockOk_eq, h, Option.bind_some, Bool.not_true, cond_false, impl_ColorsOf_eq, hc, hch]
  have hle : chsM (colsM b).length ≤ 120 := by
    have hn : (colsM b).length = 1 ∨ (colsM b).length = 2 ∨ (colsM b).length = 3 := by omega
    rcases hn with e | e | e <;> rw [e] <;> decide
  have ew : wr (((chsM (colsM b).length : Nat) : Int) - 1) = ((chsM (colsM b).length : Nat) : Int) - 1 := wr_of (by omega) (by omega)
  have hin : inR (i : Int) 0 (((chsM (colsM b).length : Nat) : Int) - 1) = true := inR_iff.2 ⟨by omega, by omega⟩
  have hloop : (lpO (impl_ColorwayAt_L1 (colsM b)) (colsM b).length ((i : Int), six, List.replicate 6 (0 : Int))).map (fun s => s.2.2) = some (wayM (colsM b) (pkM (ratesM (colsM b).length) i six)) := by
    have hst := fun (k c2 r idx : Nat) (left list : List Int) (q1 : impl_choices ((k + 1 : Nat) : Int) = some (c2 : Int)) (q2 : 0 < c2) (q3 : chsM (colsM b).length / c2 = r) (q4 : 0 < r) (q5 : idx < r * left.length) (q6 : left.length ≤ 6) (q7 : list.length = 6) (q8 : k < (colsM b).length) (q9 : idx ≤ 1000) => way_step (L := colsM b) (k := k) (idx := idx) (r := r) (c1 := chsM (colsM b).length) (c2 := c2) (left := left) (list := list) hch q1 q2 q3 q4 (by omega) q5 q6 q7 (hu k q8) q9
    have hn : (colsM b).length = 1 ∨ (colsM b).length = 2 ∨ (colsM b).length = 3 := by omega
    generalize hL : colsM b = L at hn hst hi ⊢
    rcases hn with e | e | e
    · obtain ⟨u, rfl⟩ : ∃ u, L = [u] := by
        match L, e with
        | [u], _ => exact ⟨u, rfl⟩
      have hi6 : i < 6 := hi
      have s0 := hst 0 6 1 i six (List.replicate 6 (0 : Int)) rfl (by omega) (by simp [chsM]) (by omega) (by simp [six]; omega) (by simp [six]) (by simp) (by simp) (by omega)
      unfold lpO
      rw [show ([u] : List Int).length = 0 + 1 from rfl, forO, s0]
      rfl
    · obtain ⟨u, v, rfl⟩ : ∃ u v, L = [u, v] := by
        match L, e with
        | [u, v], _ => exact ⟨u, v, rfl⟩
      have hi6 : i < 30 := hi
      have s0 := hst 0 6 5 i six (List.replicate 6 (0 : Int)) rfl (by omega) (by simp [chsM]) (by omega) (by simp [six]; omega) (by simp [six]) (by simp) (by simp) (by omega)
      have l1 : (six.take (i / 5) ++ six.drop (i / 5 + 1)).length = 5 := by simp [six]; omega
      have s1 := hst 1 30 1 (i % 5) (six.take (i / 5) ++ six.drop (i / 5 + 1)) ((List.replicate 6 (0 : Int)).set (gx [u, v] 0).toNat (gx six (i / 5))) rfl (by omega) (by simp [chsM]) (by omega) (by rw [l1]; omega) (by rw [l1]; omega) (by simp) (by simp) (by omega)
      unfold lpO
      rw [show ([u, v] : List Int).length = 1 + 1 from rfl, forO, s0]
      simp only [Option.bind_some]
      rw [forO, s1]
      rfl
    · obtain ⟨u, v, w, rfl⟩ : ∃ u v w, L = [u, v, w] := by
        match L, e with
        | [u, v, w], _ => exact ⟨u, v, w, rfl⟩
      have hi6 : i < 120 := hi
      have s0 := hst 0 6 20 i six (List.replicate 6 (0 : Int)) rfl (by omega) (by simp [chsM]) (by omega) (by simp [six]; omega) (by simp [six]) (by simp) (by simp) (by omega)
      have l1 : (six.take (i / 20) ++ six.drop (i / 20 + 1)).length = 5 := by simp [six]; omega
      have s1 := hst 1 30 4 (i % 20) (six.take (i / 20) ++ six.drop (i / 20 + 1)) ((List.replicate 6 (0 : Int)).set (gx [u, v, w] 0).toNat (gx six (i / 20))) rfl (by omega) (by simp [chsM]) (by omega) (by rw [l1]; omega) (by rw [l1]; omega) (by simp) (by simp) (by omega)
      generalize hl1 : six.take (i / 20) ++ six.drop (i / 20 + 1) = left1 at l1 s0 s1
      have l2 : (left1.take (i % 20 / 4) ++ left1.drop (i % 20 / 4 + 1)).length = 4 := by simp; omega
      have s2 := hst 2 120 1 (i % 20 % 4) (left1.take (i % 20 / 4) ++ left1.drop (i % 20 / 4 + 1)) (((List.replicate 6 (0 : Int)).set (gx [u, v, w] 0).toNat (gx six (i / 20))).set (gx [u, v, w] 1).toNat (gx left1 (i % 20 / 4))) rfl (by omega) (by simp [chsM]) (by omega) (by rw [l2]; omega) (by rw [l2]; omega) (by simp) (by simp) (by omega)
      unfold lpO
      rw [show ([u, v, w] : List Int).length = 2 + 1 from rfl, forO, s0]
      simp only [Option.bind_some]
      rw [forO, s1]
      simp only [Option.bind_some]
      rw [forO, s2]
      subst hl1
      rfl
  cases hl : lpO (impl_ColorwayAt_L1 (colsM b)) (colsM b).length ((i : Int), six, List.replicate 6 (0 : Int)) with
  | none => rw [hl] at hloop; cases hloop
  | some e =>
    rw [hl] at hloop
    have hz : e.2.2 = wayM (colsM b) (pkM (ratesM (colsM b).length) i six) := Option.some.inj hloop
    have hw := way_ok (L := colsM b) hpk.2.2
    have hwl := (listOk_spec hw).1
    unfold impl_ColorwayAt
    rw [hcount]
    simp only [Option.bind_some, within_eq, ew, hin, Bool.not_true, cond_false, impl_ColorsOf_eq, hc, impl_upTo_six]
    rw [gd_pos (by omega), hl]
    simp only [Option.bind_some, hz]
    rw [impl_ExchangeBlock_eq (blockOk_sm h).1 (by omega), exB_eq h hw]
    rfl

def PatLikeM (b d : GBlock) : Int := bif pairM b d && decide ((colsM d).length ≤ 3) then mx 8 (fun k => bestM (TM b (SeenM d (k : Int))) (colsM d) []) else 0
theorem zip_fst {L p : List Int} (h : p.length = L.length) : (L.zip p).map Prod.fst = L := by
  rw [List.map_fst_zip (by omega)]
theorem like_way {b d : GBlock} (h : pairM b d = true) {k : Nat} (hk : k < 8) {p : List Int} (hl : p.length = (colsM d).length) (hr : ∀ x ∈ p, 0 ≤ x ∧ x ≤ 5) : LikeM b (SeenM (exB (wayM (colsM d) p) d) (k : Int)) = sumP ((colsM d).zip p) (TM b (SeenM d (k : Int))) := by
  obtain ⟨h1, h2, h3, h4⟩ := pair_len h
  have hw := way_ok (L := colsM d) hr
  rw [seen_exchange h2 hw hk]
  refine like_exchange (pair_seen h hk) hw (by rw [zip_fst hl]; exact cols_nodup d) (fun i hi s => by rw [zip_fst hl]; exact seen_colors h2 hk hi s) ?_
  exact asg_gx _ _ _ rfl (cols_nodup d) fun u hu => (mem_cols.1 hu).1

theorem spec_PatternLikeness_eq (b d : GBlock) : spec_PatternLikeness b d = some (PatLikeM b d) := by
  unfold spec_PatternLikeness PatLikeM
  simp only [spec_ColorsOf_eq, spec_l29Ok_eq, Option.bind_some]
  cases h : pairM b d
  · rfl
  obtain ⟨h1, h2, h3, h4⟩ := pair_len h
  have hc : ColorsM d = colsM d := by simp [ColorsM, h2]
  rw [hc]
  by_cases hn : (colsM d).length ≤ 3
  · have hd : decide (((colsM d).length : Int) > 3) = false := by simp; omega
    have hd' : decide ((colsM d).length ≤ 3) = true := by simpa using hn
    simp only [hd, hd', Bool.not_true, cond_false, Option.bind_some, Bool.and_self, cond_true]
    rw [lpO_mx (f := spec_PatternLikeness_L1 b d (colsM d)) (fun k => bestM (TM b (SeenM d (k : Int))) (colsM d) []) (fun k s hk => by
      have hb := spec_l29Best_ok (T := TM b (SeenM d (k : Int))) (fun u v => TM_bound h4 u v) hn (fun u hu => (mem_cols.1 hu).1) (colsM d).length 0 [] (by omega) rfl (by simp)
      simp only [List.drop_zero] at hb
      simp only [spec_PatternLikeness_L1, spec_SeenFrom_eq, spec_l29Table_ok (pair_seen h hk), Option.bind_some]
      rw [show (0 : Int) = ((0 : Nat) : Int) from rfl, show spec_l29Best ((colsM d).length + 1) (tab66 fun u v => TM b (SeenM d (k : Int)) (u : Int) (v : Int)) (colsM d) ((0 : Nat) : Int) ((0 : Nat) : Int) = _ from hb]
      rfl)]
    rfl
  · have hd : decide (((colsM d).length : Int) > 3) = true := by simp; omega
    have hd' : decide ((colsM d).length ≤ 3) = false := by simpa using hn
    simp [hd, hd']

theorem impl_PatternLikeness_eq (b d : GBlock) : impl_PatternLikeness b d = some (PatLikeM b d) := by
  unfold impl_PatternLikeness PatLikeM
  simp only [impl_arePaired_eq, impl_ColorsOf_eq, Option.bind_some]
  cases h : pairM b d
  · rfl
  obtain ⟨h1, h2, h3, h4⟩ := pair_len h
  have hc : ColorsM d = colsM d := by simp [ColorsM, h2]
  rw [hc]
  by_cases hn : (colsM d).length ≤ 3
  · have hd : decide (((colsM d).length : Int) > 3) = false := by simp; omega
    have hd' : decide ((colsM d).length ≤ 3) = true := by simpa using hn
    have hp := cols_pos h2
    have hch := impl_choices_small hn
    have hn0 : ((colsM d).length == 0) = false := by rw [beq_eq_false_iff_ne]; omega
    rw [hn0, cond_false] at hch
    have hcount : impl_ColorwayCount d = some ((chsM (colsM d).length : Nat) : Int) := by
      unfold impl_ColorwayCount
      simp only [impl_BlockOk_eq, h2, Option.bind_some, Bool.not_true, cond_false, impl_ColorsOf_eq, hc, hch]
    have hle : chsM (colsM d).length ≤ 120 := by
      have hn : (colsM d).length = 1 ∨ (colsM d).length = 2 ∨ (colsM d).length = 3 := by omega
      rcases hn with e | e | e <;> rw [e] <;> decide
    simp only [hd, hd', Bool.not_true, cond_false, Option.bind_some, Bool.and_self, cond_true, hcount, Int.toNat_natCast]
    rw [gd_pos (by omega), lpO_mx (f := impl_PatternLikeness_L1 b d) (fun i => mx 8 fun k => LikeM b (SeenM (exB (wayM (colsM d) (pkM (ratesM (colsM d).length) i six)) d) (k : Int))) (fun i s hi => by
      have hpr : pairM b (exB (wayM (colsM d) (pkM (ratesM (colsM d).length) i six)) d) = true := by
        have := h
        simp only [pairM, Bool.and_eq_true] at this ⊢
        exact ⟨⟨h1, exB_ok h2 _⟩, this.2⟩
      simp only [impl_PatternLikeness_L1, impl_ColorwayAt_ok h2 hn hi, impl_BestLikeness_ok hpr, Option.bind_some]
      rfl)]
    simp only [Option.bind_some]
    congr 1
    apply Int.le_antisymm
    · refine mx_le_of (mx_nonneg _ _) fun i hi => mx_le_of (mx_nonneg _ _) fun k hk => ?_
      obtain ⟨p1, p2, p3⟩ := pk_ok hp hn hi
      rw [like_way h hk p1 p3]
      exact Int.le_trans (best_ge (T := TM b (SeenM d (k : Int))) (colsM d) [] _ p1 p3 p2 (by simp)) (mx_le (g := fun k : Nat => bestM (TM b (SeenM d (k : Int))) (colsM d) []) hk)
    · refine mx_le_of (mx_nonneg _ _) fun k hk => ?_
      obtain ⟨p, p1, p2, p3, p4, p5⟩ := best_att (T := TM b (SeenM d (k : Int))) (fun u v => (TM_bound h4 u v).1) (colsM d) [] (by simpa using hn)
      obtain ⟨i, hi, hip⟩ := pk_surj (p := p) (by omega) (by omega) p2 p3
      rw [p1] at hi hip
      refine Int.le_trans p5 ?_
      rw [← like_way h hk p1 p2, ← hip]
      exact Int.le_trans (mx_le (g := fun k : Nat => LikeM b (SeenM (exB (wayM (colsM d) (pkM (ratesM (colsM d).length) i six)) d) (k : Int))) hk) (mx_le (g := fun i => mx 8 fun k => LikeM b (SeenM (exB (wayM (colsM d) (pkM (ratesM (colsM d).length) i six)) d) (k : Int))) hi)
  · have hd : decide (((colsM d).length : Int) > 3) = true := by simp; omega
    have hd' : decide ((colsM d).length ≤ 3) = false := by simpa using hn
    simp [hd, hd']

theorem bytesLess_irrefl : ∀ l : List UInt8, Op.bytesLess l l = false
  | [] => rfl
  | x :: l => by
    have := bytesLess_irrefl l
    simp [Op.bytesLess, this]
theorem slt_irrefl (s : Str) : slt s s = false := bytesLess_irrefl _
def lstM (F : Nat → GBlock) : Nat → GBlock
  | 0 => F 0
  | n + 1 => bif slt (textM (F (n + 1))) (textM (lstM F n)) then F (n + 1) else lstM F n
def ixM (F : Nat → GBlock) : Nat → Nat
  | 0 => 0
  | k + 1 => bif slt (textM (F k)) (textM (F (ixM F k))) then k else ixM F k
theorem ix_lst (F : Nat → GBlock) : ∀ k, F (ixM F (k + 1)) = lstM F k
  | 0 => by
    have : slt (textM (F 0)) (textM (F 0)) = false := slt_irrefl _
    simp [ixM, lstM, this]
  | k + 1 => by
    have ih := ix_lst F k
    rw [ixM, lstM, ih]
    cases slt (textM (F (k + 1))) (textM (lstM F k))
    · exact ih
    · rfl
theorem ixM_le (F : Nat → GBlock) : ∀ k, ixM F k ≤ k
  | 0 => Nat.le_refl _
  | k + 1 => by
    have := ixM_le F k
    unfold ixM
    cases slt (textM (F k)) (textM (F (ixM F k))) <;> simp <;> omega
theorem lst_congr {F G : Nat → GBlock} : ∀ {n : Nat}, (∀ k, k ≤ n → F k = G k) → lstM F n = lstM G n
  | 0, h => h 0 (Nat.le_refl _)
  | n + 1, h => by rw [lstM, lstM, lst_congr (n := n) fun k hk => h k (by omega), h (n + 1) (Nat.le_refl _)]
theorem lst_in (F : Nat → GBlock) : ∀ n, ∃ k, k ≤ n ∧ lstM F n = F k
  | 0 => ⟨0, Nat.le_refl _, rfl⟩
  | n + 1 => by
    obtain ⟨k, hk, e⟩ := lst_in F n
    unfold lstM
    cases slt (textM (F (n + 1))) (textM (lstM F n))
    · exact ⟨k, by omega, e⟩
    · exact ⟨n + 1, Nat.le_refl _, rfl⟩

theorem impl_FormatInt_small {a : Int} (h0 : 0 ≤ a) (h1 : a ≤ 5) : impl_FormatInt a = some ⟨[digM a]⟩ := by
  unfold impl_FormatInt strconv_Itoa
  rw [gd_pos ⟨h0, by omega⟩]
  rfl

theorem impl_CellText_eq {c : GCell} (h : CellOkM c = true) : impl_CellText c = some ⟨cellTextM c⟩ := by
  obtain ⟨h1, h2, h3, h4, h5, h6, h7⟩ := cellOk_spec h
  have hs : c.Split = 0 ∨ c.Split = 1 ∨ c.Split = 2 := by omega
  unfold impl_CellText cellTextM
  simp only [impl_CellOk_eq, h, impl_FormatInt_small h3 h4, impl_FormatInt_small h5 h6, Option.bind_some, Bool.not_true, cond_false]
  rcases hs with e | e | e <;> rw [e]
  · rfl
  · rfl
  · rfl

theorem impl_TextOf_eq {b : GBlock} (h : BlockOkM b = true) : impl_TextOf b = some (textM b) := by
  obtain ⟨n, hn, h1, h2, hl, hc⟩ := blockOk_spec h
  have hnn : n * n ≤ 4 * 4 := Nat.mul_le_mul h2 h2
  unfold impl_TextOf
  simp only [impl_BlockOk_eq, h, Option.bind_some, Bool.not_true, cond_false]
  rw [gd_pos (by omega), lpO_st (f := impl_TextOf_L1 b) (s0 := (⟨[]⟩ : Str)) (fun k => (⟨cellsTextM (b.Cells.take k)⟩ : Str)) rfl (fun k hk => by
    have hx := hc _ (gx_mem hk)
    have hlen := cellsText_len (b.Cells.take k)
    have hlen2 : (b.Cells.take k).length ≤ 16 := by simp; omega
    have hlen3 := cellText_len (gx b.Cells k)
    simp only [impl_TextOf_L1, Option.bind_some, impl_CellText_eq hx]
    rw [gd_pos (by simp only [List.length_cons, List.length_nil]; omega), gd_pos (by simp only [sadd, List.length_append, List.length_cons, List.length_nil]; omega)]
    rw [List.take_succ_eq_append_getElem hk, ← gx_lt hk]
    simp [sadd, cellsTextM])]
  simp [textM, h]

theorem impl_least_eq {l : List GBlock} (h0 : 0 < l.length) (hl : l.length ≤ 1000) (hok : ∀ k, k < l.length → BlockOkM (gx l k) = true) : impl_least l = some (lstM (gx l) (l.length - 1)) := by
  unfold impl_least
  rw [gd_pos h0, gd_pos (by omega), lpO_st (f := impl_least_L1 l) (s0 := 0) (ixM (gx l)) rfl (fun k hk => by
    have hi := ixM_le (gx l) k
    unfold impl_least_L1
    rw [gd_pos (by omega), impl_TextOf_eq (hok k hk), impl_TextOf_eq (hok _ (by omega))]
    simp only [Option.bind_some]
    rfl)]
  have hi : ixM (gx l) l.length < l.length := by
    obtain ⟨n, hn⟩ : ∃ n, l.length = n + 1 := ⟨l.length - 1, by omega⟩
    rw [hn]
    unfold ixM
    have := ixM_le (gx l) n
    cases slt (textM (gx l n)) (textM (gx l (ixM (gx l) n))) <;> simp <;> omega
  simp only [Option.bind_some]
  rw [gd_pos hi]
  obtain ⟨n, hn⟩ : ∃ n, l.length = n + 1 := ⟨l.length - 1, by omega⟩
  rw [hn, ix_lst (gx l) n]
  rfl

def FormM (b : GBlock) : GBlock := bif BlockOkM b then lstM (fun k => SeenM b (k : Int)) 7 else ⟨0, []⟩
theorem seen_zero {b : GBlock} (h : BlockOkM b = true) : SeenM b ((0 : Nat) : Int) = b := by
  unfold SeenM
  rw [h]
  rfl
theorem form_ok {b : GBlock} (h : BlockOkM b = true) : BlockOkM (FormM b) = true ∧ (FormM b).Size = b.Size := by
  unfold FormM
  rw [h, cond_true]
  obtain ⟨k, hk, e⟩ := lst_in (fun k => SeenM b (k : Int)) 7
  rw [e]
  exact view_ok h (by omega)

def PattM (b : GBlock) : GBlock := bif BlockOkM b then lstM (fun k => PlainM (SeenM b (k : Int))) 7 else ⟨0, []⟩
theorem patt_ok {b : GBlock} (h : BlockOkM b = true) : BlockOkM (PattM b) = true ∧ (PattM b).Size = b.Size := by
  unfold PattM
  rw [h, cond_true]
  obtain ⟨k, hk, e⟩ := lst_in (fun k => PlainM (SeenM b (k : Int))) 7
  rw [e]
  obtain ⟨v1, v2⟩ := view_ok h (k := k) (by omega)
  obtain ⟨p1, p2⟩ := plain_ok v1
  exact ⟨p1, by rw [p2, v2]⟩

theorem spec_LeastPattern_eq (b : GBlock) : spec_LeastPattern b = some (PattM b) := by
  unfold spec_LeastPattern PattM
  simp only [spec_BlockOk_eq, Option.bind_some]
  cases h : BlockOkM b
  · rfl
  simp only [Bool.not_true, cond_false, cond_true, spec_l07Plain_eq h, Option.bind_some]
  rw [lpO_st (f := spec_LeastPattern_L1 b) (s0 := ((PlainM b).Size, (PlainM b).Cells)) (fun k => ((lstM (fun k => PlainM (SeenM b (k : Int))) k).Size, (lstM (fun k => PlainM (SeenM b (k : Int))) k).Cells)) (by rw [lstM, seen_zero h]) (fun k hk => by
    have hv := (view_ok h (k := k + 1) (by omega)).1
    have hp := (plain_ok hv).1
    have hb : BlockOkM (lstM (fun k => PlainM (SeenM b (k : Int))) k) = true := by
      obtain ⟨j, hj, e⟩ := lst_in (fun k => PlainM (SeenM b (k : Int))) k
      rw [e]; exact (plain_ok (view_ok h (by omega)).1).1
    simp only [spec_LeastPattern_L1, spec_SeenFrom_eq, spec_l07Plain_eq hv, spec_TextOf_eq hp, Option.bind_some]
    rw [show spec_TextOf (GBlock.mk (lstM (fun k => PlainM (SeenM b (k : Int))) k).Size (lstM (fun k => PlainM (SeenM b (k : Int))) k).Cells) = _ from spec_TextOf_eq hb]
    rfl)]
  rfl

theorem impl_LeastPattern_eq (b : GBlock) : impl_LeastPattern b = some (PattM b) := by
  unfold impl_LeastPattern PattM
  simp only [impl_BlockOk_eq, Option.bind_some]
  cases h : BlockOkM b
  · rfl
  simp only [Bool.not_true, cond_false, cond_true, impl_views_eq, Option.bind_some, views_len]
  rw [gd_pos (by omega), lpO_app (f := impl_LeastPattern_L1 (viewsM b)) (xs := []) (fun k : Nat => PlainM (SeenM b (k : Int))) (fun k s hk hs => by
    unfold impl_LeastPattern_L1
    rw [views_gx _ hk, impl_plain_eq (view_ok h hk).1]
    simp only [Option.bind_some]
    rw [gd_pos (by simp at hs; omega)])]
  have hl : (([] : List GBlock) ++ (List.range 8).map fun k : Nat => PlainM (SeenM b (k : Int))).length = 8 := by simp
  have hg : ∀ k, k < 8 → gx (([] : List GBlock) ++ (List.range 8).map fun k : Nat => PlainM (SeenM b (k : Int))) k = PlainM (SeenM b (k : Int)) := fun k hk => by
    rw [List.nil_append]; exact gx_range _ hk
  simp only [Option.bind_some]
  rw [impl_least_eq (by rw [hl]; omega) (by rw [hl]; omega) (fun k hk => by
    rw [hl] at hk
    rw [hg k hk]; exact (plain_ok (view_ok h hk).1).1), hl]
  simp only [Option.bind_some]
  rw [lst_congr (G := fun k => PlainM (SeenM b (k : Int))) fun k hk => hg k (by omega)]

def ArePattM (b d : GBlock) : Bool := BlockOkM b && BlockOkM d && SameBlockM (PattM b) (PattM d)

theorem spec_ArePatternsSame_eq (b d : GBlock) : spec_ArePatternsSame b d = some (ArePattM b d) := by
  unfold spec_ArePatternsSame ArePattM
  simp only [spec_BlockOk_eq, spec_LeastPattern_eq, Option.bind_some]
  cases hb : BlockOkM b
  · rfl
  cases hd : BlockOkM d
  · rfl
  simp only [cond_true, spec_SameBlock_eq (blockOk_sm (patt_ok hb).1).1, Option.bind_some, Bool.true_and]

theorem impl_ArePatternsSame_eq (b d : GBlock) : impl_ArePatternsSame b d = some (ArePattM b d) := by
  unfold impl_ArePatternsSame ArePattM
  simp only [impl_BlockOk_eq, impl_LeastPattern_eq, Option.bind_some]
  cases hb : BlockOkM b
  · rfl
  cases hd : BlockOkM d
  · rfl
  simp only [cond_true, impl_SameBlock_eq (blockOk_sm (patt_ok hb).1).1, Option.bind_some, Bool.true_and]

def VerdictM (e f : GEntry) : Int := bif !EntOkM e || !EntOkM f || e.Block.Size != f.Block.Size then 0 else bif ArePattM e.Block f.Block then 3 else bif decide (wr (10 * PatLikeM e.Block f.Block) ≥ wr (36 * (e.Block.Cells.length : Int))) then 2 else 1
theorem verdict_cases (e f : GEntry) : VerdictM e f = 0 ∨ VerdictM e f = 1 ∨ VerdictM e f = 2 ∨ VerdictM e f = 3 := by
  unfold VerdictM
  cases !EntOkM e || !EntOkM f || e.Block.Size != f.Block.Size
  · cases ArePattM e.Block f.Block
    · cases decide (wr (10 * PatLikeM e.Block f.Block) ≥ wr (36 * (e.Block.Cells.length : Int))) <;> simp
    · simp
  · simp

theorem spec_VerdictOn_eq (e f : GEntry) : spec_VerdictOn e f = some (VerdictM e f) := by
  unfold spec_VerdictOn VerdictM
  simp only [spec_EntryOk_eq', spec_ArePatternsSame_eq, spec_PatternLikeness_eq, Option.bind_some]
  cases EntOkM e
  · rfl
  cases EntOkM f
  · rfl
  cases e.Block.Size != f.Block.Size
  · simp only [Bool.not_true, cond_false, Option.bind_some, Bool.or_self]
    cases ArePattM e.Block f.Block
    · cases decide (wr (10 * PatLikeM e.Block f.Block) ≥ wr (36 * (e.Block.Cells.length : Int))) <;> rfl
    · rfl
  · rfl

theorem impl_VerdictOn_eq (e f : GEntry) : impl_VerdictOn e f = some (VerdictM e f) := by
  unfold impl_VerdictOn VerdictM
  simp only [impl_EntryOk_eq', impl_ArePatternsSame_eq, impl_PatternLikeness_eq, Option.bind_some]
  cases EntOkM e
  · rfl
  cases EntOkM f
  · rfl
  cases e.Block.Size != f.Block.Size
  · simp only [Bool.not_true, cond_false, Option.bind_some, Bool.or_self]
    cases ArePattM e.Block f.Block
    · cases decide (wr (10 * PatLikeM e.Block f.Block) ≥ wr (36 * (e.Block.Cells.length : Int))) <;> rfl
    · rfl
  · rfl

def CopyM (e f : GEntry) : Bool := (e.Owner != f.Owner) && decide (e.Day > f.Day) && decide (VerdictM e f ≥ 2)

theorem spec_IsCopy_eq (e f : GEntry) : spec_IsCopy e f = some (CopyM e f) := by
  unfold spec_IsCopy CopyM
  simp only [spec_VerdictOn_eq, Option.bind_some]
  rcases verdict_cases e f with h | h | h | h <;> rw [h] <;> cases e.Owner != f.Owner <;> cases decide (e.Day > f.Day) <;> rfl

theorem impl_IsCopy_eq (e f : GEntry) : impl_IsCopy e f = some (CopyM e f) := by
  unfold impl_IsCopy CopyM
  simp only [impl_VerdictOn_eq, Option.bind_some]
  cases e.Owner != f.Owner <;> cases decide (e.Day > f.Day) <;> simp

theorem ex_Submit (g : GGuild) (n d : Int) (b : GBlock) (h : Sm.ok g) (hb : Sm.ok b) : ∃ w, spec_Submit g n d b = some w ∧ impl_Submit g n d b = some w ∧ Sm.ok w.1 := by
  have hgl := sm_GL h
  have hel : g.Entries.length ≤ 1048576 := h.2.2.1.1
  have hn : GL (⟨g.Members, g.Stock, g.Entries ++ [⟨n, d, b⟩], g.Books, g.Round, g.Year⟩ : GGuild) := ⟨hgl.1, hgl.2.1, by simp only [List.length_append, List.length_cons, List.length_nil]; omega, hgl.2.2.2⟩
  have hloop : ∀ f : Nat → Unit → Option (Res Unit (GGuild × Bool)), (∀ k, k < g.Entries.length → f k () = some (bif CopyM ⟨n, d, b⟩ (gx g.Entries k) then .ret (g, false) else .next ())) → forO f g.Entries.length 0 () = some (bif (List.range g.Entries.length).all (fun k => !CopyM ⟨n, d, b⟩ (gx g.Entries k)) then .inl () else .inr (g, false)) := fun f hf =>
    forO_all (f := f) (fun k => !CopyM ⟨n, d, b⟩ (gx g.Entries k)) fun k hk => by
      rw [hf k hk]
      cases CopyM ⟨n, d, b⟩ (gx g.Entries k) <;> rfl
  unfold spec_Submit impl_Submit
  simp only [spec_l38Copy_eq h, spec_l03Copy_sm hb, impl_Guild_copied_eq h, impl_Block_copied_sm hb, spec_GuildOk_eq g hgl, impl_GuildOk_eq g hgl, Option.bind_some]
  cases hg : GuildOkM g
  · exact ⟨(g, false), rfl, rfl, h⟩
  simp only [Bool.not_true, cond_false]
  rw [gd_pos (p := g.Entries.length ≤ 4611686018427387904) (by omega), gd_pos (p := g.Entries.length ≤ 4611686018427387904) (by omega), hloop (spec_Submit_L1 g n d g b) (fun k hk => by
    simp only [spec_Submit_L1, spec_IsCopy_eq, Option.bind_some]
    cases CopyM ⟨n, d, b⟩ (gx g.Entries k) <;> rfl), hloop (impl_Submit_L1 g n d g b) (fun k hk => by
    have e : impl_IsCopy ⟨n, d, b⟩ ⟨(gx g.Entries k).Owner, (gx g.Entries k).Day, (gx g.Entries k).Block⟩ = some (CopyM ⟨n, d, b⟩ (gx g.Entries k)) := impl_IsCopy_eq _ _
    simp only [impl_Submit_L1, e, Option.bind_some]
    cases CopyM ⟨n, d, b⟩ (gx g.Entries k) <;> rfl)]
  cases (List.range g.Entries.length).all fun k => !CopyM ⟨n, d, b⟩ (gx g.Entries k)
  · exact ⟨(g, false), rfl, rfl, h⟩
  simp only [cond_true, sq_inl]
  rw [gd_pos (by omega), gd_pos (by omega)]
  simp only [spec_GuildOk_eq _ hn, impl_becomes_eq h hn, hg, Option.bind_some]
  cases hx : GuildOkM (⟨g.Members, g.Stock, g.Entries ++ [⟨n, d, b⟩], g.Books, g.Round, g.Year⟩ : GGuild)
  · exact ⟨(g, false), rfl, rfl, h⟩
  · exact ⟨_, rfl, rfl, guildOk_sm hx⟩

theorem same_Submit (g : GGuild) (n d : Int) (b : GBlock) (h : Sm.ok g) (hb : Sm.ok b) (_ : Fit.ok n) (_ : Fit.ok d) : ∃ w, spec_Submit g n d b = some w ∧ impl_Submit g n d b = some w ∧ Sm.ok w.1 := ex_Submit g n d b h hb

theorem p_FnExactSubmit (a0 : GGuild) (a1 : Int) (a2 : Int) (a3 : GBlock) (f0 : Fit.ok a0) (f1 : Fit.ok a1) (f2 : Fit.ok a2) (f3 : Fit.ok a3) : laws_FnExactSubmit a0 a1 a2 a3 = some true := by
  unfold laws_FnExactSubmit
  obtain ⟨r0, hr0, hc0⟩ := sz_Guild a0 1048576 (by omega) (by omega) f0
  rcases hc0 with hc0 | ⟨s0, u0, w0⟩
  · simp [hr0, hc0]
  have n0 : ¬ r0 < 0 := by omega
  obtain ⟨r3, hr3, hc3⟩ := sz_Block a3 r0 (by omega) (by omega) f3
  rcases hc3 with hc3 | ⟨s3, u3, w3⟩
  · simp [hr3, hc3, hr0, n0]
  have n3 : ¬ r3 < 0 := by omega
  obtain ⟨w, hs, hi, q0⟩ := same_Submit a0 a1 a2 a3 s0 s3 f1 f2
  obtain ⟨ba0_0, ba0_1, ba0_2, ba0_3, ka0, ma0, la0, ha0⟩ := mk_Guild a0 1 s0 (by omega) (by omega)
  obtain ⟨ba3_0, ka3, ma3, la3, ha3⟩ := mk_Block a3 ka0 s3 (by omega) (by omega)
  have da : ¬ ka3 < 0 := by omega
  obtain ⟨bw0_0, bw0_1, bw0_2, bw0_3, kw0, mw0, xw0, lw0, hw0⟩ := mh_Guild w.1 1 q0 (by omega) (by omega)
  have dw0 : ¬ kw0 < 0 := by omega
  simp [hr0, n0, hr3, n3, to_Guild a0 s0, eq_Guild a0 s0, to_Block a3 s3, eq_Block a3 s3, hs, hi, eq_Guild w.1 q0, ma0, ma3, mw0, xw0, da, dw0]
end Go.Proofs.YtlfhlajpdmcnaacGreatDoor
