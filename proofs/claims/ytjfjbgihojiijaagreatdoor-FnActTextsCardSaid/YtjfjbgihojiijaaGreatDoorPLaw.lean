/-
  The plain laws: what the functions compute, in Lean alone.
-/
import Derived.Test.YtjfjbgihojiijaaGreatDoorP1
namespace Go.Proofs.YtjfjbgihojiijaaGreatDoor
open Go

theorem impl_PatternLikeness_eq (b d : GBlock) : impl_PatternLikeness b d = some (PatLikeM b d) := by
  unfold impl_PatternLikeness PatLikeM
  simp only [impl_arePaired_eq, impl_ColorsOf_eq, Option.bind_some]
  cases h : pairM b d
  · rfl
  obtain ⟨h1, h2, h3, h4⟩ := pair_len h
  have hc : ColorsM d = colsM d := by simp [ColorsM, h2]
  rw [hc]
  by_cases hn : (colsM d).length ≤ 3
  · have hd : decide (((colsM d).length : Int) > 3) = false := by simp; omega
    have hd' : decide ((colsM d).length ≤ 3) = true := by simpa using hn
    have hp := cols_pos h2
    have hch := impl_choices_small hn
    have hn0 : ((colsM d).length == 0) = false := by rw [beq_eq_false_iff_ne]; omega
    rw [hn0, cond_false] at hch
    have hcount : impl_ColorwayCount d = some ((chsM (colsM d).length : Nat) : Int) := by
      unfold impl_ColorwayCount
      simp only [impl_BlockOk_eq, h2, Option.bind_some, Bool.not_true, cond_false, impl_ColorsOf_eq, hc, hch]
    have hle : chsM (colsM d).length ≤ 120 := by
      have hn : (colsM d).length = 1 ∨ (colsM d).length = 2 ∨ (colsM d).length = 3 := by omega
      rcases hn with e | e | e <;> rw [e] <;> decide
    simp only [hd, hd', Bool.not_true, cond_false, Option.bind_some, Bool.and_self, cond_true, hcount, Int.toNat_natCast]
    rw [gd_pos (by omega), lpO_mx (f := impl_PatternLikeness_L1 b d) (fun i => mx 8 fun k => LikeM b (SeenM (exB (wayM (colsM d) (pkM (ratesM (colsM d).length) i six)) d) (k : Int))) (fun i s hi => by
      have hpr : pairM b (exB (wayM (colsM d) (pkM (ratesM (colsM d).length) i six)) d) = true := by
        have := h
        simp only [pairM, Bool.and_eq_true] at this ⊢
        exact ⟨⟨h1, exB_ok h2 _⟩, this.2⟩
      simp only [impl_PatternLikeness_L1, impl_ColorwayAt_ok h2 hn hi, impl_BestLikeness_ok hpr, Option.bind_some]
      rfl)]
    simp only [Option.bind_some]
    congr 1
    apply Int.le_antisymm
    · refine mx_le_of (mx_nonneg _ _) fun i hi => mx_le_of (mx_nonneg _ _) fun k hk => ?_
      obtain ⟨p1, p2, p3⟩ := pk_ok hp hn hi
      rw [like_way h hk p1 p3]
      exact Int.le_trans (best_ge (T := TM b (SeenM d (k : Int))) (colsM d) [] _ p1 p3 p2 (by simp)) (mx_le (g := fun k : Nat => bestM (TM b (SeenM d (k : Int))) (colsM d) []) hk)
    · refine mx_le_of (mx_nonneg _ _) fun k hk => ?_
      obtain ⟨p, p1, p2, p3, p4, p5⟩ := best_att (T := TM b (SeenM d (k : Int))) (fun u v => (TM_bound h4 u v).1) (colsM d) [] (by simpa using hn)
      obtain ⟨i, hi, hip⟩ := pk_surj (p := p) (by omega) (by omega) p2 p3
      rw [p1] at hi hip
      refine Int.le_trans p5 ?_
      rw [← like_way h hk p1 p2, ← hip]
      exact Int.le_trans (mx_le (g := fun k : Nat => LikeM b (SeenM (exB (wayM (colsM d) (pkM (ratesM (colsM d).length) i six)) d) (k : Int))) hk) (mx_le (g := fun i => mx 8 fun k => LikeM b (SeenM (exB (wayM (colsM d) (pkM (ratesM (colsM d).length) i six)) d) (k : Int))) hi)
  · have hd : decide (((colsM d).length : Int) > 3) = true := by simp; omega
    have hd' : decide ((colsM d).length ≤ 3) = false := by simpa using hn
    simp [hd, hd']

theorem bytesLess_irrefl : ∀ l : List UInt8, Op.bytesLess l l = false
  | [] => rfl
  | x :: l => by
    have := bytesLess_irrefl l
    simp [Op.bytesLess, this]
theorem slt_irrefl (s : Str) : slt s s = false := bytesLess_irrefl _
def lstM (F : Nat → GBlock) : Nat → GBlock
  | 0 => F 0
  | n + 1 => bif slt (textM (F (n + 1))) (textM (lstM F n)) then F (n + 1) else lstM F n
def ixM (F : Nat → GBlock) : Nat → Nat
  | 0 => 0
  | k + 1 => bif slt (textM (F k)) (textM (F (ixM F k))) then k else ixM F k
theorem ix_lst (F : Nat → GBlock) : ∀ k, F (ixM F (k + 1)) = lstM F k
  | 0 => by
    have : slt (textM (F 0)) (textM (F 0)) = false := slt_irrefl _
    simp [ixM, lstM, this]
  | k + 1 => by
    have ih := ix_lst F k
    rw [ixM, lstM, ih]
    cases slt (textM (F (k + 1))) (textM (lstM F k))
    · exact ih
    · rfl
theorem ixM_le (F : Nat → GBlock) : ∀ k, ixM F k ≤ k
  | 0 => Nat.le_refl _
  | k + 1 => by
    have := ixM_le F k
    unfold ixM
    cases slt (textM (F k)) (textM (F (ixM F k))) <;> simp <;> omega
theorem lst_congr {F G : Nat → GBlock} : ∀ {n : Nat}, (∀ k, k ≤ n → F k = G k) → lstM F n = lstM G n
  | 0, h => h 0 (Nat.le_refl _)
  | n + 1, h => by rw [lstM, lstM, lst_congr (n := n) fun k hk => h k (by omega), h (n + 1) (Nat.le_refl _)]
theorem lst_in (F : Nat → GBlock) : ∀ n, ∃ k, k ≤ n ∧ lstM F n = F k
  | 0 => ⟨0, Nat.le_refl _, rfl⟩
  | n + 1 => by
    obtain ⟨k, hk, e⟩ := lst_in F n
    unfold lstM
    cases slt (textM (F (n + 1))) (textM (lstM F n))
    · exact ⟨k, by omega, e⟩
    · exact ⟨n + 1, Nat.le_refl _, rfl⟩

theorem impl_FormatInt_small {a : Int} (h0 : 0 ≤ a) (h1 : a ≤ 5) : impl_FormatInt a = some ⟨[digM a]⟩ := by
  unfold impl_FormatInt strconv_Itoa
  rw [gd_pos ⟨h0, by omega⟩]
  rfl

theorem impl_CellText_eq {c : GCell} (h : CellOkM c = true) : impl_CellText c = some ⟨cellTextM c⟩ := by
  obtain ⟨h1, h2, h3, h4, h5, h6, h7⟩ := cellOk_spec h
  have hs : c.Split = 0 ∨ c.Split = 1 ∨ c.Split = 2 := by omega
  unfold impl_CellText cellTextM
  simp only [impl_CellOk_eq, h, impl_FormatInt_small h3 h4, impl_FormatInt_small h5 h6, Option.bind_some, Bool.not_true, cond_false]
  rcases hs with e | e | e <;> rw [e]
  · rfl
  · rfl
  · rfl

theorem impl_TextOf_eq {b : GBlock} (h : BlockOkM b = true) : impl_TextOf b = some (textM b) := by
  obtain ⟨n, hn, h1, h2, hl, hc⟩ := blockOk_spec h
  have hnn : n * n ≤ 4 * 4 := Nat.mul_le_mul h2 h2
  unfold impl_TextOf
  simp only [impl_BlockOk_eq, h, Option.bind_some, Bool.not_true, cond_false]
  rw [gd_pos (by omega), lpO_st (f := impl_TextOf_L1 b) (s0 := (⟨[]⟩ : Str)) (fun k => (⟨cellsTextM (b.Cells.take k)⟩ : Str)) rfl (fun k hk => by
    have hx := hc _ (gx_mem hk)
    have hlen := cellsText_len (b.Cells.take k)
    have hlen2 : (b.Cells.take k).length ≤ 16 := by simp; omega
    have hlen3 := cellText_len (gx b.Cells k)
    simp only [impl_TextOf_L1, Option.bind_some, impl_CellText_eq hx]
    rw [gd_pos (by simp only [List.length_cons, List.length_nil]; omega), gd_pos (by simp only [sadd, List.length_append, List.length_cons, List.length_nil]; omega)]
    rw [List.take_succ_eq_append_getElem hk, ← gx_lt hk]
    simp [sadd, cellsTextM])]
  simp [textM, h]

theorem impl_least_eq {l : List GBlock} (h0 : 0 < l.length) (hl : l.length ≤ 1000) (hok : ∀ k, k < l.length → BlockOkM (gx l k) = true) : impl_least l = some (lstM (gx l) (l.length - 1)) := by
  unfold impl_least
  rw [gd_pos h0, gd_pos (by omega), lpO_st (f := impl_least_L1 l) (s0 := 0) (ixM (gx l)) rfl (fun k hk => by
    have hi := ixM_le (gx l) k
    unfold impl_least_L1
    rw [gd_pos (by omega), impl_TextOf_eq (hok k hk), impl_TextOf_eq (hok _ (by omega))]
    simp only [Option.bind_some]
    rfl)]
  have hi : ixM (gx l) l.length < l.length := by
    obtain ⟨n, hn⟩ : ∃ n, l.length = n + 1 := ⟨l.length - 1, by omega⟩
    rw [hn]
    unfold ixM
    have := ixM_le (gx l) n
    cases slt (textM (gx l n)) (textM (gx l (ixM (gx l) n))) <;> simp <;> omega
  simp only [Option.bind_some]
  rw [gd_pos hi]
  obtain ⟨n, hn⟩ : ∃ n, l.length = n + 1 := ⟨l.length - 1, by omega⟩
  rw [hn, ix_lst (gx l) n]
  rfl

def FormM (b : GBlock) : GBlock := bif BlockOkM b then lstM (fun k => SeenM b (k : Int)) 7 else ⟨0, []⟩
theorem seen_zero {b : GBlock} (h : BlockOkM b = true) : SeenM b ((0 : Nat) : Int) = b := by
  unfold SeenM
  rw [h]
  rfl
theorem form_ok {b : GBlock} (h : BlockOkM b = true) : BlockOkM (FormM b) = true ∧ (FormM b).Size = b.Size := by
  unfold FormM
  rw [h, cond_true]
  obtain ⟨k, hk, e⟩ := lst_in (fun k => SeenM b (k : Int)) 7
  rw [e]
  exact view_ok h (by omega)

def PattM (b : GBlock) : GBlock := bif BlockOkM b then lstM (fun k => PlainM (SeenM b (k : Int))) 7 else ⟨0, []⟩
theorem patt_ok {b : GBlock} (h : BlockOkM b = true) : BlockOkM (PattM b) = true ∧ (PattM b).Size = b.Size := by
  unfold PattM
  rw [h, cond_true]
  obtain ⟨k, hk, e⟩ := lst_in (fun k => PlainM (SeenM b (k : Int))) 7
  rw [e]
  obtain ⟨v1, v2⟩ := view_ok h (k := k) (by omega)
  obtain ⟨p1, p2⟩ := plain_ok v1
  exact ⟨p1, by rw [p2, v2]⟩

theorem spec_LeastPattern_eq (b : GBlock) : spec_LeastPattern b = some (PattM b) := by
  unfold spec_LeastPattern PattM
  simp only [spec_BlockOk_eq, Option.bind_some]
  cases h : BlockOkM b
  · rfl
  simp only [Bool.not_true, cond_false, cond_true, spec_l07Plain_eq h, Option.bind_some]
  rw [lpO_st (f := spec_LeastPattern_L1 b) (s0 := ((PlainM b).Size, (PlainM b).Cells)) (fun k => ((lstM (fun k => PlainM (SeenM b (k : Int))) k).Size, (lstM (fun k => PlainM (SeenM b (k : Int))) k).Cells)) (by rw [lstM, seen_zero h]) (fun k hk => by
    have hv := (view_ok h (k := k + 1) (by omega)).1
    have hp := (plain_ok hv).1
    have hb : BlockOkM (lstM (fun k => PlainM (SeenM b (k : Int))) k) = true := by
      obtain ⟨j, hj, e⟩ := lst_in (fun k => PlainM (SeenM b (k : Int))) k
      rw [e]; exact (plain_ok (view_ok h (by omega)).1).1
    simp only [spec_LeastPattern_L1, spec_SeenFrom_eq, spec_l07Plain_eq hv, spec_TextOf_eq hp, Option.bind_some]
    rw [show spec_TextOf (GBlock.mk (lstM (fun k => PlainM (SeenM b (k : Int))) k).Size (lstM (fun k => PlainM (SeenM b (k : Int))) k).Cells) = _ from spec_TextOf_eq hb]
    rfl)]
  rfl

theorem impl_LeastPattern_eq (b : GBlock) : impl_LeastPattern b = some (PattM b) := by
  unfold impl_LeastPattern PattM
  simp only [impl_BlockOk_eq, Option.bind_some]
  cases h : BlockOkM b
  · rfl
  simp only [Bool.not_true, cond_false, cond_true, impl_views_eq, Option.bind_some, views_len]
  rw [gd_pos (by omega), lpO_app (f := impl_LeastPattern_L1 (viewsM b)) (xs := []) (fun k : Nat => PlainM (SeenM b (k : Int))) (fun k s hk hs => by
    unfold impl_LeastPattern_L1
    rw [views_gx _ hk, impl_plain_eq (view_ok h hk).1]
    simp only [Option.bind_some]
    rw [gd_pos (by simp at hs; omega)])]
  have hl : (([] : List GBlock) ++ (List.range 8).map fun k : Nat => PlainM (SeenM b (k : Int))).length = 8 := by simp
  have hg : ∀ k, k < 8 → gx (([] : List GBlock) ++ (List.range 8).map fun k : Nat => PlainM (SeenM b (k : Int))) k = PlainM (SeenM b (k : Int)) := fun k hk => by
    rw [List.nil_append]; exact gx_range _ hk
  simp only [Option.bind_some]
  rw [impl_least_eq (by rw [hl]; omega) (by rw [hl]; omega) (fun k hk => by
    rw [hl] at hk
    rw [hg k hk]; exact (plain_ok (view_ok h hk).1).1), hl]
  simp only [Option.bind_some]
  rw [lst_congr (G := fun k => PlainM (SeenM b (k : Int))) fun k hk => hg k (by omega)]

def ArePattM (b d : GBlock) : Bool := BlockOkM b && BlockOkM d && SameBlockM (PattM b) (PattM d)

theorem spec_ArePatternsSame_eq (b d : GBlock) : spec_ArePatternsSame b d = some (ArePattM b d) := by
  unfold spec_ArePatternsSame ArePattM
  simp only [spec_BlockOk_eq, spec_LeastPattern_eq, Option.bind_some]
  cases hb : BlockOkM b
  · rfl
  cases hd : BlockOkM d
  · rfl
  simp only [cond_true, spec_SameBlock_eq (blockOk_sm (patt_ok hb).1).1, Option.bind_some, Bool.true_and]

theorem impl_ArePatternsSame_eq (b d : GBlock) : impl_ArePatternsSame b d = some (ArePattM b d) := by
  unfold impl_ArePatternsSame ArePattM
  simp only [impl_BlockOk_eq, impl_LeastPattern_eq, Option.bind_some]
  cases hb : BlockOkM b
  · rfl
  cases hd : BlockOkM d
  · rfl
  simp only [cond_true, impl_SameBlock_eq (blockOk_sm (patt_ok hb).1).1, Option.bind_some, Bool.true_and]

def VerdictM (e f : GEntry) : Int := bif !EntOkM e || !EntOkM f || e.Block.Size != f.Block.Size then 0 else bif ArePattM e.Block f.Block then 3 else bif decide (wr (10 * PatLikeM e.Block f.Block) ≥ wr (36 * (e.Block.Cells.length : Int))) then 2 else 1
theorem verdict_cases (e f : GEntry) : VerdictM e f = 0 ∨ VerdictM e f = 1 ∨ VerdictM e f = 2 ∨ VerdictM e f = 3 := by
  unfold VerdictM
  cases !EntOkM e || !EntOkM f || e.Block.Size != f.Block.Size
  · cases ArePattM e.Block f.Block
    · cases decide (wr (10 * PatLikeM e.Block f.Block) ≥ wr (36 * (e.Block.Cells.length : Int))) <;> simp
    · simp
  · simp

theorem spec_VerdictOn_eq (e f : GEntry) : spec_VerdictOn e f = some (VerdictM e f) := by
  unfold spec_VerdictOn VerdictM
  simp only [spec_EntryOk_eq', spec_ArePatternsSame_eq, spec_PatternLikeness_eq, Option.bind_some]
  cases EntOkM e
  · rfl
  cases EntOkM f
  · rfl
  cases e.Block.Size != f.Block.Size
  · simp only [Bool.not_true, cond_false, Option.bind_some, Bool.or_self]
    cases ArePattM e.Block f.Block
    · cases decide (wr (10 * PatLikeM e.Block f.Block) ≥ wr (36 * (e.Block.Cells.length : Int))) <;> rfl
    · rfl
  · rfl

theorem impl_VerdictOn_eq (e f : GEntry) : impl_VerdictOn e f = some (VerdictM e f) := by
  unfold impl_VerdictOn VerdictM
  simp only [impl_EntryOk_eq', impl_ArePatternsSame_eq, impl_PatternLikeness_eq, Option.bind_some]
  cases EntOkM e
  · rfl
  cases EntOkM f
  · rfl
  cases e.Block.Size != f.Block.Size
  · simp only [Bool.not_true, cond_false, Option.bind_some, Bool.or_self]
    cases ArePattM e.Block f.Block
    · cases decide (wr (10 * PatLikeM e.Block f.Block) ≥ wr (36 * (e.Block.Cells.length : Int))) <;> rfl
    · rfl
  · rfl

def CopyM (e f : GEntry) : Bool := (e.Owner != f.Owner) && decide (e.Day > f.Day) && decide (VerdictM e f ≥ 2)

theorem spec_IsCopy_eq (e f : GEntry) : spec_IsCopy e f = some (CopyM e f) := by
  unfold spec_IsCopy CopyM
  simp only [spec_VerdictOn_eq, Option.bind_some]
  rcases verdict_cases e f with h | h | h | h <;> rw [h] <;> cases e.Owner != f.Owner <;> cases decide (e.Day > f.Day) <;> rfl

theorem impl_IsCopy_eq (e f : GEntry) : impl_IsCopy e f = some (CopyM e f) := by
  unfold impl_IsCopy CopyM
  simp only [impl_VerdictOn_eq, Option.bind_some]
  cases e.Owner != f.Owner <;> cases decide (e.Day > f.Day) <;> simp

/-- What it means that an entry was taken. -/
def SubmitTo (g : GGuild) (n d : Int) (b : GBlock) (w : GGuild × Bool) : Prop := (∀ k, k < g.Entries.length → CopyM ⟨n, d, b⟩ (gx g.Entries k) = false) ∧ w = ((⟨g.Members, g.Stock, g.Entries ++ [⟨n, d, b⟩], g.Books, g.Round, g.Year⟩ : GGuild), true) ∧ GuildOkM w.1 = true
theorem rx_Submit (g : GGuild) (n d : Int) (b : GBlock) (h : Sm.ok g) (hb : Sm.ok b) : ∃ w, spec_Submit g n d b = some w ∧ impl_Submit g n d b = some w ∧ Sm.ok w.1 ∧ (w = (g, false) ∨ SubmitTo g n d b w) := by
  have hgl := sm_GL h
  have hel : g.Entries.length ≤ 1048576 := h.2.2.1.1
  have hn : GL (⟨g.Members, g.Stock, g.Entries ++ [⟨n, d, b⟩], g.Books, g.Round, g.Year⟩ : GGuild) := ⟨hgl.1, hgl.2.1, by simp only [List.length_append, List.length_cons, List.length_nil]; omega, hgl.2.2.2⟩
  have hloop : ∀ f : Nat → Unit → Option (Res Unit (GGuild × Bool)), (∀ k, k < g.Entries.length → f k () = some (bif CopyM ⟨n, d, b⟩ (gx g.Entries k) then .ret (g, false) else .next ())) → forO f g.Entries.length 0 () = some (bif (List.range g.Entries.length).all (fun k => !CopyM ⟨n, d, b⟩ (gx g.Entries k)) then .inl () else .inr (g, false)) := fun f hf =>
    forO_all (f := f) (fun k => !CopyM ⟨n, d, b⟩ (gx g.Entries k)) fun k hk => by
      rw [hf k hk]
      cases CopyM ⟨n, d, b⟩ (gx g.Entries k) <;> rfl
  unfold spec_Submit impl_Submit
  simp only [spec_l38Copy_eq h, spec_l03Copy_sm hb, impl_Guild_copied_eq h, impl_Block_copied_sm hb, spec_GuildOk_eq g hgl, impl_GuildOk_eq g hgl, Option.bind_some]
  cases hg : GuildOkM g
  · exact ⟨(g, false), rfl, rfl, h, .inl rfl⟩
  simp only [Bool.not_true, cond_false]
  rw [gd_pos (p := g.Entries.length ≤ 4611686018427387904) (by omega), gd_pos (p := g.Entries.length ≤ 4611686018427387904) (by omega), hloop (spec_Submit_L1 g n d g b) (fun k hk => by
    simp only [spec_Submit_L1, spec_IsCopy_eq, Option.bind_some]
    cases CopyM ⟨n, d, b⟩ (gx g.Entries k) <;> rfl), hloop (impl_Submit_L1 g n d g b) (fun k hk => by
    have e : impl_IsCopy ⟨n, d, b⟩ ⟨(gx g.Entries k).Owner, (gx g.Entries k).Day, (gx g.Entries k).Block⟩ = some (CopyM ⟨n, d, b⟩ (gx g.Entries k)) := impl_IsCopy_eq _ _
    simp only [impl_Submit_L1, e, Option.bind_some]
    cases CopyM ⟨n, d, b⟩ (gx g.Entries k) <;> rfl)]
  cases hall : (List.range g.Entries.length).all fun k => !CopyM ⟨n, d, b⟩ (gx g.Entries k)
  · exact ⟨(g, false), rfl, rfl, h, .inl rfl⟩
  simp only [cond_true, sq_inl]
  rw [gd_pos (by omega), gd_pos (by omega)]
  simp only [spec_GuildOk_eq _ hn, impl_becomes_eq h hn, hg, Option.bind_some]
  cases hx : GuildOkM (⟨g.Members, g.Stock, g.Entries ++ [⟨n, d, b⟩], g.Books, g.Round, g.Year⟩ : GGuild)
  · exact ⟨(g, false), rfl, rfl, h, .inl rfl⟩
  · refine ⟨_, rfl, rfl, guildOk_sm hx, .inr ⟨fun k hk => ?_, rfl, hx⟩⟩
    rw [List.all_eq_true] at hall
    have := hall k (by simpa using hk)
    simpa using this

def ActOkM (a : GAct) : Bool := bif a.Kind == 1 then inR a.A 1 999 && (a.B == 0) else bif a.Kind == 2 then inR a.A 1 999 && inR a.B 0 9 else bif a.Kind == 3 || a.Kind == 6 then inR a.A 0 9 && (a.B == 0) else bif a.Kind == 4 || a.Kind == 5 then (a.A == 0) && (a.B == 0) else false

theorem spec_ActOk_eq (a : GAct) : spec_ActOk a = some (ActOkM a) := by
  unfold spec_ActOk ActOkM
  simp only [l01In_eq, Option.bind_some]
  cases a.Kind == 1
  · cases a.Kind == 2
    · cases a.Kind == 3 || a.Kind == 6
      · cases a.Kind == 4 || a.Kind == 5 <;> rfl
      · cases inR a.A 0 9 <;> rfl
    · cases inR a.A 1 999 <;> rfl
  · cases inR a.A 1 999 <;> rfl

theorem impl_ActOk_eq (a : GAct) : impl_ActOk a = some (ActOkM a) := by
  unfold impl_ActOk ActOkM
  simp only [within_eq, Option.bind_some]
  cases a.Kind == 1
  · cases a.Kind == 2
    · cases a.Kind == 3 || a.Kind == 6
      · cases a.Kind == 4 <;> cases a.Kind == 5 <;> rfl
      · cases inR a.A 0 9 <;> rfl
    · cases inR a.A 1 999 <;> rfl
  · cases inR a.A 1 999 <;> rfl

/-- How many are not used below n. -/
def freeN (used : List Bool) : Nat → Nat
  | 0 => 0
  | n + 1 => freeN used n + (bif gx used n then 0 else 1)
theorem freeN_mono (used : List Bool) {a : Nat} : ∀ {b : Nat}, a ≤ b → freeN used a ≤ freeN used b
  | 0, h => by
    have : a = 0 := by omega
    rw [this]; exact Nat.le_refl _
  | b + 1, h => by
    rcases Nat.lt_or_ge a (b + 1) with h1 | h1
    · exact Nat.le_trans (freeN_mono used (b := b) (by omega)) (by rw [freeN]; omega)
    · have : a = b + 1 := by omega
      rw [this]; exact Nat.le_refl _
theorem freeN_le (used : List Bool) : ∀ n, freeN used n ≤ n
  | 0 => Nat.le_refl _
  | n + 1 => by
    have := freeN_le used n
    rw [freeN]
    cases gx used n <;> simp <;> omega

def nof : List Bool := List.replicate 6 false
/-- The picks by marks are the picks by cutting. -/
def chkB1 : Bool := (List.range 6).all fun i => freeN nof i == i && gx nof i == false && pkM [1] i six == [(i : Int)]
def secB (a b : Nat) : Nat := bif decide (b < a) then b else b + 1
def chkB2 : Bool := (List.range 30).all fun i => freeN nof (i / 5) == i / 5 && gx nof (i / 5) == false && freeN (nof.set (i / 5) true) (secB (i / 5) (i % 5)) == i % 5 && gx (nof.set (i / 5) true) (secB (i / 5) (i % 5)) == false && pkM [5, 1] i six == [((i / 5 : Nat) : Int), ((secB (i / 5) (i % 5) : Nat) : Int)] && decide (secB (i / 5) (i % 5) < 6)
def u3 (i : Nat) : List Bool := nof.set (i / 20) true
def s3 (i : Nat) : Nat := secB (i / 20) (i % 20 / 4)
def v3 (i : Nat) : List Bool := (u3 i).set (s3 i) true
def t3 (i : Nat) : Nat := (pkM [20, 4, 1] i six)[2]!.toNat
def chkB3 : Bool := (List.range 120).all fun i => freeN nof (i / 20) == i / 20 && gx nof (i / 20) == false && freeN (u3 i) (s3 i) == i % 20 / 4 && gx (u3 i) (s3 i) == false && freeN (v3 i) (t3 i) == i % 20 % 4 && gx (v3 i) (t3 i) == false && pkM [20, 4, 1] i six == [((i / 20 : Nat) : Int), ((s3 i : Nat) : Int), ((t3 i : Nat) : Int)] && decide (s3 i < 6) && decide (t3 i < 6)
theorem chkB1_ok : chkB1 = true := by decide +kernel
theorem chkB2_ok : chkB2 = true := by decide +kernel
theorem chkB3_ok : chkB3 = true := by decide +kernel

theorem forO_tot {S C : Type} {f : Nat → S → Option (Res S C)} (I : S → Prop) : ∀ (m k : Nat) (s : S), I s → (∀ j s, k ≤ j → j < k + m → I s → ∃ s', I s' ∧ (f j s = some (.next s') ∨ f j s = some (.brk s'))) → ∃ s', I s' ∧ forO f m k s = some (.inl s')
  | 0, _, s, hs, _ => ⟨s, hs, rfl⟩
  | m + 1, k, s, hs, h => by
    obtain ⟨s', hs', h1 | h1⟩ := h k s (Nat.le_refl _) (by omega) hs
    · obtain ⟨s2, h2, e2⟩ := forO_tot I m (k + 1) s' hs' fun j s hj hj2 => h j s (by omega) (by omega)
      exact ⟨s2, h2, by rw [forO, h1]; exact e2⟩
    · exact ⟨s', hs', by rw [forO, h1]; rfl⟩
theorem lpO_tot {S : Type} {f : Nat → S → Option (Res S Empty)} (I : S → Prop) {N : Nat} {s0 : S} (h0 : I s0) (h : ∀ j s, j < N → I s → ∃ s', I s' ∧ (f j s = some (.next s') ∨ f j s = some (.brk s'))) : ∃ s', I s' ∧ lpO f N s0 = some s' := by
  obtain ⟨s', h1, h2⟩ := forO_tot I N 0 s0 h0 fun j s _ hj => h j s (by omega)
  exact ⟨s', h1, by unfold lpO; rw [h2]; rfl⟩

/-- The cursor stands in the code. -/
def CurOk (c : List UInt8) (i : Int) : Prop := c.length ≤ 1048576 ∧ 0 ≤ i ∧ i ≤ c.length
theorem andI_255 (x : Int) : 0 ≤ andI x 255 ∧ andI x 255 ≤ 255 := by
  have h : (BitVec.ofInt 64 x &&& BitVec.ofInt 64 255).toNat ≤ 255 := by
    rw [BitVec.toNat_and]
    exact Nat.le_trans Nat.and_le_right (by decide)
  unfold andI
  rw [wr_of (by omega) (by omega)]
  omega
theorem u8_range (x : UInt8) : 0 ≤ (x.toNat : Int) ∧ (x.toNat : Int) ≤ 255 := by
  have := x.toNat_lt
  omega

theorem draw_New {c : List UInt8} (h : c.length ≤ 1048576) : ∃ g, spec_l01New c = some (0, g) ∧ CurOk c 0 := by
  obtain ⟨g, _, e⟩ := lpO_tot (f := spec_l01New_L1 c) (N := c.length) (s0 := wr (33041 + ((c.length : Nat) : Int))) (fun _ => True) trivial fun j s _ _ => by
    unfold spec_l01New_L1
    cases decide (((j : Nat) : Int) < 4000)
    · exact ⟨s, trivial, .inr rfl⟩
    · exact ⟨_, trivial, .inl rfl⟩
  refine ⟨g, ?_, h, by omega, by omega⟩
  unfold spec_l01New
  rw [gd_pos (by omega), e]
  rfl

theorem draw_Byte {c : List UInt8} {i g : Int} (h : CurOk c i) : ∃ x i' g', spec_l01Byte c i g = some (x, i', g') ∧ CurOk c i' ∧ 0 ≤ x ∧ x ≤ 255 := by
  obtain ⟨h0, h1, h2⟩ := h
  unfold spec_l01Byte
  by_cases hi : i < c.length
  · have e : decide (i < ((c.length : Nat) : Int)) = true := decide_eq_true hi
    simp only [e, cond_true]
    rw [gd_pos ⟨h1, hi⟩]
    have ew : wr (i + 1) = i + 1 := wr_of (by omega) (by omega)
    refine ⟨_, _, _, rfl, ⟨h0, ?_, ?_⟩, (andI_255 _).1, (andI_255 _).2⟩ <;> simp only [ew] <;> omega
  · have e : decide (i < ((c.length : Nat) : Int)) = false := decide_eq_false hi
    simp only [e, cond_false]
    exact ⟨_, _, _, rfl, ⟨h0, h1, h2⟩, (andI_255 _).1, (andI_255 _).2⟩

theorem draw_Below {c : List UInt8} {i g n : Int} (h : CurOk c i) (hn : n ≤ 1048576) : ∃ x i' g', spec_l01Below c i g n = some (x, i', g') ∧ CurOk c i' ∧ 0 ≤ x ∧ (0 < n → x < n) ∧ (n ≤ 0 → x = 0) := by
  unfold spec_l01Below
  by_cases h0 : n ≤ 0
  · rw [decide_eq_true h0, cond_true]
    exact ⟨0, i, g, rfl, h, by omega, by omega, fun _ => rfl⟩
  rw [decide_eq_false h0, cond_false]
  by_cases h1 : n ≤ 256
  · obtain ⟨x, i1, g1, e, hc, x0, x1⟩ := draw_Byte (g := g) h
    rw [decide_eq_true h1, cond_true, e]
    simp only [Option.bind_some]
    rw [gd_pos (by omega)]
    have hr := Int.tmod_lt_of_pos x (show 0 < n by omega)
    have hr0 := Int.tmod_nonneg n x0
    exact ⟨_, _, _, rfl, hc, hr0, fun _ => hr, fun hh => absurd hh (by omega)⟩
  · obtain ⟨x, i1, g1, e1, c1, x0, x1⟩ := draw_Byte (g := g) h
    obtain ⟨y, i2, g2, e2, c2, y0, y1⟩ := draw_Byte (g := g1) c1
    obtain ⟨z, i3, g3, e3, c3, z0, z1⟩ := draw_Byte (g := g2) c2
    obtain ⟨u, i4, g4, e4, c4, u0, u1⟩ := draw_Byte (g := g3) c3
    rw [decide_eq_false h1, cond_false, e1]
    simp only [Option.bind_some, e2, e3, e4]
    rw [gd_pos (by omega)]
    have w1 : wr (x * 16777216) = x * 16777216 := wr_of (by omega) (by omega)
    have w2 : wr (y * 65536) = y * 65536 := wr_of (by omega) (by omega)
    have w3 : wr (z * 256) = z * 256 := wr_of (by omega) (by omega)
    have w4 : wr (x * 16777216 + y * 65536) = x * 16777216 + y * 65536 := wr_of (by omega) (by omega)
    have w5 : wr (x * 16777216 + y * 65536 + z * 256) = x * 16777216 + y * 65536 + z * 256 := wr_of (by omega) (by omega)
    have w6 : wr (x * 16777216 + y * 65536 + z * 256 + u) = x * 16777216 + y * 65536 + z * 256 + u := wr_of (by omega) (by omega)
    have hr := Int.tmod_lt_of_pos (x * 16777216 + y * 65536 + z * 256 + u) (show 0 < n by omega)
    have hr0 := Int.tmod_nonneg n (show 0 ≤ x * 16777216 + y * 65536 + z * 256 + u by omega)
    refine ⟨_, _, _, rfl, c4, ?_, fun _ => ?_, fun hh => absurd hh (by omega)⟩
    · simp only [w1, w2, w3, w4, w5, w6]; exact hr0
    · simp only [w1, w2, w3, w4, w5, w6]; exact hr

theorem forO_inv {S C : Type} {f : Nat → S → Option (Res S C)} (I : Nat → S → Prop) : ∀ (m k : Nat) (s : S), I k s → (∀ j s, k ≤ j → j < k + m → I j s → ∃ s', I (j + 1) s' ∧ f j s = some (.next s')) → ∃ s', I (k + m) s' ∧ forO f m k s = some (.inl s')
  | 0, _, s, hs, _ => ⟨s, hs, rfl⟩
  | m + 1, k, s, hs, h => by
    obtain ⟨s', hs', h1⟩ := h k s (Nat.le_refl _) (by omega) hs
    obtain ⟨s2, h2, e2⟩ := forO_inv I m (k + 1) s' hs' fun j s hj hj2 => h j s (by omega) (by omega)
    exact ⟨s2, by rw [show k + (m + 1) = k + 1 + m by omega]; exact h2, by rw [forO, h1]; exact e2⟩
theorem lpO_inv2 {S : Type} {f : Nat → S → Option (Res S Empty)} (I : Nat → S → Prop) {N : Nat} {s0 : S} (h0 : I 0 s0) (h : ∀ j s, j < N → I j s → ∃ s', I (j + 1) s' ∧ f j s = some (.next s')) : ∃ s', I N s' ∧ lpO f N s0 = some s' := by
  obtain ⟨s', h1, h2⟩ := forO_inv I N 0 s0 h0 fun j s _ hj => h j s (by omega)
  exact ⟨s', by rw [Nat.zero_add] at h1; exact h1, by unfold lpO; rw [h2]; rfl⟩

theorem draw_Cell {c : List UInt8} {i g : Int} (h : CurOk c i) : ∃ x i' g', spec_l02Cell c i g = some (x, i', g') ∧ CurOk c i' ∧ CellOkM x = true := by
  obtain ⟨x, i1, g1, e1, c1, _⟩ := draw_Below (g := g) (n := 3) h (by omega)
  obtain ⟨y, i2, g2, e2, c2, _⟩ := draw_Below (g := g1) (n := 3) c1 (by omega)
  obtain ⟨z, i3, g3, e3, c3, _⟩ := draw_Below (g := g2) (n := 3) c2 (by omega)
  unfold spec_l02Cell
  rw [e1]
  simp only [Option.bind_some, e2, e3, spec_SplitCell_eq]
  exact ⟨_, _, _, rfl, c3, splitCell_ok _ _ _⟩

theorem whO_down {S C : Type} {f : S → Option (Res S C)} (I : S → Prop) (ct : S → Nat) (h : ∀ s, I s → (∃ s', I s' ∧ ct s' < ct s ∧ f s = some (.next s')) ∨ ∃ s', I s' ∧ f s = some (.brk s')) : ∀ (n fuel : Nat) (s : S), I s → ct s ≤ n → n < fuel → ∃ s', I s' ∧ whO f fuel s = some (.inl s')
  | _, 0, _, _, _, hf => absurd hf (by omega)
  | n, fuel + 1, s, hs, hn, hf => by
    rcases h s hs with ⟨s', h1, h2, h3⟩ | ⟨s', h1, h3⟩
    · cases n with
      | zero => omega
      | succ n =>
        obtain ⟨s2, k1, k2⟩ := whO_down I ct h n fuel s' h1 (by omega) (by omega)
        exact ⟨s2, k1, by rw [whO, h3]; exact k2⟩
    · exact ⟨s', h1, by rw [whO, h3]; rfl⟩

theorem book_true {xs : List GBooking} {b : GBooking} (h : (BookM xs b).2 = true) : (BookM xs b).1 = xs ++ [b] := by
  unfold BookM at h ⊢
  cases hc : LedgerOkM xs && LedgerOkM (xs ++ [b])
  · rw [hc] at h; cases h
  · rfl

theorem gx_last {α : Type} [Rep α] (l : List α) (x : α) : gx (l ++ [x]) l.length = x := by
  have := gx_mid l [] x rfl
  simpa using this

/-- No entry is a copy of an older one. -/
def NoCopy (xs : List GEntry) : Prop := ∀ k, k < xs.length → ∀ m, m < k → CopyM (gx xs k) (gx xs m) = false
/-- A guild with a history of its own. -/
def Hist (g : GGuild) : Prop := GuildOkM g = true ∧ NoCopy g.Entries ∧ ∀ b ∈ g.Books, b.From = 0 ∧ b.To = 1 ∧ b.Sum = 20
theorem hist_of {g x : GGuild} (h : Hist g) (he : x.Entries = g.Entries) (hb : x.Books = g.Books) (ok : GuildOkM x = true) : Hist x := ⟨ok, by rw [he]; exact h.2.1, by rw [hb]; exact h.2.2⟩

theorem guild_stock {g : GGuild} {s : List Int} (h : GuildOkM g = true) (hs : StockOkM s = true) : GuildOkM (⟨g.Members, s, g.Entries, g.Books, g.Round, g.Year⟩ : GGuild) = true := by
  simp only [GuildOkM, Bool.and_eq_true] at h ⊢
  obtain ⟨⟨⟨⟨⟨⟨a, _⟩, c⟩, d⟩, e⟩, f⟩, i⟩ := h
  exact ⟨⟨⟨⟨⟨⟨a, hs⟩, c⟩, d⟩, e⟩, f⟩, i⟩

theorem hist_admit {g : GGuild} {n : Int} {w : GGuild × Bool} (h : Hist g) (hw : w = (g, false) ∨ AdmitTo g n w) : Hist w.1 := by
  rcases hw with rfl | ⟨r, d, _, _, _, hb, rfl, hok⟩
  · exact h
  · refine ⟨hok, h.2.1, fun b hbm => ?_⟩
    have hbm' : b ∈ (BookM g.Books ⟨d, 0, 1, 20⟩).1 := hbm
    rw [book_true hb, List.mem_append, List.mem_singleton] at hbm'
    rcases hbm' with hh | rfl
    · exact h.2.2 b hh
    · exact ⟨rfl, rfl, rfl⟩

theorem hist_submit {g : GGuild} {n d : Int} {b : GBlock} {w : GGuild × Bool} (h : Hist g) (hw : w = (g, false) ∨ SubmitTo g n d b w) : Hist w.1 := by
  rcases hw with rfl | ⟨hno, rfl, hok⟩
  · exact h
  · refine ⟨hok, fun k hk m hm => ?_, h.2.2⟩
    simp only [List.length_append, List.length_cons, List.length_nil] at hk
    show CopyM (gx (g.Entries ++ [⟨n, d, b⟩]) k) (gx (g.Entries ++ [⟨n, d, b⟩]) m) = false
    by_cases hkl : k < g.Entries.length
    · rw [gx_append_left hkl, gx_append_left (show m < g.Entries.length by omega)]
      exact h.2.1 k hkl m hm
    · have e : k = g.Entries.length := by omega
      subst e
      rw [gx_last, gx_append_left hm]
      exact hno m hm

theorem new_ok {y : Int} (h1 : 1900 ≤ y) (h2 : y ≤ 2999) : spec_NewGuild y = some ((⟨[], [1000, 1000, 1000, 1000, 1000, 1000], [], [], 0, y⟩ : GGuild), true) ∧ Hist (⟨[], [1000, 1000, 1000, 1000, 1000, 1000], [], [], 0, y⟩ : GGuild) := by
  have hg : GL (⟨[], [1000, 1000, 1000, 1000, 1000, 1000], [], [], 0, y⟩ : GGuild) := ⟨by simp, by simp, by simp, by simp⟩
  have hl : lpO spec_NewGuild_L1 6 ([] : List Int) = some [1000, 1000, 1000, 1000, 1000, 1000] := rfl
  have hk : GuildOkM (⟨[], [1000, 1000, 1000, 1000, 1000, 1000], [], [], 0, y⟩ : GGuild) = true := by
    simp [GuildOkM, RoundsM, GoodM, StockOkM, MembersOkM, LedgerOkM, inR, h1, h2]
  refine ⟨?_, hk, fun k hk => by simp at hk, fun b hb => by simp at hb⟩
  unfold spec_NewGuild
  rw [hl]
  simp only [Option.bind_some, spec_GuildOk_eq _ hg, hk]
  rfl

theorem sample_hist : ∃ w, spec_SampleGuild = some w ∧ Hist w := by
  obtain ⟨n1, n3⟩ := new_ok (y := 2020) (by omega) (by omega)
  obtain ⟨s, s1, s2⟩ := lpO_inv2 (f := spec_SampleGuild_L1) (N := 3) (s0 := (([] : List GMember), [1000, 1000, 1000, 1000, 1000, 1000], ([] : List GEntry), ([] : List GBooking), 0, 2020)) (fun _ s => Hist ⟨s.1, s.2.1, s.2.2.1, s.2.2.2.1, s.2.2.2.2.1, s.2.2.2.2.2⟩) n3 fun k s hk hs => by
    obtain ⟨v, v1, _, _, v4⟩ := rx_Admit ⟨s.1, s.2.1, s.2.2.1, s.2.2.2.1, s.2.2.2.2.1, s.2.2.2.2.2⟩ ((k + 1 : Nat) : Int) (guildOk_sm hs.1)
    unfold spec_SampleGuild_L1
    rw [v1]
    have hv : Hist v.1 := hist_admit hs v4
    exact ⟨(v.1.Members, v.1.Stock, v.1.Entries, v.1.Books, v.1.Round, v.1.Year), hv, rfl⟩
  unfold spec_SampleGuild
  rw [n1]
  simp only [Option.bind_some]
  rw [s2]
  exact ⟨_, rfl, s1⟩

theorem wlO_down {S : Type} {f : S → Option (Res S Empty)} (I : S → Prop) (ct : S → Nat) (h : ∀ s, I s → (∃ s', I s' ∧ ct s' < ct s ∧ f s = some (.next s')) ∨ ∃ s', I s' ∧ f s = some (.brk s')) {fuel : Nat} {s : S} (hs : I s) (hf : ct s < fuel) : ∃ s', I s' ∧ wlO f fuel s = some s' := by
  obtain ⟨s', h1, h2⟩ := whO_down I ct h (ct s) fuel s hs (Nat.le_refl _) hf
  exact ⟨s', h1, by unfold wlO; rw [h2]; rfl⟩

theorem pay_num {xs : List GMember} {n : Int} {x : GMember} (h : x ∈ (PayM xs n).1) : ∃ y ∈ xs, x.Number = y.Number := by
  unfold PayM at h
  cases hc : MembersOkM xs && xs.any (fun m => m.Number == n) && MembersOkM (xs.map (dueM n))
  · rw [hc] at h
    exact ⟨x, h, rfl⟩
  · rw [hc, cond_true] at h
    obtain ⟨y, hy, rfl⟩ := List.mem_map.1 h
    refine ⟨y, hy, ?_⟩
    unfold dueM
    cases y.Number == n <;> rfl
/-- A guild with few members, bookings and days. -/
def Few (g : GGuild) (m : Int) : Prop := (∀ x ∈ g.Members, x.Number ≤ 8) ∧ (g.Members.length : Int) ≤ m ∧ (g.Books.length : Int) ≤ m ∧ g.Year ≤ 2100 ∧ ∀ e ∈ g.Entries, e.Day ≤ 100
theorem few_admit {g : GGuild} {n m : Int} {w : GGuild × Bool} (hs : Sm.ok g) (h : Few g m) (hn : n ≤ 8) (hw : w = (g, false) ∨ AdmitTo g n w) : Few w.1 (m + 1) := by
  obtain ⟨f1, f2, f3, f4, f5⟩ := h
  rcases hw with rfl | ⟨r, d, e1, _, _, _, rfl, _⟩
  · exact ⟨f1, by simp only; omega, by simp only; omega, f4, f5⟩
  · obtain ⟨r', _, _, q1, q2, _, q3, _⟩ := rx_join g.Members n g.Year hs.1.1
    rw [e1] at q2
    cases q2
    have pl := pay_len r.1 n
    have bl := book_len g.Books ⟨d, 0, 1, 20⟩
    refine ⟨fun x hx => ?_, ?_, ?_, f4, f5⟩
    · obtain ⟨y, hy, e⟩ := pay_num hx
      rw [e]
      rcases q3 y hy with h | h
      · exact f1 y h
      · omega
    · show (((PayM r.1 n).1.length : Nat) : Int) ≤ m + 1
      omega
    · show (((BookM g.Books ⟨d, 0, 1, 20⟩).1.length : Nat) : Int) ≤ m + 1
      omega
theorem few_submit {g : GGuild} {n d m : Int} {b : GBlock} {w : GGuild × Bool} (h : Few g m) (hd : d ≤ 100) (hw : w = (g, false) ∨ SubmitTo g n d b w) : Few w.1 m := by
  obtain ⟨f1, f2, f3, f4, f5⟩ := h
  rcases hw with rfl | ⟨_, rfl, _⟩
  · exact ⟨f1, f2, f3, f4, f5⟩
  · refine ⟨f1, f2, f3, f4, fun e he => ?_⟩
    rcases List.mem_append.1 he with he | he
    · exact f5 e he
    · rw [List.mem_singleton.1 he]; exact hd

theorem draw_Stock {c : List UInt8} {i g : Int} (h : CurOk c i) : ∃ l i' g', spec_l31Stock c i g 60 = some (l, i', g') ∧ CurOk c i' ∧ StockOkM l = true := by
  obtain ⟨s, ⟨s1, s2, s3⟩, es⟩ := lpO_inv2 (f := spec_l31Stock_L1 c 60) (N := 6) (s0 := (([] : List Int), i, g)) (fun k s => s.1.length = k ∧ CurOk c s.2.1 ∧ ∀ x ∈ s.1, inR x 0 1000000 = true) ⟨rfl, h, by simp⟩ fun k s hk hs => by
    obtain ⟨s1, s2, s3⟩ := hs
    obtain ⟨x, i1, g1, e1, c1, x0, x1, _⟩ := draw_Below (g := s.2.2) (n := 60) s2 (by omega)
    have x2 := x1 (by omega)
    unfold spec_l31Stock_L1
    rw [e1]
    simp only [Option.bind_some]
    rw [gd_pos (by omega)]
    refine ⟨_, ⟨by simp [s1], c1, fun z hz => ?_⟩, rfl⟩
    rcases List.mem_append.1 hz with hz | hz
    · exact s3 z hz
    · rw [List.mem_singleton.1 hz]; exact inR_iff.2 ⟨x0, by omega⟩
  unfold spec_l31Stock
  rw [es]
  refine ⟨_, _, _, rfl, s2, ?_⟩
  simp only [StockOkM, Bool.and_eq_true, List.all_eq_true, beq_iff_eq]
  exact ⟨s3, by omega⟩

def g8 (t : (List GMember) × (List Int) × (List GEntry) × (List GBooking) × Int × Int) : GGuild := ⟨t.1, t.2.1, t.2.2.1, t.2.2.2.1, t.2.2.2.2.1, t.2.2.2.2.2⟩
theorem draw_admits {c : List UInt8} {k i g : Int} {t : (List GMember) × (List Int) × (List GEntry) × (List GBooking) × Int × Int} (h : CurOk c i) (k0 : 0 ≤ k) (k1 : k ≤ 4) (ht : Hist (g8 t)) (hf : Few (g8 t) (4 - k)) : ∃ s, wlO (spec_l38Guild_L1 c) 18446744073709551616 (k, i, g, t) = some s ∧ CurOk c s.2.1 ∧ Hist (g8 s.2.2.2) ∧ Few (g8 s.2.2.2) 4 := by
  obtain ⟨s, ⟨s1, s2, s3, _, s5⟩, es⟩ := wlO_down (f := spec_l38Guild_L1 c) (fun s => CurOk c s.2.1 ∧ Hist (g8 s.2.2.2) ∧ 0 ≤ s.1 ∧ s.1 ≤ 4 ∧ Few (g8 s.2.2.2) (4 - s.1)) (fun s => s.1.toNat) (fun s hs => by
    obtain ⟨s1, s2, s3, s4, s5⟩ := hs
    unfold spec_l38Guild_L1
    by_cases hp : s.1 > 0
    · left
      obtain ⟨x, i1, g1, e1, c1, x0, x1, _⟩ := draw_Below (g := s.2.2.1) (n := 8) s1 (by omega)
      have ew : wr (s.1 - 1) = s.1 - 1 := wr_of (by omega) (by omega)
      obtain ⟨v, v1, _, _, v4⟩ := rx_Admit (g8 s.2.2.2) (wr (1 + x)) (guildOk_sm s2.1)
      rw [decide_eq_true hp, cond_true, e1]
      simp only [Option.bind_some]
      unfold g8 at v1
      rw [v1]
      have hv : Hist v.1 := hist_admit s2 v4
      have x2 := x1 (by omega)
      have hq : Few v.1 (4 - s.1 + 1) := few_admit (guildOk_sm s2.1) s5 (by rw [wr_of (by omega) (by omega)]; omega) v4
      refine ⟨(wr (s.1 - 1), i1, g1, v.1.Members, v.1.Stock, v.1.Entries, v.1.Books, v.1.Round, v.1.Year), ⟨c1, hv, by simp only [ew]; omega, by simp only [ew]; omega, by simp only [ew]; rw [show 4 - (s.1 - 1) = 4 - s.1 + 1 by omega]; exact hq⟩, by simp only [ew]; omega, rfl⟩
    · right
      rw [decide_eq_false hp, cond_false]
      exact ⟨s, ⟨s1, s2, s3, s4, s5⟩, rfl⟩) (s := (k, i, g, t)) (fuel := 18446744073709551616) ⟨h, ht, k0, k1, hf⟩ (by simp only; omega)
  exact ⟨s, es, s1, s2, s5.1, by have := s5.2.1; omega, by have := s5.2.2.1; omega, s5.2.2.2⟩

theorem draw_cells4 {c : List UInt8} {i g : Int} (h : CurOk c i) : ∃ s, lpO (spec_l38Guild_L3 c) 4 (([] : List GCell), i, g) = some s ∧ CurOk c s.2.1 ∧ s.1.length = 4 ∧ ∀ x ∈ s.1, CellOkM x = true := by
  obtain ⟨s, ⟨s1, s2, s3⟩, es⟩ := lpO_inv2 (f := spec_l38Guild_L3 c) (N := 4) (s0 := (([] : List GCell), i, g)) (fun k s => s.1.length = k ∧ CurOk c s.2.1 ∧ ∀ x ∈ s.1, CellOkM x = true) ⟨rfl, h, by simp⟩ fun k s hk hs => by
    obtain ⟨s1, s2, s3⟩ := hs
    obtain ⟨y, i3, g3, e3, c3, hy⟩ := draw_Cell (g := s.2.2) s2
    unfold spec_l38Guild_L3
    rw [e3]
    simp only [Option.bind_some]
    rw [gd_pos (by omega)]
    refine ⟨_, ⟨by simp [s1], c3, fun z hz => ?_⟩, rfl⟩
    rcases List.mem_append.1 hz with hz | hz
    · exact s3 z hz
    · rw [List.mem_singleton.1 hz]; exact hy
  exact ⟨s, es, s2, s1, s3⟩

theorem draw_submits {c : List UInt8} {d k i g : Int} {t : (List GMember) × (List Int) × (List GEntry) × (List GBooking) × Int × Int} (h : CurOk c i) (k0 : 0 ≤ k) (k1 : k ≤ 3) (ht : Hist (g8 t)) (hf : Few (g8 t) 4) (d0 : 0 ≤ d) (dk : d + 2 * k ≤ 6) : ∃ s, wlO (spec_l38Guild_L2 c) 18446744073709551616 (d, k, i, g, t) = some s ∧ CurOk c s.2.2.1 ∧ Hist (g8 s.2.2.2.2) ∧ Few (g8 s.2.2.2.2) 4 := by
  obtain ⟨s, ⟨s1, s2, _, _, s5, _⟩, es⟩ := wlO_down (f := spec_l38Guild_L2 c) (fun s => CurOk c s.2.2.1 ∧ Hist (g8 s.2.2.2.2) ∧ 0 ≤ s.2.1 ∧ s.2.1 ≤ 3 ∧ Few (g8 s.2.2.2.2) 4 ∧ 0 ≤ s.1 ∧ s.1 + 2 * s.2.1 ≤ 6) (fun s => s.2.1.toNat) (fun s hs => by
    obtain ⟨s1, s2, s3, s4, s5, s6, s7⟩ := hs
    unfold spec_l38Guild_L2
    by_cases hp : s.2.1 > 0
    · by_cases hm : ((s.2.2.2.2.1.length : Nat) : Int) > 0
      · left
        have hml : s.2.2.2.2.1.length ≤ 40 := memOk_len (guild_parts s2.1).1
        obtain ⟨x, i1, g1, e1, c1, x0, x1, _⟩ := draw_Below (g := s.2.2.2.1) (n := 3) s1 (by omega)
        obtain ⟨q, e2, c2, q1, _⟩ := draw_cells4 (g := g1) c1
        obtain ⟨y, i3, g3, e3, c3, y0, y1, _⟩ := draw_Below (g := q.2.2) (n := ((s.2.2.2.2.1.length : Nat) : Int)) c2 (by omega)
        have y2 := y1 (by omega)
        have ew : wr (s.2.1 - 1) = s.2.1 - 1 := wr_of (by omega) (by omega)
        obtain ⟨v, v1, _, _, v4⟩ := rx_Submit (g8 s.2.2.2.2) (gx s.2.2.2.2.1 y.toNat).Number (wr (s.1 + x)) ⟨2, q.1⟩ (guildOk_sm s2.1) ⟨by simp only; omega, fun _ _ => trivial⟩
        rw [decide_eq_true hp, decide_eq_true hm, Bool.and_self, cond_true, e1]
        simp only [Option.bind_some]
        rw [e2]
        simp only [Option.bind_some]
        rw [e3]
        simp only [Option.bind_some]
        rw [gd_pos ⟨y0, y2⟩]
        unfold g8 at v1
        rw [v1]
        have hv : Hist v.1 := hist_submit s2 v4
        have x2 := x1 (by omega)
        have ex : wr (s.1 + x) = s.1 + x := wr_of (by omega) (by omega)
        have hq : Few v.1 4 := few_submit s5 (by omega) v4
        refine ⟨(wr (s.1 + x), wr (s.2.1 - 1), i3, g3, v.1.Members, v.1.Stock, v.1.Entries, v.1.Books, v.1.Round, v.1.Year), ⟨c3, hv, by simp only [ew]; omega, by simp only [ew]; omega, hq, by simp only [ex]; omega, by simp only [ew, ex]; omega⟩, by simp only [ew]; omega, rfl⟩
      · right
        rw [decide_eq_false hm, Bool.and_false, cond_false]
        exact ⟨s, ⟨s1, s2, s3, s4, s5, s6, s7⟩, rfl⟩
    · right
      rw [decide_eq_false hp, Bool.false_and, cond_false]
      exact ⟨s, ⟨s1, s2, s3, s4, s5, s6, s7⟩, rfl⟩) (s := (d, k, i, g, t)) (fuel := 18446744073709551616) ⟨h, ht, k0, k1, hf, d0, dk⟩ (by simp only; omega)
  exact ⟨s, es, s1, s2, s5⟩

theorem draw_rounds {k : Int} {t : (List GMember) × (List Int) × (List GEntry) × (List GBooking) × Int × Int} (k0 : 0 ≤ k) (k1 : k ≤ 3) (ht : Hist (g8 t)) (hf : Few (g8 t) 4) : ∃ s, wlO spec_l38Guild_L4 18446744073709551616 (k, t) = some s ∧ Hist (g8 s.2) ∧ Few (g8 s.2) 4 := by
  obtain ⟨s, ⟨s2, _, _, s5⟩, es⟩ := wlO_down (f := spec_l38Guild_L4) (fun s => Hist (g8 s.2) ∧ 0 ≤ s.1 ∧ s.1 ≤ 3 ∧ Few (g8 s.2) 4) (fun s => s.1.toNat) (fun s hs => by
    obtain ⟨s2, s3, s4, s5⟩ := hs
    unfold spec_l38Guild_L4
    by_cases hp : s.1 > 0
    · left
      have ew : wr (s.1 - 1) = s.1 - 1 := wr_of (by omega) (by omega)
      obtain ⟨v, v1, _, _, v4⟩ := rx_SwapRound (g8 s.2) (guildOk_sm s2.1)
      have hv : Hist v.1 := by
        rcases v4 with rfl | ⟨rfl, ok⟩
        · exact s2
        · exact hist_of s2 rfl rfl ok
      have hq : Few v.1 4 := by
        rcases v4 with rfl | ⟨rfl, ok⟩
        · exact s5
        · exact s5
      rw [decide_eq_true hp, cond_true]
      unfold g8 at v1
      rw [v1]
      refine ⟨(wr (s.1 - 1), v.1.Members, v.1.Stock, v.1.Entries, v.1.Books, v.1.Round, v.1.Year), ⟨hv, by simp only [ew]; omega, by simp only [ew]; omega, hq⟩, by simp only [ew]; omega, rfl⟩
    · right
      rw [decide_eq_false hp, cond_false]
      exact ⟨s, ⟨s2, s3, s4, s5⟩, rfl⟩) (s := (k, t)) (fuel := 18446744073709551616) ⟨ht, k0, k1, hf⟩ (by simp only; omega)
  exact ⟨s, es, s2, s5⟩

theorem draw_Guild {c : List UInt8} {i g : Int} (h : CurOk c i) : ∃ q i' g', spec_l38Guild c i g = some (q, i', g') ∧ CurOk c i' ∧ Hist q ∧ Few q 4 := by
  obtain ⟨x1, i1, g1, e1, c1, a1, b1, _⟩ := draw_Below (g := g) (n := 20) h (by omega)
  have b1' := b1 (by omega)
  obtain ⟨n1, n2⟩ := new_ok (y := wr (2000 + x1)) (by rw [wr_of (by omega) (by omega)]; omega) (by rw [wr_of (by omega) (by omega)]; omega)
  obtain ⟨x2, i2, g2, e2, c2, a2, b2, _⟩ := draw_Below (g := g1) (n := 5) c1 (by omega)
  have b2' := b2 (by omega)
  have nf : Few (g8 (([] : List GMember), [1000, 1000, 1000, 1000, 1000, 1000], ([] : List GEntry), ([] : List GBooking), 0, wr (2000 + x1))) (4 - x2) := ⟨fun x hx => (by cases hx), (by show ((0 : Nat) : Int) ≤ _; omega), (by show ((0 : Nat) : Int) ≤ _; omega), (by show wr (2000 + x1) ≤ 2100; rw [wr_of (by omega) (by omega)]; omega), fun e he => (by cases he)⟩
  obtain ⟨s1, e3, c3, h3, f3⟩ := draw_admits (g := g2) (t := (([] : List GMember), [1000, 1000, 1000, 1000, 1000, 1000], ([] : List GEntry), ([] : List GBooking), 0, wr (2000 + x1))) c2 a2 (by omega) n2 nf
  obtain ⟨x4, i4, g4, e4, c4, a4, b4, _⟩ := draw_Below (g := s1.2.2.1) (n := 4) c3 (by omega)
  have b4' := b4 (by omega)
  obtain ⟨s2, e5, c5, h5, f5⟩ := draw_submits (d := 0) (g := g4) (t := s1.2.2.2) c4 a4 (by omega) h3 f3 (by omega) (by omega)
  obtain ⟨x6, i6, g6, e6, c6, a6, b6, _⟩ := draw_Below (g := s2.2.2.2.1) (n := 4) c5 (by omega)
  have b6' := b6 (by omega)
  obtain ⟨s3, e7, h7, f7⟩ := draw_rounds (k := x6) (t := s2.2.2.2.2) a6 (by omega) h5 f5
  obtain ⟨x8, i8, g8', e8, c8, _⟩ := draw_Below (g := g6) (n := 3) c6 (by omega)
  unfold spec_l38Guild
  rw [e1]
  simp only [Option.bind_some]
  rw [n1]
  simp only [Option.bind_some]
  rw [e2]
  simp only [Option.bind_some]
  rw [e3]
  simp only [Option.bind_some]
  rw [e4]
  simp only [Option.bind_some]
  rw [e5]
  simp only [Option.bind_some]
  rw [e6]
  simp only [Option.bind_some]
  rw [e7]
  simp only [Option.bind_some]
  unfold spec_l01Once
  rw [e8]
  simp only [Option.bind_some]
  cases hx : x8 == 0
  · simp only [cond_false, Option.bind_some]
    exact ⟨_, _, _, rfl, c8, h7, f7⟩
  · obtain ⟨l, i9, g9, e9, c9, hl⟩ := draw_Stock (g := g8') c8
    simp only [cond_true, e9, Option.bind_some]
    exact ⟨_, _, _, rfl, c9, hist_of h7 rfl rfl (guild_stock h7.1 hl), f7⟩

theorem draw_Act {c : List UInt8} {i g : Int} (h : CurOk c i) : ∃ a i' g', spec_l39Act c i g = some (a, i', g') ∧ CurOk c i' ∧ ActOkM a = true := by
  obtain ⟨x, i1, g1, e1, c1, _⟩ := draw_Below (g := g) (n := 8) h (by omega)
  unfold spec_l39Act
  rw [e1]
  simp only [Option.bind_some]
  cases x == 0
  · cases x == 1 || x == 2
    · cases x == 3
      · cases x == 4 || x == 5
        · cases x == 6
          · obtain ⟨y, i2, g2, e2, c2, y0, y1, _⟩ := draw_Below (g := g1) (n := 4) c1 (by omega)
            have y2 := y1 (by omega)
            simp only [cond_false, e2, Option.bind_some]
            exact ⟨_, _, _, rfl, c2, by unfold ActOkM; simp [inR]; omega⟩
          · exact ⟨_, _, _, rfl, c1, by decide⟩
        · exact ⟨_, _, _, rfl, c1, by decide⟩
      · obtain ⟨y, i2, g2, e2, c2, y0, y1, _⟩ := draw_Below (g := g1) (n := 4) c1 (by omega)
        have y2 := y1 (by omega)
        simp only [cond_false, cond_true, e2, Option.bind_some]
        exact ⟨_, _, _, rfl, c2, by unfold ActOkM; simp [inR]; omega⟩
    · obtain ⟨y, i2, g2, e2, c2, y0, y1, _⟩ := draw_Below (g := g1) (n := 5) c1 (by omega)
      have y2 := y1 (by omega)
      obtain ⟨z, i3, g3, e3, c3, z0, z1, _⟩ := draw_Below (g := g2) (n := 10) c2 (by omega)
      have z2 := z1 (by omega)
      have ew : wr (1 + y) = 1 + y := wr_of (by omega) (by omega)
      simp only [cond_false, cond_true, e2, e3, ew, Option.bind_some]
      exact ⟨_, _, _, rfl, c3, by unfold ActOkM; simp [inR]; omega⟩
  · obtain ⟨y, i2, g2, e2, c2, y0, y1, _⟩ := draw_Below (g := g1) (n := 8) c1 (by omega)
    have y2 := y1 (by omega)
    have ew : wr (1 + y) = 1 + y := wr_of (by omega) (by omega)
    simp only [cond_true, e2, ew, Option.bind_some]
    exact ⟨_, _, _, rfl, c2, by unfold ActOkM; simp [inR]; omega⟩

theorem draw_ActList {c : List UInt8} {i g : Int} (h : CurOk c i) : ∃ l i' g', spec_l39List c i g = some (l, i', g') ∧ CurOk c i' ∧ l.length ≤ 13 ∧ ∀ a ∈ l, ActOkM a = true := by
  obtain ⟨x, i1, g1, e1, c1, x0, x1, _⟩ := draw_Below (g := g) (n := 14) h (by omega)
  have x2 := x1 (by omega)
  obtain ⟨s, ⟨s1, s2, s3⟩, es⟩ := lpO_inv2 (f := spec_l39List_L1 c) (N := x.toNat) (s0 := (([] : List GAct), i1, g1)) (fun k s => s.1.length = k ∧ CurOk c s.2.1 ∧ ∀ x ∈ s.1, ActOkM x = true) ⟨rfl, c1, by simp⟩ fun k s hk hs => by
    obtain ⟨s1, s2, s3⟩ := hs
    obtain ⟨y, i3, g3, e3, c3, hy⟩ := draw_Act (g := s.2.2) s2
    unfold spec_l39List_L1
    rw [e3]
    simp only [Option.bind_some]
    rw [gd_pos (by omega)]
    refine ⟨_, ⟨by simp [s1], c3, fun z hz => ?_⟩, rfl⟩
    rcases List.mem_append.1 hz with hz | hz
    · exact s3 z hz
    · rw [List.mem_singleton.1 hz]; exact hy
  unfold spec_l39List
  rw [e1]
  simp only [Option.bind_some]
  rw [gd_pos (by omega), es]
  exact ⟨_, _, _, rfl, s2, by omega, s3⟩

theorem draw_Acts {c : List UInt8} (h : c.length ≤ 1048576) : ∃ q l, spec_DrawActs c = some (q, l) ∧ Hist q ∧ l.length ≤ 13 ∧ ∀ a ∈ l, ActOkM a = true := by
  obtain ⟨g0, e0, c0⟩ := draw_New h
  obtain ⟨x, i1, g1, e1, c1, _⟩ := draw_Below (g := g0) (n := 2) c0 (by omega)
  obtain ⟨w, ew, hw⟩ := sample_hist
  obtain ⟨q, i2, g2, e2, c2, hq, _⟩ := draw_Guild (g := g1) c1
  have hg : ∃ q i' g', spec_l39Guild c 0 g0 = some (q, i', g') ∧ CurOk c i' ∧ Hist q := by
    unfold spec_l39Guild spec_l01Once
    rw [e1]
    simp only [Option.bind_some]
    cases x == 0
    · simp only [cond_false, e2, Option.bind_some]
      exact ⟨_, _, _, rfl, c2, hq⟩
    · simp only [cond_true, ew, Option.bind_some]
      exact ⟨_, _, _, rfl, c1, hw⟩
  obtain ⟨q, i3, g3, e3, c3, hq⟩ := hg
  obtain ⟨l, i4, g4, e4, c4, l1, l2⟩ := draw_ActList (g := g3) c3
  unfold spec_DrawActs
  rw [e0]
  simp only [Option.bind_some]
  rw [e3]
  simp only [Option.bind_some]
  rw [e4]
  exact ⟨_, _, rfl, hq, l1, l2⟩

theorem seq_self (s : Str) : seq s s = true := by unfold seq; simp

theorem dec_len : ∀ (k u : Nat), u < 10 ^ (k + 1) → (Lib.decDigits u).length ≤ k + 1
  | 0, u, h => by rw [Lib.decDigits, dif_pos (by simpa using h)]; simp
  | k + 1, u, h => by
    by_cases hu : u < 10
    · rw [Lib.decDigits, dif_pos hu]; simp
    · rw [Nat.pow_succ] at h
      rw [Lib.decDigits, dif_neg hu, List.length_append]
      have := dec_len k (u / 10) (by omega)
      simp; omega
theorem itoa_nat {n : Int} (h0 : 0 ≤ n) : Lib.itoa n = Lib.decDigits n.toNat := by
  unfold Lib.itoa
  rw [if_neg (by omega)]
theorem itoa_len {n : Int} (h0 : 0 ≤ n) (h1 : n ≤ 1000000000) : (Lib.itoa n).length ≤ 10 := by
  rw [itoa_nat h0]
  exact dec_len 9 _ (by have : (10 : Nat) ^ (9 + 1) = 10000000000 := by decide
                        omega)

theorem impl_FormatInt_b_eq {n : Int} (h0 : 0 ≤ n) (h1 : n ≤ 1000000000) : impl_FormatInt_b n = some ⟨Lib.itoa n⟩ := by
  unfold impl_FormatInt_b strconv_Itoa_b
  rw [gd_pos ⟨by omega, by omega⟩]
  rfl

theorem spec_figure {m : Nat} (h : m < 10) : spec_l01Figure ((m : Nat) : Int) = some (UInt8.ofNat (48 + m)) := by
  unfold spec_l01Figure u8of
  rw [decide_eq_true (show ((m : Nat) : Int) < 10 by omega), cond_true, wr_of (by omega) (by omega)]
  have : ((48 + (m : Int)) % 256).toNat = 48 + m := by omega
  rw [this]
theorem spec_digits : ∀ (k m : Nat), m ≤ k → 0 < m → m ≤ 1000000000 → ∀ (s : Str) (fuel : Nat), s.b.length + m ≤ 2000000000 → m + 1 < fuel → whO spec_FormatInt_L1 fuel ((m : Int), s) = some (.inl (0, ⟨Lib.decDigits m ++ s.b⟩))
  | 0, m, hk, hm, _, _, _, _, _ => absurd hm (by omega)
  | k + 1, m, hk, hm, hb, s, fuel, hs, hf => by
    obtain ⟨fuel, rfl⟩ : ∃ q, fuel = q + 1 := ⟨fuel - 1, by omega⟩
    have hstep : spec_FormatInt_L1 ((m : Int), s) = some (.next (((m / 10 : Nat) : Int), ⟨UInt8.ofNat (48 + m % 10) :: s.b⟩)) := by
      unfold spec_FormatInt_L1
      have h1 : (((m : Int) != 0)) = true := by simp; omega
      have h2 : (m : Int).tmod 10 = ((m % 10 : Nat) : Int) := rfl
      have h3 : (m : Int).tdiv 10 = ((m / 10 : Nat) : Int) := rfl
      simp only [h1, cond_true, h2, h3]
      rw [decide_eq_false (show ¬ ((m % 10 : Nat) : Int) < 0 by omega), cond_false, spec_figure (by omega)]
      simp only [Option.bind_some, List.length_cons, List.length_nil]
      rw [gd_pos (by omega), wr_of (by omega) (by omega)]
      rfl
    rw [whO, hstep]
    simp only [Option.bind_some]
    by_cases h10 : m < 10
    · obtain ⟨fuel, rfl⟩ : ∃ q, fuel = q + 1 := ⟨fuel - 1, by omega⟩
      have e0 : m / 10 = 0 := by omega
      have e1 : m % 10 = m := by omega
      rw [e0, e1, Lib.decDigits, dif_pos h10, whO]
      rfl
    · rw [spec_digits k (m / 10) (by omega) (by omega) (by omega) _ fuel (by simp only [List.length_cons]; omega) (by omega)]
      rw [show Lib.decDigits m = Lib.decDigits (m / 10) ++ [UInt8.ofNat (48 + m % 10)] by rw [Lib.decDigits, dif_neg h10]]
      simp
theorem spec_FormatInt_all {n : Int} (h0 : 0 ≤ n) (h1 : n ≤ 1000000000) : spec_FormatInt n = some ⟨Lib.itoa n⟩ := by
  obtain ⟨m, rfl⟩ := Int.eq_ofNat_of_zero_le h0
  rw [itoa_nat h0, Int.toNat_natCast]
  unfold spec_FormatInt
  by_cases hz : m = 0
  · subst hz
    rw [Lib.decDigits]
    rfl
  · have hb : (((m : Nat) : Int) == 0) = false := by simpa using hz
    rw [hb, cond_false]
    have := spec_digits m m (Nat.le_refl _) (by omega) (by omega) ⟨[]⟩ 18446744073709551616 (by simp only [List.length_nil]; omega) (by omega)
    unfold wlO
    rw [this]
    simp only [Option.map_some, lpk, Option.bind_some]
    rw [decide_eq_false (show ¬ ((m : Nat) : Int) < 0 by omega)]
    simp

/-- Numbers behind blanks. -/
def numsL (ns : List Int) : List UInt8 := (ns.map fun n => 32 :: Lib.itoa n).flatten
def lineL (word : List UInt8) (ns : List Int) : List UInt8 := word ++ numsL ns
theorem numsL_len : ∀ {ns : List Int}, (∀ n ∈ ns, 0 ≤ n ∧ n ≤ 1000000000) → (numsL ns).length ≤ 11 * ns.length
  | [], _ => by simp [numsL]
  | n :: ns, h => by
    have h1 := numsL_len (ns := ns) fun x hx => h x (by simp [hx])
    have h2 := itoa_len (h n (by simp)).1 (h n (by simp)).2
    unfold numsL at h1 ⊢
    simp only [List.map_cons, List.flatten_cons, List.length_append, List.length_cons]
    omega
theorem lineL_len {word : List UInt8} {ns : List Int} (hw : word.length ≤ 100) (h : ∀ n ∈ ns, 0 ≤ n ∧ n ≤ 1000000000) (hl : ns.length ≤ 100) : (lineL word ns).length ≤ 1200 := by
  have := numsL_len h
  unfold lineL
  rw [List.length_append]; omega

theorem impl_lineOf_eq {word : Str} {ns : List Int} (hw : word.b.length ≤ 100) (h : ∀ n ∈ ns, 0 ≤ n ∧ n ≤ 1000000000) (hl : ns.length ≤ 100) : impl_lineOf word ns = some ⟨lineL word.b ns⟩ := by
  have hlen := lineL_len hw h hl
  unfold impl_lineOf
  rw [gd_pos (by omega), lpO_app (f := impl_lineOf_L1 ns) (xs := [word]) (fun k => (⟨Lib.itoa (gx ns k)⟩ : Str)) (fun k s hk hs => by
    have hn := h _ (gx_mem hk)
    unfold impl_lineOf_L1
    rw [impl_FormatInt_b_eq hn.1 hn.2]
    simp only [Option.bind_some]
    rw [gd_pos (by simp at hs; omega)])]
  simp only [Option.bind_some]
  rw [map_gx (fun n => (⟨Lib.itoa n⟩ : Str)) ns]
  have hj : Lib.join ((([word] : List Str) ++ ns.map fun n => (⟨Lib.itoa n⟩ : Str)).map Str.b) [32] = lineL word.b ns := by
    rw [List.singleton_append, List.map_cons, List.map_map, Lib.join_cons]
    unfold lineL numsL Lib.joinTail
    rw [List.map_map]
    rfl
  unfold strings_Join
  simp only [hj]
  rw [gd_pos ⟨by simp; omega, by omega⟩]
  rfl

/-- A loop that writes numbers behind a word. -/
theorem line_loop {f : Nat → Str → Option (Res Str Empty)} {N : Nat} {x : Nat → Int} (word : Str) (hw : word.b.length ≤ 100) (hx : ∀ k, k < N → 0 ≤ x k ∧ x k ≤ 1000000000) (hN : N ≤ 100) (h : ∀ k s, k < N → s.b.length ≤ 1200 → f k s = some (.next (sadd (sadd s ⟨[32]⟩) ⟨Lib.itoa (x k)⟩))) : lpO f N word = some ⟨lineL word.b ((List.range N).map x)⟩ :=
  lpO_st (fun k => (⟨lineL word.b ((List.range k).map x)⟩ : Str)) (by simp [lineL, numsL]) fun k hk => by
    have hlen : (lineL word.b ((List.range k).map x)).length ≤ 1200 := lineL_len hw (fun n hn => by
      obtain ⟨j, hj, rfl⟩ := List.mem_map.1 hn
      have hj' : j < k := by simpa using hj
      exact hx j (by omega)) (by simp; omega)
    rw [h k ⟨lineL word.b ((List.range k).map x)⟩ hk hlen]
    simp [List.range_succ, lineL, numsL, sadd]

def actWord (k : Int) : List UInt8 := bif k == 1 then [97, 100, 109, 105, 116] else bif k == 2 then [115, 117, 98, 109, 105, 116] else bif k == 3 then [115, 101, 119] else bif k == 6 then [108, 97, 99, 107] else bif k == 4 then [114, 111, 117, 110, 100] else [121, 101, 97, 114]
def actArgs (a : GAct) : List Int := bif a.Kind == 2 then [a.A, a.B] else bif a.Kind == 4 || a.Kind == 5 then [] else [a.A]
def actL (a : GAct) : Str := ⟨lineL (actWord a.Kind) (actArgs a)⟩
def FormatActM (a : GAct) : Str × Bool := bif ActOkM a then (actL a, true) else (⟨[]⟩, false)
theorem actOk_cases {a : GAct} (h : ActOkM a = true) : (a.Kind = 1 ∨ a.Kind = 2 ∨ a.Kind = 3 ∨ a.Kind = 4 ∨ a.Kind = 5 ∨ a.Kind = 6) ∧ 0 ≤ a.A ∧ a.A ≤ 999 ∧ 0 ≤ a.B ∧ a.B ≤ 9 := by
  unfold ActOkM at h
  cases k1 : a.Kind == 1
  · cases k2 : a.Kind == 2
    · cases k3 : a.Kind == 3
      · cases k6 : a.Kind == 6
        · cases k4 : a.Kind == 4
          · cases k5 : a.Kind == 5
            · rw [k1, k2, k3, k4, k5, k6] at h; cases h
            · rw [k1, k2, k3, k4, k5, k6] at h
              simp at h k5
              exact ⟨by omega, by omega, by omega, by omega, by omega⟩
          · rw [k1, k2, k3, k4, k6] at h
            simp at h k4
            exact ⟨by omega, by omega, by omega, by omega, by omega⟩
        · rw [k1, k2, k3, k6] at h
          simp [inR] at h k6
          exact ⟨by omega, by omega, by omega, by omega, by omega⟩
      · rw [k1, k2, k3] at h
        simp [inR] at h k3
        exact ⟨by omega, by omega, by omega, by omega, by omega⟩
    · rw [k1, k2] at h
      simp [inR] at h k2
      exact ⟨by omega, by omega, by omega, by omega, by omega⟩
  · rw [k1] at h
    simp [inR] at h k1
    exact ⟨by omega, by omega, by omega, by omega, by omega⟩

theorem impl_FormatAct_eq (a : GAct) : impl_FormatAct a = some (FormatActM a) := by
  unfold impl_FormatAct FormatActM
  rw [impl_ActOk_eq]
  simp only [Option.bind_some]
  cases h : ActOkM a
  · rfl
  obtain ⟨hk, a0, a1, b0, b1⟩ := actOk_cases h
  have one : ∀ n ∈ ([a.A] : List Int), 0 ≤ n ∧ n ≤ 1000000000 := fun n hn => by
    rw [List.mem_singleton.1 hn]; omega
  have two : ∀ n ∈ ([a.A, a.B] : List Int), 0 ≤ n ∧ n ≤ 1000000000 := fun n hn => by
    simp only [List.mem_cons, List.not_mem_nil, or_false] at hn
    rcases hn with rfl | rfl <;> omega
  simp only [Bool.not_true, cond_false, cond_true]
  rw [impl_lineOf_eq (by simp) one (by simp), impl_lineOf_eq (by simp) two (by simp), impl_lineOf_eq (by simp) one (by simp), impl_lineOf_eq (by simp) one (by simp)]
  unfold actL actWord actArgs
  rcases hk with k | k | k | k | k | k <;> rw [k] <;> rfl

theorem spec_FormatAct_eq (a : GAct) : spec_FormatAct a = some (FormatActM a) := by
  unfold spec_FormatAct FormatActM
  rw [spec_ActOk_eq]
  simp only [Option.bind_some]
  cases h : ActOkM a
  · rfl
  obtain ⟨hk, a0, a1, b0, b1⟩ := actOk_cases h
  have hx : ∀ k : Nat, k < 2 → 0 ≤ gx ([a.A, a.B] : List Int) k ∧ gx ([a.A, a.B] : List Int) k ≤ 1000000000 := fun k hk => by
    have h2 : k = 0 ∨ k = 1 := by omega
    rcases h2 with rfl | rfl
    · show 0 ≤ a.A ∧ a.A ≤ 1000000000; omega
    · show 0 ≤ a.B ∧ a.B ≤ 1000000000; omega
  have lp : ∀ (N : Nat) (word : Str), N ≤ 2 → word.b.length ≤ 100 → lpO (spec_FormatAct_L1 a) N word = some ⟨lineL word.b ((List.range N).map fun k => gx ([a.A, a.B] : List Int) k)⟩ := fun N word hN hw => line_loop word hw (fun k hk => hx k (by omega)) (by omega) fun k s hk hs => by
    have h1 := hx k (by omega)
    have h2 := itoa_len h1.1 h1.2
    unfold spec_FormatAct_L1
    rw [gd_pos (by simp only [List.length_cons, List.length_nil]; omega), gd_pos (by simp only [List.length_cons, List.length_nil]; omega), spec_FormatInt_all h1.1 h1.2]
    simp only [Option.bind_some, sadd, List.length_append, List.length_cons, List.length_nil]
    rw [gd_pos (by omega)]
  simp only [Bool.not_true, cond_false, cond_true]
  have hkr : 1 ≤ a.Kind ∧ a.Kind ≤ 6 := by omega
  rw [gd_pos ⟨by omega, by simp only [List.length_cons, List.length_nil]; omega⟩, gd_pos ⟨by omega, by simp only [List.length_cons, List.length_nil]; omega⟩]
  unfold actL actWord actArgs
  rcases hk with k | k | k | k | k | k <;> rw [k]
  · rw [show (gx ([0, 1, 2, 1, 0, 0, 1] : List Int) (1 : Int).toNat).toNat = 1 from rfl, gd_pos (by omega), lp 1 _ (by omega) (by decide)]; rfl
  · rw [show (gx ([0, 1, 2, 1, 0, 0, 1] : List Int) (2 : Int).toNat).toNat = 2 from rfl, gd_pos (by omega), lp 2 _ (by omega) (by decide)]; rfl
  · rw [show (gx ([0, 1, 2, 1, 0, 0, 1] : List Int) (3 : Int).toNat).toNat = 1 from rfl, gd_pos (by omega), lp 1 _ (by omega) (by decide)]; rfl
  · rw [show (gx ([0, 1, 2, 1, 0, 0, 1] : List Int) (4 : Int).toNat).toNat = 0 from rfl, gd_pos (by omega), lp 0 _ (by omega) (by decide)]; rfl
  · rw [show (gx ([0, 1, 2, 1, 0, 0, 1] : List Int) (5 : Int).toNat).toNat = 0 from rfl, gd_pos (by omega), lp 0 _ (by omega) (by decide)]; rfl
  · rw [show (gx ([0, 1, 2, 1, 0, 0, 1] : List Int) (6 : Int).toNat).toNat = 1 from rfl, gd_pos (by omega), lp 1 _ (by omega) (by decide)]; rfl

theorem decFrom_snoc {l : List UInt8} {b : UInt8} {n d : Nat} (h : Lib.decFrom 0 l = some n) (hd : Lib.digitVal b = some d) : Lib.decFrom 0 (l ++ [b]) = some (n * 10 + d) := by
  have := Lib.decFrom_take (l ++ [b]) l.length 0 n b d (by simpa using h) (by simp) hd
  rwa [List.take_of_length_le (by simp)] at this
theorem fig_nat {m : Nat} (h : m < 10) : (UInt8.ofNat (48 + m)).toNat = 48 + m := by
  rw [UInt8.toNat_ofNat']
  omega
theorem fig_val {m : Nat} (h : m < 10) : Lib.digitVal (UInt8.ofNat (48 + m)) = some m := by
  unfold Lib.digitVal
  rw [fig_nat h, if_pos (by omega)]
  congr 1; omega
theorem dec_val : ∀ (k m : Nat), m ≤ k → Lib.decFrom 0 (Lib.decDigits m) = some m
  | 0, m, h => by
    have e : m = 0 := by omega
    subst e
    rw [Lib.decDigits, dif_pos (by omega)]; rfl
  | k + 1, m, h => by
    by_cases h10 : m < 10
    · rw [Lib.decDigits, dif_pos h10]
      have := decFrom_snoc (l := []) (n := 0) rfl (fig_val h10)
      simpa using this
    · rw [Lib.decDigits, dif_neg h10, decFrom_snoc (dec_val k (m / 10) (by omega)) (fig_val (by omega))]
      congr 1; omega
theorem dec_bytes {m : Nat} {b : UInt8} (hb : b ∈ Lib.decDigits m) : 48 ≤ b.toNat ∧ b.toNat ≤ 57 := by
  obtain ⟨i, hi⟩ := List.mem_iff_getElem?.1 hb
  obtain ⟨d, hd⟩ := Lib.digit_of_decFrom _ _ _ (dec_val m m (Nat.le_refl _)) i b hi
  have := Lib.digitVal_eq hd
  omega
theorem dec_ne {m : Nat} : Lib.decDigits m ≠ [] := by
  rw [Lib.decDigits]
  split <;> simp
theorem atoi_dec (m : Nat) : Lib.atoi (Lib.decDigits m) = some (m : Int) := by
  have hv := dec_val m m (Nat.le_refl _)
  cases hd : Lib.decDigits m with
  | nil => exact absurd hd dec_ne
  | cons b r =>
    have hb := dec_bytes (m := m) (b := b) (by rw [hd]; simp)
    rw [hd] at hv
    have h1 : (b == 45) = false := by
      rw [beq_eq_false_iff_ne]
      intro e; subst e
      have : (45 : UInt8).toNat = 45 := rfl
      omega
    have h2 : (b == 43) = false := by
      rw [beq_eq_false_iff_ne]
      intro e; subst e
      have : (43 : UInt8).toNat = 43 := rfl
      omega
    simp [Lib.atoi, h1, h2, Lib.decNat, hv]
theorem itoa_inj {n m : Int} (h0 : 0 ≤ n) (h1 : 0 ≤ m) (h : Lib.itoa n = Lib.itoa m) : n = m := by
  rw [itoa_nat h0, itoa_nat h1] at h
  have a := atoi_dec n.toNat
  have b := atoi_dec m.toNat
  rw [h, b] at a
  have := Option.some.inj a
  omega
theorem itoa_bytes {n : Int} (h0 : 0 ≤ n) {b : UInt8} (hb : b ∈ Lib.itoa n) : 48 ≤ b.toNat ∧ b.toNat ≤ 57 := by
  rw [itoa_nat h0] at hb
  exact dec_bytes hb
theorem itoa_ne {n : Int} (h0 : 0 ≤ n) : Lib.itoa n ≠ [] := by
  rw [itoa_nat h0]
  exact dec_ne

theorem impl_within_b (n a b : Int) : impl_within n a b = some (decide (n ≥ a) && decide (n ≤ b)) := rfl
theorem impl_ParseUint_yes {n : Int} (h0 : 0 ≤ n) (h1 : n ≤ 1000000000) : impl_ParseUint ⟨Lib.itoa n⟩ = some (n, true) := by
  have hl := itoa_len h0 h1
  unfold impl_ParseUint
  rw [decide_eq_false (show ¬ (((Lib.itoa n).length : Nat) : Int) > 10 by omega), cond_false]
  unfold strconv_Atoi
  rw [gd_pos (show (Lib.itoa n).length ≤ 18 by omega)]
  have ha : Lib.atoi (Lib.itoa n) = some n := by
    rw [itoa_nat h0, atoi_dec]
    congr 1; omega
  simp only [ha, Option.bind_some, impl_within_b, cond_false]
  rw [decide_eq_true (show n ≥ 0 from h0), decide_eq_true (show n ≤ 1000000000 from h1)]
  simp only [Bool.and_self, Bool.not_true, cond_false]
  rw [impl_FormatInt_b_eq h0 h1]
  simp only [Option.bind_some, seq_self, Bool.not_true, cond_false]
theorem impl_ParseUint_no {s : Str} (h : ∀ n : Int, 0 ≤ n → n ≤ 1000000000 → s.b ≠ Lib.itoa n) : impl_ParseUint s = some (0, false) := by
  unfold impl_ParseUint
  cases hd : decide (((s.b.length : Nat) : Int) > 10)
  · have hl : s.b.length ≤ 10 := by simp at hd; omega
    simp only [cond_false]
    unfold strconv_Atoi
    rw [gd_pos (show s.b.length ≤ 18 by omega)]
    cases ha : Lib.atoi s.b with
    | none => simp only [Option.bind_some, cond_true]
    | some n =>
      simp only [Option.bind_some, impl_within_b, cond_false]
      cases hw : decide (n ≥ 0) && decide (n ≤ 1000000000)
      · simp only [Bool.not_false, cond_true, Option.bind_some]
      · simp only [Bool.and_eq_true, decide_eq_true_eq] at hw
        simp only [Bool.not_true, cond_false]
        rw [impl_FormatInt_b_eq hw.1 hw.2]
        have hs : seq ⟨Lib.itoa n⟩ s = false := by
          unfold seq
          rw [beq_eq_false_iff_ne]
          exact fun e => h n hw.1 hw.2 e.symm
        simp only [Option.bind_some, hs, Bool.not_false, cond_true]
  · simp only [cond_true]

/-- The number that digits spell. -/
def dval : List UInt8 → Nat → Nat
  | [], n => n
  | b :: r, n => dval r (10 * n + (b.toNat - 48))
theorem dval_snoc : ∀ (l : List UInt8) (b : UInt8) (n : Nat), dval (l ++ [b]) n = 10 * dval l n + (b.toNat - 48)
  | [], _, _ => rfl
  | _ :: r, b, _ => dval_snoc r b _
theorem dval_dec : ∀ (k m : Nat), m ≤ k → dval (Lib.decDigits m) 0 = m
  | 0, m, h => by
    have e : m = 0 := by omega
    subst e
    rw [Lib.decDigits, dif_pos (by omega)]; rfl
  | k + 1, m, h => by
    by_cases h10 : m < 10
    · rw [Lib.decDigits, dif_pos h10]
      have := dval_snoc [] (UInt8.ofNat (48 + m)) 0
      rw [List.nil_append] at this
      rw [this, fig_nat h10]
      show 10 * 0 + (48 + m - 48) = m
      omega
    · rw [Lib.decDigits, dif_neg h10, dval_snoc, dval_dec k (m / 10) (by omega), fig_nat (by omega)]
      omega
def isDg (b : UInt8) : Bool := !(decide ((b.toNat : Int) < 48) || decide ((b.toNat : Int) > 57))
theorem isDg_iff {b : UInt8} : isDg b = true ↔ 48 ≤ b.toNat ∧ b.toNat ≤ 57 := by
  unfold isDg
  simp
  omega
theorem dval_take_lt {l : List UInt8} : ∀ k, k ≤ l.length → (∀ j, j < k → isDg (l.getD j 0) = true) → dval (l.take k) 0 < 10 ^ k
  | 0, _, _ => by simp [dval]
  | k + 1, hk, h => by
    have h1 := dval_take_lt k (by omega) fun j hj => h j (by omega)
    have h2 := isDg_iff.1 (h k (by omega))
    have hx : l[k]? = some l[k] := List.getElem?_eq_getElem (by omega)
    have hg : l.getD k 0 = l[k] := by simp [List.getD, hx]
    rw [hg] at h2
    rw [List.take_add_one, hx]
    simp only [Option.toList]
    rw [dval_snoc, Nat.pow_succ]
    omega

theorem spec_ParseUint_loop {s : Str} (hl : s.b.length ≤ 10) : forO (spec_ParseUint_L1 s) s.b.length 0 0 = some (bif (List.range s.b.length).all (fun k => isDg (s.b.getD k 0)) then .inl ((dval s.b 0 : Nat) : Int) else .inr ((0 : Int), false)) := by
  rw [forO_allSt (f := spec_ParseUint_L1 s) (N := s.b.length) (s0 := 0) (c := ((0 : Int), false)) (fun k => isDg (s.b.getD k 0)) (fun k => ((dval (s.b.take k) 0 : Nat) : Int)) (by simp [dval]) (fun k hk hp => by
    unfold spec_ParseUint_L1 sat_
    have hlt := dval_take_lt (l := s.b) k (by omega) hp
    have hpw : (10 : Nat) ^ k ≤ 10 ^ 10 := Nat.pow_le_pow_right (by decide) (by omega)
    have e10 : (10 : Nat) ^ 10 = 10000000000 := by decide
    have hx : s.b[k]? = some s.b[k] := List.getElem?_eq_getElem (by omega)
    have hg : s.b.getD k 0 = s.b[k] := by simp [List.getD, hx]
    have hb := s.b[k].toNat_lt
    rw [hg]
    cases hd : isDg s.b[k]
    · have : (decide ((s.b[k].toNat : Int) < 48) || decide ((s.b[k].toNat : Int) > 57)) = true := by simpa only [isDg, Bool.not_eq_eq_eq_not, Bool.not_false] using hd
      rw [this]; rfl
    · have : (decide ((s.b[k].toNat : Int) < 48) || decide ((s.b[k].toNat : Int) > 57)) = false := by simpa only [isDg, Bool.not_eq_eq_eq_not, Bool.not_true] using hd
      rw [this, cond_false, cond_true]
      have h2 := isDg_iff.1 hd
      rw [List.take_add_one, hx]
      simp only [Option.toList]
      rw [dval_snoc, wr_of (n := 10 * _) (by omega) (by omega), wr_of (n := _ + _) (by omega) (by omega), wr_of (by omega) (by omega)]
      congr 2; omega)]
  simp
theorem spec_ParseUint_yes {n : Int} (h0 : 0 ≤ n) (h1 : n ≤ 1000000000) : spec_ParseUint ⟨Lib.itoa n⟩ = some (n, true) := by
  have hl := itoa_len h0 h1
  unfold spec_ParseUint
  rw [decide_eq_false (show ¬ (((Lib.itoa n).length : Nat) : Int) > 10 by omega), cond_false, gd_pos (show (Lib.itoa n).length ≤ 4611686018427387904 by omega), spec_ParseUint_loop (s := ⟨Lib.itoa n⟩) hl]
  have ha : (List.range (Lib.itoa n).length).all (fun k => isDg ((Lib.itoa n).getD k 0)) = true := by
    rw [List.all_eq_true]
    intro k hk
    have hk' : k < (Lib.itoa n).length := by simpa using hk
    have hg : (Lib.itoa n).getD k 0 = (Lib.itoa n)[k] := by simp [List.getD, hk']
    rw [hg]
    exact isDg_iff.2 (itoa_bytes h0 (List.getElem_mem hk'))
  have hv : ((dval (Lib.itoa n) 0 : Nat) : Int) = n := by
    rw [itoa_nat h0, dval_dec _ _ (Nat.le_refl _)]; omega
  simp only [ha, cond_true, sq_inl, hv]
  rw [decide_eq_false (show ¬ n > 1000000000 by omega), cond_false, spec_FormatInt_all h0 h1]
  simp only [Option.bind_some, seq_self, Bool.not_true, cond_false]
theorem spec_ParseUint_no {s : Str} (h : ∀ n : Int, 0 ≤ n → n ≤ 1000000000 → s.b ≠ Lib.itoa n) : spec_ParseUint s = some (0, false) := by
  unfold spec_ParseUint
  cases hd : decide (((s.b.length : Nat) : Int) > 10)
  · have hl : s.b.length ≤ 10 := by simp at hd; omega
    simp only [cond_false]
    rw [gd_pos (by omega), spec_ParseUint_loop hl]
    cases (List.range s.b.length).all (fun k => isDg (s.b.getD k 0))
    · rfl
    · simp only [cond_true, sq_inl]
      generalize dval s.b 0 = m
      cases hm : decide (((m : Nat) : Int) > 1000000000)
      · have hm' : ((m : Nat) : Int) ≤ 1000000000 := by simp at hm; omega
        simp only [cond_false]
        rw [spec_FormatInt_all (by omega) hm']
        have hs : seq ⟨Lib.itoa ((m : Nat) : Int)⟩ s = false := by
          unfold seq
          rw [beq_eq_false_iff_ne]
          exact fun e => h _ (by omega) hm' e.symm
        simp only [Option.bind_some, hs, Bool.not_false, cond_true]
      · simp only [cond_true, Option.bind_some]
  · simp only [cond_true]

theorem uint_em (s : Str) : (∃ n : Int, 0 ≤ n ∧ n ≤ 1000000000 ∧ s = ⟨Lib.itoa n⟩) ∨ ∀ n : Int, 0 ≤ n → n ≤ 1000000000 → s.b ≠ Lib.itoa n := by
  rcases Classical.em (∃ n : Int, 0 ≤ n ∧ n ≤ 1000000000 ∧ s.b = Lib.itoa n) with ⟨n, a, b, c⟩ | h
  · exact .inl ⟨n, a, b, by cases s; simp at c; rw [c]⟩
  · exact .inr fun n a b c => h ⟨n, a, b, c⟩
theorem same_ParseUint' (s : Str) : ∃ r : Int × Bool, spec_ParseUint s = some r ∧ impl_ParseUint s = some r := by
  rcases uint_em s with ⟨n, a, b, rfl⟩ | h
  · exact ⟨_, spec_ParseUint_yes a b, impl_ParseUint_yes a b⟩
  · exact ⟨_, spec_ParseUint_no h, impl_ParseUint_no h⟩

def okB (b : UInt8) : Bool := !(decide ((b.toNat : Int) < 32) || decide ((b.toNat : Int) > 126))
def endF (c : List UInt8) : List Str := bif c.isEmpty then [] else [⟨c⟩]
/-- The fields of a row of bytes, behind the bytes c of a field. -/
def fldF : List UInt8 → List UInt8 → List Str
  | [], c => endF c
  | x :: r, c => bif x == 32 then endF c ++ fldF r [] else fldF r (c ++ [x])
def SplitM (l : Str) : List Str × Bool := bif decide (((l.b.length : Nat) : Int) > 600) then ([], false) else bif l.b.all okB then (bif decide ((((fldF l.b []).length : Nat) : Int) > 24) then ([], false) else (fldF l.b [], true)) else ([], false)
theorem bne32 (x : UInt8) : ((x.toNat : Int) != 32) = !(x == 32) := by
  by_cases h : x = 32
  · subst h; rfl
  · have e : (32 : UInt8).toNat = 32 := rfl
    have h1 : (x == 32) = false := by rw [beq_eq_false_iff_ne]; exact h
    have h2 : x.toNat ≠ (32 : UInt8).toNat := fun e => h (UInt8.toNat_inj.1 e)
    rw [h1]
    simp only [Bool.not_false, bne_iff_ne, ne_eq]
    omega
theorem beq32 (x : UInt8) : ((x.toNat : Int) == 32) = (x == 32) := by
  have := bne32 x
  unfold bne at this
  cases h : ((x.toNat : Int) == 32) <;> rw [h] at this <;> simpa using this
theorem drop_cons' {l : List UInt8} {k : Nat} (h : k < l.length) : l.drop k = sat_ ⟨l⟩ k :: l.drop (k + 1) := by
  rw [List.drop_eq_getElem_cons h]
  congr 1
  simp [sat_, List.getD, h]
theorem take_more {l : List UInt8} {b k : Nat} {c : List UInt8} (h : k < l.length) (hb : b + c.length = k) (hc : (l.drop b).take c.length = c) : (l.drop b).take (c ++ [sat_ ⟨l⟩ k]).length = c ++ [sat_ ⟨l⟩ k] := by
  rw [List.length_append, List.length_singleton, List.take_add_one, hc]
  congr 1
  rw [List.getElem?_drop, hb]
  simp [sat_, List.getD, h]

theorem spec_split_go (l : Str) (hl : l.b.length ≤ 600) : ∀ (m k b : Nat) (d : List Str) (c : List UInt8), k + m = l.b.length + 1 → b + c.length = k → (l.b.drop b).take c.length = c → d.length ≤ k → k ≤ l.b.length →
    forO (spec_SplitFields_L1 l) m k (d, (b : Int)) = some (bif (l.b.drop k).all okB then .inl (d ++ fldF (l.b.drop k) c, ((l.b.length + 1 : Nat) : Int)) else .inr (([] : List Str), false))
  | 0, k, b, d, c, hk, _, _, _, hle => by omega
  | m + 1, k, b, d, c, hk, hb, hc, hd, hle => by
    have hsub : ssub l b k = ⟨c⟩ := by unfold ssub; rw [show k - b = c.length by omega, hc]
    have fin : (bif decide ((b : Int) < ((k : Nat) : Int)) then gd (0 ≤ (b : Int) ∧ ((b : Int)).toNat ≤ k ∧ k ≤ l.b.length) <| gd (d.length + 1 ≤ 1099511627776) <| some (d ++ [ssub l (((b : Int)).toNat) k]) else some d) = some (d ++ endF c) := by
      cases c with
      | nil =>
        have e : b = k := by simpa using hb
        rw [decide_eq_false (by omega)]
        simp [endF]
      | cons y r =>
        have e : b < k := by simp at hb; omega
        rw [decide_eq_true (by omega), cond_true, gd_pos ⟨by omega, by omega, hle⟩, gd_pos (by omega), Int.toNat_natCast, hsub]
        rfl
    rw [forO]
    rcases Nat.lt_or_ge k l.b.length with hlt | hge
    · have hk1 : decide (((k : Nat) : Int) < ((l.b.length : Nat) : Int)) = true := decide_eq_true (by omega)
      have step : spec_SplitFields_L1 l k (d, (b : Int)) = some (bif okB (sat_ l k) then (bif sat_ l k == 32 then .next (d ++ endF c, ((k + 1 : Nat) : Int)) else .next (d, (b : Int))) else .ret (([] : List Str), false)) := by
        unfold spec_SplitFields_L1 okB
        simp only [hk1, cond_true, gd_pos hlt, fin, bne32, Option.bind_some]
        cases h1 : decide (((sat_ l k).toNat : Int) < 32)
        · cases h2 : decide (((sat_ l k).toNat : Int) > 126)
          · cases h3 : sat_ l k == 32 <;> rfl
          · rfl
        · rfl
      rw [step, drop_cons' hlt]
      simp only [Option.bind_some, List.all_cons, fldF]
      have hsat : sat_ (⟨l.b⟩ : Str) k = sat_ l k := rfl
      rw [hsat]
      cases ho : okB (sat_ l k)
      · simp only [cond_false, Bool.false_and]
      · simp only [cond_true, Bool.true_and]
        cases h3 : sat_ l k == 32
        · simp only [cond_false]
          exact spec_split_go l hl m (k + 1) b d (c ++ [sat_ l k]) (by omega) (by rw [List.length_append, List.length_singleton]; omega) (take_more hlt hb hc) (by omega) (by omega)
        · simp only [cond_true]
          have hel : (endF c).length ≤ 1 := by unfold endF; cases c.isEmpty <;> simp
          rw [spec_split_go l hl m (k + 1) (k + 1) (d ++ endF c) [] (by omega) (by simp) (by simp) (by rw [List.length_append]; omega) (by omega), List.append_assoc]
    · have e : k = l.b.length := by omega
      subst e
      have hk1 : decide (((l.b.length : Nat) : Int) < ((l.b.length : Nat) : Int)) = false := decide_eq_false (by omega)
      have step : spec_SplitFields_L1 l l.b.length (d, (b : Int)) = some (.next (d ++ endF c, ((l.b.length + 1 : Nat) : Int))) := by
        unfold spec_SplitFields_L1
        simp only [hk1, cond_false, fin, Option.bind_some]
      have e0 : m = 0 := by omega
      subst e0
      rw [step, List.drop_length]
      rfl

theorem spec_SplitFields_eq (l : Str) : spec_SplitFields l = some (SplitM l) := by
  unfold spec_SplitFields SplitM
  cases hd : decide (((l.b.length : Nat) : Int) > 600)
  · have hl : l.b.length ≤ 600 := by simp at hd; omega
    simp only [cond_false]
    have := spec_split_go l hl (l.b.length + 1) 0 0 [] [] (by omega) rfl (by simp) (by simp) (by omega)
    rw [List.drop_zero, List.nil_append] at this
    rw [gd_pos (by omega), show ((0 : Int)) = ((0 : Nat) : Int) from rfl, this]
    cases l.b.all okB
    · rfl
    · simp only [cond_true, sq_inl]
      cases decide ((((fldF l.b []).length : Nat) : Int) > 24) <;> rfl
  · rfl

def fromM (c : List UInt8) (b : Nat) : Int := bif c.isEmpty then -1 else (b : Int)
theorem impl_split_go (l : Str) (hl : l.b.length ≤ 600) : ∀ (m k b : Nat) (d : List Str) (c : List UInt8), k + m = l.b.length → b + c.length = k → (l.b.drop b).take c.length = c → d.length ≤ k →
    ((l.b.drop k).all okB = false → forO (impl_SplitFields_L1 l) m k (d, fromM c b) = some (.inr (([] : List Str), false))) ∧
    ((l.b.drop k).all okB = true → ∃ (d' : List Str) (c' : List UInt8) (b' : Nat), forO (impl_SplitFields_L1 l) m k (d, fromM c b) = some (.inl (d', fromM c' b')) ∧ b' + c'.length = l.b.length ∧ (l.b.drop b').take c'.length = c' ∧ d'.length ≤ l.b.length ∧ d' ++ endF c' = d ++ fldF (l.b.drop k) c)
  | 0, k, b, d, c, hk, hb, hc, hd => by
    have e : k = l.b.length := by omega
    subst e
    rw [List.drop_length]
    exact ⟨fun h => by simp at h, fun _ => ⟨d, c, b, rfl, hb, hc, hd, rfl⟩⟩
  | m + 1, k, b, d, c, hk, hb, hc, hd => by
    have hlt : k < l.b.length := by omega
    have hsub : ssub l b k = ⟨c⟩ := by unfold ssub; rw [show k - b = c.length by omega, hc]
    have step : impl_SplitFields_L1 l k (d, fromM c b) = some (bif okB (sat_ l k) then (bif sat_ l k == 32 then .next (d ++ endF c, fromM [] (k + 1)) else .next (d, fromM (c ++ [sat_ l k]) b)) else .ret (([] : List Str), false)) := by
      unfold impl_SplitFields_L1 okB
      cases h0 : (decide (((sat_ l k).toNat : Int) < 32) || decide (((sat_ l k).toNat : Int) > 126))
      · simp only [cond_false, Bool.not_false, cond_true, beq32]
        cases h3 : sat_ l k == 32
        · simp only [cond_false]
          cases c with
          | nil =>
            have e : b = k := by simpa using hb
            have e1 : fromM ([] : List UInt8) b = -1 := rfl
            have e2 : fromM ([] ++ [sat_ l k]) b = (b : Int) := rfl
            rw [e1, e2, e]
            rfl
          | cons y r =>
            have e1 : fromM (y :: r) b = (b : Int) := rfl
            have e2 : fromM ((y :: r) ++ [sat_ l k]) b = (b : Int) := rfl
            rw [e1, e2, decide_eq_false (show ¬ (b : Int) < 0 by omega)]
            rfl
        · simp only [cond_true]
          cases c with
          | nil =>
            have e1 : fromM ([] : List UInt8) b = -1 := rfl
            rw [e1, decide_eq_false (show ¬ (-1 : Int) ≥ 0 by omega)]
            simp only [cond_false, Option.bind_some]
            simp [endF, fromM]
          | cons y r =>
            have e1 : fromM (y :: r) b = (b : Int) := rfl
            rw [e1, decide_eq_true (show (b : Int) ≥ 0 by omega)]
            simp only [cond_true]
            rw [gd_pos ⟨by omega, by omega, by omega⟩, gd_pos (by omega), Int.toNat_natCast, hsub]
            rfl
      · rfl
    rw [forO, step, drop_cons' hlt]
    have hsat : sat_ (⟨l.b⟩ : Str) k = sat_ l k := rfl
    simp only [Option.bind_some, List.all_cons, fldF, hsat]
    cases ho : okB (sat_ l k)
    · simp only [cond_false, Bool.false_and]
      exact ⟨fun _ => trivial, fun h => by cases h⟩
    · simp only [cond_true, Bool.true_and]
      cases h3 : sat_ l k == 32
      · simp only [cond_false]
        exact impl_split_go l hl m (k + 1) b d (c ++ [sat_ l k]) (by omega) (by rw [List.length_append, List.length_singleton]; omega) (take_more hlt hb hc) (by omega)
      · simp only [cond_true]
        have hel : (endF c).length ≤ 1 := by unfold endF; cases c.isEmpty <;> simp
        have ih := impl_split_go l hl m (k + 1) (k + 1) (d ++ endF c) [] (by omega) (by simp) (by simp) (by rw [List.length_append]; omega)
        rw [List.append_assoc] at ih
        exact ih

theorem impl_SplitFields_eq (l : Str) : impl_SplitFields l = some (SplitM l) := by
  unfold impl_SplitFields SplitM
  cases hd : decide (((l.b.length : Nat) : Int) > 600)
  · have hl : l.b.length ≤ 600 := by simp at hd; omega
    simp only [cond_false]
    obtain ⟨g1, g2⟩ := impl_split_go l hl l.b.length 0 0 [] [] (by omega) rfl (by simp) (by simp)
    rw [List.drop_zero, List.nil_append] at g2
    rw [List.drop_zero] at g1
    rw [gd_pos (by omega), show ((-1 : Int)) = fromM [] 0 from rfl]
    cases ha : l.b.all okB
    · rw [g1 ha]; rfl
    · obtain ⟨d', c', b', e1, e2, e3, e4, e5⟩ := g2 ha
      rw [e1, ← e5]
      simp only [sq_inl, cond_true]
      have hsub : ssub l b' l.b.length = ⟨c'⟩ := by unfold ssub; rw [show l.b.length - b' = c'.length by omega, e3]
      have fin : (bif decide (fromM c' b' ≥ 0) then gd (0 ≤ fromM c' b' ∧ (fromM c' b').toNat ≤ l.b.length ∧ l.b.length ≤ l.b.length) <| gd (d'.length + 1 ≤ 1099511627776) <| some (d' ++ [ssub l ((fromM c' b').toNat) l.b.length]) else some d') = some (d' ++ endF c') := by
        cases c' with
        | nil =>
          have q : fromM ([] : List UInt8) b' = -1 := rfl
          rw [q, decide_eq_false (show ¬ (-1 : Int) ≥ 0 by omega)]
          simp [endF]
        | cons y r =>
          have q : fromM (y :: r) b' = (b' : Int) := rfl
          rw [q, decide_eq_true (show (b' : Int) ≥ 0 by omega), cond_true, gd_pos ⟨by omega, by omega, by omega⟩, gd_pos (by omega), Int.toNat_natCast, hsub]
          rfl
      rw [fin]
      simp only [Option.bind_some]
      cases decide ((((d' ++ endF c').length : Nat) : Int) > 24) <;> rfl
  · rfl

/-- A word: not empty, without blanks. -/
def Word (c : List UInt8) : Prop := c ≠ [] ∧ ∀ x ∈ c, (x == 32) = false
theorem endF_nil : endF [] = [] := rfl
theorem endF_cons {c : List UInt8} (h : c ≠ []) : endF c = [⟨c⟩] := by
  cases c with
  | nil => exact absurd rfl h
  | cons _ _ => rfl
theorem fld_word : ∀ (w r c : List UInt8), (∀ x ∈ w, (x == 32) = false) → fldF (w ++ r) c = fldF r (c ++ w)
  | [], r, c, _ => by simp
  | x :: w, r, c, h => by
    rw [List.cons_append, fldF, h x (by simp), cond_false, fld_word w r (c ++ [x]) fun y hy => h y (by simp [hy])]
    simp
theorem fld_words : ∀ (r c : List UInt8), (∀ x ∈ c, (x == 32) = false) → ∀ f ∈ fldF r c, Word f.b ∧ f.b.length ≤ r.length + c.length
  | [], c, hc, f, hf => by
    cases c with
    | nil => cases hf
    | cons y t =>
      have e : f = ⟨y :: t⟩ := by simpa [fldF, endF] using hf
      rw [e]
      exact ⟨⟨by simp, hc⟩, by simp⟩
  | x :: r, c, hc, f, hf => by
    unfold fldF at hf
    cases h : x == 32
    · rw [h, cond_false] at hf
      have := fld_words r (c ++ [x]) (fun y hy => by
        rcases List.mem_append.1 hy with h' | h'
        · exact hc y h'
        · rw [List.mem_singleton.1 h']; exact h) f hf
      refine ⟨this.1, ?_⟩
      have h2 := this.2
      simp only [List.length_append, List.length_cons, List.length_nil] at h2 ⊢
      omega
    · rw [h, cond_true] at hf
      rcases List.mem_append.1 hf with h' | h'
      · cases c with
        | nil => cases h'
        | cons y t =>
          have e : f = ⟨y :: t⟩ := by simpa [endF] using h'
          rw [e]
          exact ⟨⟨by simp, hc⟩, by simp⟩
      · have := fld_words r [] (by simp) f h'
        refine ⟨this.1, ?_⟩
        have h2 := this.2
        simp only [List.length_cons, List.length_nil] at h2 ⊢
        omega
/-- Words, each behind a blank. -/
def tailL (p : List Str) : List UInt8 := (p.map fun f => 32 :: f.b).flatten
theorem fld_tail (z : List UInt8) (hz : ∀ c, fldF z c = endF c) : ∀ (p : List Str) (c : List UInt8), (∀ f ∈ p, Word f.b) → fldF (tailL p ++ z) c = endF c ++ p
  | [], c, _ => by simpa [tailL] using hz c
  | f :: p, c, h => by
    have hf := h f (by simp)
    have e : tailL (f :: p) ++ z = 32 :: (f.b ++ (tailL p ++ z)) := by simp [tailL]
    rw [e, fldF]
    have h32 : ((32 : UInt8) == 32) = true := rfl
    rw [h32, cond_true, fld_word f.b _ [] hf.2, List.nil_append, fld_tail z hz p f.b fun g hg => h g (by simp [hg]), endF_cons hf.1]
    rfl
theorem fld_nil (c : List UInt8) : fldF [] c = endF c := rfl
theorem fld_sp (c : List UInt8) : fldF [32] c = endF c := by
  have h32 : ((32 : UInt8) == 32) = true := rfl
  rw [fldF, h32, cond_true, fld_nil]
  simp [endF]
theorem fld_join {w : List UInt8} {q : List Str} (hw : Word w) (hq : ∀ f ∈ q, Word f.b) : fldF (w ++ tailL q) [] = ⟨w⟩ :: q := by
  rw [fld_word w _ [] hw.2, List.nil_append]
  have := fld_tail [] fld_nil q w hq
  rw [List.append_nil] at this
  rw [this, endF_cons hw.1]
  rfl
def joinL : List Str → List UInt8
  | [] => []
  | f :: p => f.b ++ tailL p
theorem fld_joinL {p : List Str} (h : ∀ f ∈ p, Word f.b) : fldF (joinL p) [] = p := by
  cases p with
  | nil => rfl
  | cons f p =>
    have := fld_join (h f (by simp)) fun g hg => h g (List.mem_cons_of_mem _ hg)
    rw [joinL, this]
theorem lib_join (p : List Str) : Lib.join (p.map Str.b) [32] = joinL p := by
  cases p with
  | nil => rfl
  | cons f p =>
    rw [List.map_cons, Lib.join_cons]
    unfold joinL tailL Lib.joinTail
    rw [List.map_map]
    rfl

def argsS (a : GAct) : List Str := (actArgs a).map fun n => ⟨Lib.itoa n⟩
theorem numsL_tail (ns : List Int) : numsL ns = tailL (ns.map fun n => (⟨Lib.itoa n⟩ : Str)) := by
  unfold numsL tailL
  rw [List.map_map]
  rfl
theorem act_nums {a : GAct} (h : ActOkM a = true) : ∀ n ∈ actArgs a, 0 ≤ n ∧ n ≤ 1000000000 := by
  obtain ⟨hk, a0, a1, b0, b1⟩ := actOk_cases h
  intro n hn
  unfold actArgs at hn
  cases h2 : a.Kind == 2
  · cases h4 : a.Kind == 4 || a.Kind == 5
    · rw [h2, h4] at hn
      rw [List.mem_singleton.1 hn]; omega
    · rw [h2, h4] at hn; cases hn
  · rw [h2] at hn
    simp only [cond_true, List.mem_cons, List.not_mem_nil, or_false] at hn
    rcases hn with rfl | rfl <;> omega
theorem act_word {a : GAct} (h : ActOkM a = true) : Word (actWord a.Kind) := by
  obtain ⟨hk, _⟩ := actOk_cases h
  unfold actWord Word
  rcases hk with k | k | k | k | k | k <;> rw [k] <;> decide
theorem arg_words {a : GAct} (h : ActOkM a = true) : ∀ f ∈ argsS a, Word f.b := by
  intro f hf
  obtain ⟨n, hn, rfl⟩ := List.mem_map.1 hf
  have h0 := (act_nums h n hn).1
  refine ⟨itoa_ne h0, fun x hx => ?_⟩
  have := itoa_bytes h0 hx
  rw [beq_eq_false_iff_ne]
  intro e
  subst e
  have e2 : (32 : UInt8).toNat = 32 := rfl
  omega
theorem act_text (a : GAct) : (actL a).b = actWord a.Kind ++ tailL (argsS a) := by
  unfold actL lineL argsS
  rw [numsL_tail]
theorem act_fields {a : GAct} (h : ActOkM a = true) : fldF (actL a).b [] = ⟨actWord a.Kind⟩ :: argsS a := by
  rw [act_text]
  exact fld_join (act_word h) (arg_words h)
/-- A line's fields that make an act's text are its word and its numbers. -/
theorem act_of_join {a : GAct} (h : ActOkM a = true) {p : List Str} (hp : ∀ f ∈ p, Word f.b) (hj : joinL p = (actL a).b) : p = ⟨actWord a.Kind⟩ :: argsS a := by
  rw [← fld_joinL hp, hj, act_fields h]
theorem word_inj {i j : Int} (hi : i = 1 ∨ i = 2 ∨ i = 3 ∨ i = 4 ∨ i = 5 ∨ i = 6) (hj : j = 1 ∨ j = 2 ∨ j = 3 ∨ j = 4 ∨ j = 5 ∨ j = 6) (h : actWord i = actWord j) : i = j := by
  rcases hi with rfl | rfl | rfl | rfl | rfl | rfl <;> rcases hj with rfl | rfl | rfl | rfl | rfl | rfl <;> first | rfl | (exfalso; revert h; decide)
/-- The numbers that an act does not use are 0. -/
theorem act_rest {a : GAct} (h : ActOkM a = true) : (a.Kind ≠ 2 → a.B = 0) ∧ (a.Kind = 4 ∨ a.Kind = 5 → a.A = 0) := by
  obtain ⟨hk, _⟩ := actOk_cases h
  unfold ActOkM at h
  rcases hk with k | k | k | k | k | k <;> rw [k] at h ⊢ <;> simp [inR] at h ⊢ <;> omega
theorem act_inj {a a' : GAct} (h : ActOkM a = true) (h' : ActOkM a' = true) (e : (actL a).b = (actL a').b) : a = a' := by
  have h1 := act_fields h
  rw [e, act_fields h'] at h1
  injection h1 with h2 h3
  have h4 : actWord a'.Kind = actWord a.Kind := congrArg Str.b h2
  have hk := word_inj (actOk_cases h').1 (actOk_cases h).1 h4
  obtain ⟨p1, p2⟩ := act_rest h
  obtain ⟨q1, q2⟩ := act_rest h'
  have hn := act_nums h
  have hn' := act_nums h'
  unfold argsS actArgs at h3
  unfold actArgs at hn hn'
  rw [hk] at h3 q1 q2 hn'
  obtain ⟨ak, aA, aB⟩ := a
  obtain ⟨ak', aA', aB'⟩ := a'
  simp only at hk h3 p1 p2 q1 q2 hn hn'
  subst hk
  cases e2 : ak' == 2
  · have n2 : ak' ≠ 2 := by simpa using e2
    have b1 := p1 n2
    have b2 := q1 n2
    cases e4 : ak' == 4 || ak' == 5
    · rw [e2, e4] at h3 hn hn'
      simp only [cond_false, List.map_cons, List.map_nil, List.cons.injEq, and_true, List.mem_singleton] at h3 hn hn'
      have := itoa_inj (hn' _ rfl).1 (hn _ rfl).1 (congrArg Str.b h3)
      subst this
      rw [b1, b2]
    · have hk4 : ak' = 4 ∨ ak' = 5 := by
        simp only [Bool.or_eq_true, beq_iff_eq] at e4
        exact e4
      rw [p2 hk4, q2 hk4, b1, b2]
  · rw [e2] at h3 hn hn'
    simp only [cond_true, List.map_cons, List.map_nil, List.cons.injEq, and_true, List.mem_cons, List.not_mem_nil, or_false] at h3 hn hn'
    have i1 := itoa_inj (hn' _ (.inl rfl)).1 (hn _ (.inl rfl)).1 (congrArg Str.b h3.1)
    have i2 := itoa_inj (hn' _ (.inr rfl)).1 (hn _ (.inr rfl)).1 (congrArg Str.b h3.2)
    rw [i1, i2]

/-- What the fields of a line fulfil. -/
theorem split_words {l : Str} (h : (SplitM l).2 = true) : l.b.length ≤ 600 ∧ (SplitM l).1 = fldF l.b [] ∧ ∀ f ∈ (SplitM l).1, Word f.b ∧ f.b.length ≤ 600 := by
  unfold SplitM at h ⊢
  cases hd : decide (((l.b.length : Nat) : Int) > 600)
  · rw [hd] at h
    simp only [cond_false] at h ⊢
    cases ha : l.b.all okB
    · rw [ha] at h; cases h
    · rw [ha] at h
      simp only [cond_true] at h ⊢
      cases hc : decide ((((fldF l.b []).length : Nat) : Int) > 24)
      · refine ⟨by simp at hd; omega, rfl, fun f hf => ?_⟩
        have := fld_words l.b [] (by simp) f hf
        refine ⟨this.1, ?_⟩
        have h2 := this.2
        simp only [List.length_nil] at h2
        simp at hd
        omega
      · rw [hc] at h; cases h
  · rw [hd] at h; cases h
/-- A line that is an act's text. -/
def IsAct (l : Str) (a : GAct) : Prop := ActOkM a = true ∧ (SplitM l).2 = true ∧ 1 ≤ (SplitM l).1.length ∧ (SplitM l).1.length ≤ 3 ∧ joinL (SplitM l).1 = (actL a).b
theorem isAct_one {l : Str} {a a' : GAct} (h : IsAct l a) (h' : IsAct l a') : a = a' := act_inj h.1 h'.1 (by rw [← h.2.2.2.2, ← h'.2.2.2.2])
theorem len3 {α : Type} {p : List α} (h1 : 1 ≤ p.length) (h3 : p.length ≤ 3) : (∃ x, p = [x]) ∨ (∃ x y, p = [x, y]) ∨ ∃ x y z, p = [x, y, z] := by
  match p, h1, h3 with
  | [x], _, _ => exact .inl ⟨x, rfl⟩
  | [x, y], _, _ => exact .inr (.inl ⟨x, y, rfl⟩)
  | [x, y, z], _, _ => exact .inr (.inr ⟨x, y, z, rfl⟩)
  | _ :: _ :: _ :: _ :: _, _, h => exact absurd h (by simp)

def numM (s : Str) : Int := (spec_l40Number s).getD 0
theorem spec_num (s : Str) : spec_l40Number s = some (numM s) := by
  have key : ∃ n, spec_l40Number s = some n := by
    unfold spec_l40Number
    obtain ⟨r1, e1, _⟩ := same_ParseUint' s
    obtain ⟨r2, e2, _⟩ := same_ParseUint' (ssub s 1 s.b.length)
    cases hd : decide (((s.b.length : Nat) : Int) > 1)
    · simp only [cond_false, Option.bind_some, e1]
      exact ⟨_, rfl⟩
    · have h1 : 1 < s.b.length := by simp at hd; omega
      simp only [cond_true]
      rw [gd_pos (show 0 < s.b.length by omega)]
      simp only [Option.bind_some]
      cases ((sat_ s 0).toNat : Int) == 45
      · simp only [cond_false, e1, Option.bind_some]
        exact ⟨_, rfl⟩
      · simp only [cond_true]
        rw [gd_pos ⟨by omega, by omega⟩, e2]
        exact ⟨_, rfl⟩
  obtain ⟨n, hn⟩ := key
  unfold numM
  rw [hn]; rfl
theorem num_itoa {n : Int} (h0 : 0 ≤ n) (h1 : n ≤ 1000000000) : numM ⟨Lib.itoa n⟩ = n := by
  have hs := spec_num ⟨Lib.itoa n⟩
  unfold spec_l40Number at hs
  rw [spec_ParseUint_yes h0 h1] at hs
  have h45 : (sat_ ⟨Lib.itoa n⟩ 0).toNat ≠ 45 := by
    cases hi : Lib.itoa n with
    | nil => exact absurd hi (itoa_ne h0)
    | cons b r =>
      have := itoa_bytes h0 (b := b) (by rw [hi]; simp)
      show b.toNat ≠ 45
      omega
  have hb : (((sat_ ⟨Lib.itoa n⟩ 0).toNat : Int) == 45) = false := by
    rw [beq_eq_false_iff_ne]
    omega
  rw [hb] at hs
  cases hd : decide ((((Lib.itoa n).length : Nat) : Int) > 1)
  · rw [hd] at hs
    simp only [cond_false, Option.bind_some, Option.some.injEq] at hs
    exact hs.symm
  · have h1 : 1 < (Lib.itoa n).length := by simp at hd; omega
    rw [hd] at hs
    simp only [cond_true] at hs
    rw [gd_pos (show 0 < (Lib.itoa n).length by omega)] at hs
    simp only [cond_false, Option.bind_some, Option.some.injEq] at hs
    exact hs.symm
def nthN (p : List Str) (k : Nat) : Int := gx (((p.drop 1).map numM) ++ [0, 0]) k

theorem spec_act_loop {p : List Str} {ok : Bool} (h1 : 1 ≤ p.length) (h3 : p.length ≤ 3) (hw : ∀ f ∈ p, f.b.length ≤ 600) : lpO (spec_ParseAct_L1 (p, ok)) (p.length - 1) ((gx p 0), ([] : List Int)) = some (⟨joinL p⟩, (p.drop 1).map numM) := by
  have st : ∀ (k : Nat) (s : Str) (ns : List Int), k + 1 < p.length → s.b.length ≤ 10000 → ns.length ≤ 10 → spec_ParseAct_L1 (p, ok) k (s, ns) = some (.next (⟨s.b ++ (32 :: (gx p (k + 1)).b)⟩, ns ++ [numM (gx p (k + 1))])) := fun k s ns hk hs hn => by
    have hl := hw _ (gx_mem hk)
    unfold spec_ParseAct_L1
    rw [gd_pos (by simp only [List.length_cons, List.length_nil]; omega), gd_pos hk, gd_pos (by simp only [sadd, List.length_append, List.length_cons, List.length_nil]; omega), spec_num]
    simp only [Option.bind_some]
    rw [gd_pos (by omega)]
    simp [sadd]
  rcases len3 h1 h3 with ⟨x, rfl⟩ | ⟨x, y, rfl⟩ | ⟨x, y, z, rfl⟩
  · simp [lpO, forO, joinL, tailL, lpk, gx]
  · have hx := hw x (by simp)
    have e : ([x, y] : List Str).length - 1 = 1 := rfl
    rw [e]
    unfold lpO
    rw [forO, st 0 _ _ (by simp) (by show x.b.length ≤ 10000; omega) (by simp)]
    simp [forO, joinL, tailL, lpk, gx]
  · have hx := hw x (by simp)
    have hy := hw y (by simp)
    have e : ([x, y, z] : List Str).length - 1 = 2 := rfl
    rw [e]
    unfold lpO
    rw [forO, st 0 _ _ (by simp) (by show x.b.length ≤ 10000; omega) (by simp)]
    simp only [Option.bind_some]
    rw [forO, st 1 _ _ (by simp) (by
      show (x.b ++ 32 :: y.b).length ≤ 10000
      simp only [List.length_append, List.length_cons]; omega) (by simp)]
    simp [forO, joinL, tailL, lpk, gx]
theorem in13 (p : List Str) : spec_l01In ((p.length : Nat) : Int) 1 3 = some (decide (((p.length : Nat) : Int) ≥ 1) && decide (((p.length : Nat) : Int) ≤ 3)) := rfl
def candM (p : List Str) (k : Nat) : GAct := ⟨((k + 1 : Nat) : Int), nthN p 0, nthN p 1⟩
theorem spec_act_find {p : List Str} : forO (spec_ParseAct_L2 ((⟨joinL p⟩ : Str), (p.drop 1).map numM)) 6 0 () = some (match (List.range 6).find? (fun k => ActOkM (candM p k) && seq (actL (candM p k)) ⟨joinL p⟩) with | some k => .inr (candM p k, true) | none => .inl ()) :=
  forO_find (N := 6) (s := ()) (fun k => ActOkM (candM p k) && seq (actL (candM p k)) ⟨joinL p⟩) (fun k => (candM p k, true)) fun k hk => by
    unfold spec_ParseAct_L2
    rw [gd_pos (by simp), gd_pos (by simp)]
    have e : (GAct.mk (((k + 1) : Nat) : Int) (gx (((p.drop 1).map numM) ++ [0, 0]) 0) (gx (((p.drop 1).map numM) ++ [0, 0]) 1)) = candM p k := rfl
    simp only [e]
    rw [spec_FormatAct_eq]
    unfold FormatActM
    cases ho : ActOkM (candM p k)
    · rfl
    · simp only [cond_true, Option.bind_some, Bool.true_and]
      cases seq (actL (candM p k)) ⟨joinL p⟩ <;> rfl
/-- The fields of an act's text give the act again. -/
theorem cand_act {l : Str} {a : GAct} (h : IsAct l a) : ∃ k, k < 6 ∧ candM (SplitM l).1 k = a := by
  obtain ⟨ho, hs, _, _, hj⟩ := h
  have hp := act_of_join ho (fun f hf => (split_words hs).2.2 f hf |>.1) hj
  rw [hp]
  have hn := act_nums ho
  obtain ⟨r1, r2⟩ := act_rest ho
  obtain ⟨hk, _⟩ := actOk_cases ho
  obtain ⟨ak, aA, aB⟩ := a
  simp only at hk r1 r2
  unfold candM nthN argsS
  have mp : (((⟨actWord ak⟩ : Str) :: (actArgs ⟨ak, aA, aB⟩).map fun n => (⟨Lib.itoa n⟩ : Str)).drop 1).map numM = actArgs ⟨ak, aA, aB⟩ := by
    rw [List.drop_succ_cons, List.drop_zero, List.map_map]
    calc (actArgs ⟨ak, aA, aB⟩).map (numM ∘ fun n => (⟨Lib.itoa n⟩ : Str)) = (actArgs ⟨ak, aA, aB⟩).map id := List.map_congr_left fun n hm => num_itoa (hn n hm).1 (hn n hm).2
      _ = _ := by simp
  rw [mp]
  unfold actArgs
  rcases hk with rfl | rfl | rfl | rfl | rfl | rfl
  · have := r1 (by omega); subst this; exact ⟨0, by omega, rfl⟩
  · exact ⟨1, by omega, rfl⟩
  · have := r1 (by omega); subst this; exact ⟨2, by omega, rfl⟩
  · have := r1 (by omega); subst this; have := r2 (by omega); subst this; exact ⟨3, by omega, rfl⟩
  · have := r1 (by omega); subst this; have := r2 (by omega); subst this; exact ⟨4, by omega, rfl⟩
  · have := r1 (by omega); subst this; exact ⟨5, by omega, rfl⟩
theorem seqb_iff {s t : Str} : seq s t = true ↔ s.b = t.b := by unfold seq; simp
theorem spec_ParseAct_of (l : Str) : (∀ a, IsAct l a → spec_ParseAct l = some (a, true)) ∧ ((∀ a, ¬ IsAct l a) → spec_ParseAct l = some (⟨0, 0, 0⟩, false)) := by
  unfold spec_ParseAct
  rw [spec_SplitFields_eq]
  simp only [Option.bind_some, in13]
  cases hs : (SplitM l).2
  · exact ⟨fun a h => absurd h.2.1 (by rw [hs]; simp), fun _ => rfl⟩
  · cases hi : decide ((((SplitM l).1.length : Nat) : Int) ≥ 1) && decide ((((SplitM l).1.length : Nat) : Int) ≤ 3)
    · refine ⟨fun a h => ?_, fun _ => rfl⟩
      have e1 : decide ((((SplitM l).1.length : Nat) : Int) ≥ 1) = true := decide_eq_true (by have := h.2.2.1; omega)
      have e3 : decide ((((SplitM l).1.length : Nat) : Int) ≤ 3) = true := decide_eq_true (by have := h.2.2.2.1; omega)
      rw [e1, e3] at hi
      cases hi
    · simp only [Bool.and_eq_true, decide_eq_true_eq] at hi
      have h1 : 1 ≤ (SplitM l).1.length := by omega
      have h3 : (SplitM l).1.length ≤ 3 := by omega
      obtain ⟨_, _, hw⟩ := split_words hs
      have hfind : ∀ k, k < 6 → (ActOkM (candM (SplitM l).1 k) && seq (actL (candM (SplitM l).1 k)) ⟨joinL (SplitM l).1⟩) = true → IsAct l (candM (SplitM l).1 k) := fun k _ h => by
        simp only [Bool.and_eq_true] at h
        exact ⟨h.1, hs, h1, h3, (seqb_iff.1 h.2).symm⟩
      simp only [Bool.not_true, cond_false, Option.bind_some]
      rw [gd_pos (by omega), gd_pos (by omega)]
      have hl := spec_act_loop (p := (SplitM l).1) (ok := (SplitM l).2) h1 h3 fun f hf => (hw f hf).2
      have e : ((SplitM l).1, (SplitM l).2) = SplitM l := rfl
      rw [e] at hl
      rw [hl]
      simp only [Option.bind_some]
      rw [gd_pos (by simp; omega), spec_act_find]
      cases hf : (List.range 6).find? (fun k => ActOkM (candM (SplitM l).1 k) && seq (actL (candM (SplitM l).1 k)) ⟨joinL (SplitM l).1⟩) with
      | none =>
        refine ⟨fun a h => ?_, fun _ => rfl⟩
        obtain ⟨k, hk, e⟩ := cand_act h
        rw [List.find?_eq_none] at hf
        have := hf k (by simpa using hk)
        rw [e, h.1] at this
        simp only [Bool.true_and] at this
        exact absurd (seqb_iff.2 h.2.2.2.2.symm) this
      | some k =>
        have hk := hfind k (by simpa using List.mem_of_find?_eq_some hf) (List.find?_some (p := fun k => ActOkM (candM (SplitM l).1 k) && seq (actL (candM (SplitM l).1 k)) ⟨joinL (SplitM l).1⟩) hf)
        exact ⟨fun a h => by rw [isAct_one h hk]; rfl, fun h => absurd hk (h _)⟩

theorem impl_act_kind (p : List Str) (ok : Bool) (h1 : 1 ≤ p.length) : ∃ k : Int, lpO (impl_ParseAct_L1 (p, ok)) 7 0 = some k ∧ ∀ i : Int, (i = 1 ∨ i = 2 ∨ i = 3 ∨ i = 4 ∨ i = 5 ∨ i = 6) → gx p 0 = ⟨actWord i⟩ → k = i := by
  have st : ∀ (k : Nat) (s : Int), impl_ParseAct_L1 (p, ok) k s = some (.next (bif (seq (gx ([(⟨[]⟩ : Str), (⟨[97, 100, 109, 105, 116]⟩ : Str), (⟨[115, 117, 98, 109, 105, 116]⟩ : Str), (⟨[115, 101, 119]⟩ : Str), (⟨[114, 111, 117, 110, 100]⟩ : Str), (⟨[121, 101, 97, 114]⟩ : Str), (⟨[108, 97, 99, 107]⟩ : Str)] : List Str) k) (gx p 0)) then ((k : Nat) : Int) else s)) := fun k s => by
    unfold impl_ParseAct_L1
    rw [gd_pos (show 0 < p.length by omega)]
  unfold lpO
  simp only [forO, st, Option.bind_some, Option.map_some, lpk]
  refine ⟨_, rfl, fun i hi hw => ?_⟩
  rw [hw]
  rcases hi with rfl | rfl | rfl | rfl | rfl | rfl <;> rfl
theorem strings_Join_eq {p : List Str} (h1 : 1 ≤ p.length) (h3 : p.length ≤ 3) (hw : ∀ f ∈ p, f.b.length ≤ 600) : strings_Join p ⟨[32]⟩ = some ⟨joinL p⟩ := by
  have hj : Lib.join (p.map Str.b) [32] = joinL p := lib_join p
  have hl : (joinL p).length ≤ 10000 := by
    rcases len3 h1 h3 with ⟨x, rfl⟩ | ⟨x, y, rfl⟩ | ⟨x, y, z, rfl⟩
    · have := hw x (by simp)
      simp [joinL, tailL]; omega
    · have := hw x (by simp)
      have := hw y (by simp)
      simp [joinL, tailL]; omega
    · have := hw x (by simp)
      have := hw y (by simp)
      have := hw z (by simp)
      simp [joinL, tailL]; omega
  unfold strings_Join
  simp only [hj]
  rw [gd_pos ⟨by omega, by omega⟩]
/-- What stands behind the numbers of a line. -/
def endM (p : List Str) (e : Int × Int × Int) : GAct × Bool := bif ActOkM ⟨e.1, e.2.1, e.2.2⟩ && seq (actL ⟨e.1, e.2.1, e.2.2⟩) ⟨joinL p⟩ then (⟨e.1, e.2.1, e.2.2⟩, true) else (⟨0, 0, 0⟩, false)
/-- The loop over the numbers: it ends early where one of them is no number. -/
theorem impl_act_nums {p : List Str} {ok : Bool} (e1 : Int) :
    forO (impl_ParseAct_L2 (p, ok)) ((p.drop 1).take (p.length - 1)).length 0 (e1, 0, 0) = some (.inr ((⟨0, 0, 0⟩ : GAct), false)) ∨
    ∃ e : Int × Int × Int, forO (impl_ParseAct_L2 (p, ok)) ((p.drop 1).take (p.length - 1)).length 0 (e1, 0, 0) = some (.inl e) := by
  have st : ∀ (k : Nat) (s : Int × Int × Int), impl_ParseAct_L2 (p, ok) k s = some (.ret ((⟨0, 0, 0⟩ : GAct), false)) ∨ ∃ s', impl_ParseAct_L2 (p, ok) k s = some (.next s') := fun k s => by
    obtain ⟨r, _, hr⟩ := same_ParseUint' (gx ((p.drop 1).take (p.length - 1)) k)
    unfold impl_ParseAct_L2
    simp only [hr, Option.bind_some]
    cases r.2
    · exact .inl rfl
    · exact .inr ⟨_, rfl⟩
  have key : ∀ (m k : Nat) (s : Int × Int × Int), forO (impl_ParseAct_L2 (p, ok)) m k s = some (.inr ((⟨0, 0, 0⟩ : GAct), false)) ∨ ∃ e : Int × Int × Int, forO (impl_ParseAct_L2 (p, ok)) m k s = some (.inl e) := by
    intro m
    induction m with
    | zero => exact fun k s => .inr ⟨s, rfl⟩
    | succ m ih =>
      intro k s
      rw [forO]
      rcases st k s with h | ⟨s', h⟩
      · rw [h]; exact .inl rfl
      · rw [h]; exact ih (k + 1) s'
  exact key _ _ _
theorem impl_act_yes {l : Str} {a : GAct} (h : IsAct l a) (ok : Bool) : forO (impl_ParseAct_L2 ((SplitM l).1, ok)) (((SplitM l).1.drop 1).take ((SplitM l).1.length - 1)).length 0 (a.Kind, 0, 0) = some (.inl (a.Kind, a.A, a.B)) := by
  obtain ⟨ho, hs, _, _, hj⟩ := h
  have hp := act_of_join ho (fun f hf => (split_words hs).2.2 f hf |>.1) hj
  rw [hp]
  have hn := act_nums ho
  obtain ⟨r1, r2⟩ := act_rest ho
  obtain ⟨hk, _⟩ := actOk_cases ho
  have hd : (((⟨actWord a.Kind⟩ : Str) :: argsS a).drop 1).take (((⟨actWord a.Kind⟩ : Str) :: argsS a).length - 1) = argsS a := by simp
  have st : ∀ (k : Nat) (s : Int × Int × Int) (n : Int), 0 ≤ n → n ≤ 1000000000 → gx (argsS a) k = ⟨Lib.itoa n⟩ → impl_ParseAct_L2 ((⟨actWord a.Kind⟩ :: argsS a), ok) k s = some (.next (s.1, (bif ((k : Nat) : Int) == 0 then n else s.2.1), (bif ((k : Nat) : Int) == 0 then s.2.2 else n))) := fun k s n h0 h1 hg => by
    unfold impl_ParseAct_L2
    simp only [hd, hg, impl_ParseUint_yes h0 h1, Option.bind_some, Bool.not_true, cond_false]
    cases ((k : Nat) : Int) == 0 <;> rfl
  rw [hd]
  have e0 : (((0 : Nat) : Int) == 0) = true := rfl
  have e1 : (((0 + 1 : Nat) : Int) == 0) = false := rfl
  cases h2 : a.Kind == 2
  · have n2 : a.Kind ≠ 2 := by simpa using h2
    cases h4 : a.Kind == 4 || a.Kind == 5
    · have ea : argsS a = [⟨Lib.itoa a.A⟩] := by unfold argsS actArgs; rw [h2, h4]; rfl
      have eb : actArgs a = [a.A] := by unfold actArgs; rw [h2, h4]; rfl
      have hA := hn a.A (by rw [eb]; simp)
      have hlen : (argsS a).length = 1 := by rw [ea]; rfl
      rw [hlen, forO, st 0 _ a.A hA.1 hA.2 (by rw [ea]; rfl)]
      simp only [Option.bind_some, forO, e0, cond_true, r1 n2]
    · have hk4 : a.Kind = 4 ∨ a.Kind = 5 := by
        simp only [Bool.or_eq_true, beq_iff_eq] at h4
        exact h4
      have ea : argsS a = [] := by unfold argsS actArgs; rw [h2, h4]; rfl
      rw [ea, r1 n2, r2 hk4]
      rfl
  · have ea : argsS a = [⟨Lib.itoa a.A⟩, ⟨Lib.itoa a.B⟩] := by unfold argsS actArgs; rw [h2]; rfl
    have eb : actArgs a = [a.A, a.B] := by unfold actArgs; rw [h2]; rfl
    have hA := hn a.A (by rw [eb]; simp)
    have hB := hn a.B (by rw [eb]; simp)
    have hlen : (argsS a).length = 2 := by rw [ea]; rfl
    rw [hlen, forO, st 0 _ a.A hA.1 hA.2 (by rw [ea]; rfl)]
    simp only [Option.bind_some, e0, cond_true]
    rw [forO, st (0 + 1) _ a.B hB.1 hB.2 (by rw [ea]; rfl)]
    simp only [Option.bind_some, forO, e1, cond_false]
theorem impl_ParseAct_of (l : Str) : (∀ a, IsAct l a → impl_ParseAct l = some (a, true)) ∧ ((∀ a, ¬ IsAct l a) → impl_ParseAct l = some (⟨0, 0, 0⟩, false)) := by
  unfold impl_ParseAct
  rw [impl_SplitFields_eq]
  simp only [Option.bind_some, impl_within_b]
  cases hs : (SplitM l).2
  · exact ⟨fun a h => absurd h.2.1 (by rw [hs]; simp), fun _ => rfl⟩
  · cases hi : decide ((((SplitM l).1.length : Nat) : Int) ≥ 1) && decide ((((SplitM l).1.length : Nat) : Int) ≤ 3)
    · refine ⟨fun a h => ?_, fun _ => rfl⟩
      have e1 : decide ((((SplitM l).1.length : Nat) : Int) ≥ 1) = true := decide_eq_true (by have := h.2.2.1; omega)
      have e3 : decide ((((SplitM l).1.length : Nat) : Int) ≤ 3) = true := decide_eq_true (by have := h.2.2.2.1; omega)
      rw [e1, e3] at hi
      cases hi
    · simp only [Bool.and_eq_true, decide_eq_true_eq] at hi
      have h1 : 1 ≤ (SplitM l).1.length := by omega
      have h3 : (SplitM l).1.length ≤ 3 := by omega
      obtain ⟨_, _, hw⟩ := split_words hs
      have e : ((SplitM l).1, (SplitM l).2) = SplitM l := rfl
      obtain ⟨kk, k1, k2⟩ := impl_act_kind (SplitM l).1 (SplitM l).2 h1
      rw [e] at k1
      simp only [Bool.not_true, cond_false, Option.bind_some]
      rw [gd_pos (by simp), show ([(⟨[]⟩ : Str), (⟨[97, 100, 109, 105, 116]⟩ : Str), (⟨[115, 117, 98, 109, 105, 116]⟩ : Str), (⟨[115, 101, 119]⟩ : Str), (⟨[114, 111, 117, 110, 100]⟩ : Str), (⟨[121, 101, 97, 114]⟩ : Str), (⟨[108, 97, 99, 107]⟩ : Str)] : List Str).length = 7 from rfl, k1]
      simp only [Option.bind_some]
      rw [gd_pos ⟨h1, Nat.le_refl _⟩, gd_pos (by simp; omega)]
      have fin : ∀ e : Int × Int × Int, ((impl_FormatAct (GAct.mk e.1 e.2.1 e.2.2)).bind fun v4 => (bif (!v4.2) then some true else (strings_Join (SplitM l).1 (⟨[32]⟩ : Str)).bind fun v5 => some (!(seq v4.1 v5))).bind fun j4 => bif j4 then some ((GAct.mk 0 0 0), false) else some ((GAct.mk e.1 e.2.1 e.2.2), true)) = some (endM (SplitM l).1 e) := fun e => by
        rw [impl_FormatAct_eq, strings_Join_eq h1 h3 fun f hf => (hw f hf).2]
        unfold FormatActM endM
        cases ActOkM (GAct.mk e.1 e.2.1 e.2.2)
        · rfl
        · simp only [cond_true, Option.bind_some, Bool.true_and, Bool.not_true, cond_false]
          cases seq (actL (GAct.mk e.1 e.2.1 e.2.2)) ⟨joinL (SplitM l).1⟩ <;> rfl
      constructor
      · intro a h
        have hp := act_of_join h.1 (fun f hf => (hw f hf).1) h.2.2.2.2
        have hkk := k2 a.Kind (actOk_cases h.1).1 (by rw [hp]; rfl)
        have hy := impl_act_yes h (SplitM l).2
        rw [e] at hy
        rw [hkk, hy]
        simp only [sq_inl]
        rw [fin (a.Kind, a.A, a.B)]
        have es : seq (actL a) ⟨joinL (SplitM l).1⟩ = true := seqb_iff.2 h.2.2.2.2.symm
        have ea : (⟨a.Kind, a.A, a.B⟩ : GAct) = a := rfl
        unfold endM
        simp only [ea, h.1, es, Bool.and_self, cond_true]
      · intro h
        have hc := impl_act_nums (p := (SplitM l).1) (ok := (SplitM l).2) kk
        rw [e] at hc
        rcases hc with hc | ⟨v, hc⟩
        · rw [hc]; rfl
        · rw [hc]
          simp only [sq_inl]
          rw [fin v]
          unfold endM
          cases hx : ActOkM ⟨v.1, v.2.1, v.2.2⟩ && seq (actL ⟨v.1, v.2.1, v.2.2⟩) ⟨joinL (SplitM l).1⟩
          · rfl
          · simp only [Bool.and_eq_true] at hx
            exact absurd ⟨hx.1, hs, h1, h3, (seqb_iff.1 hx.2).symm⟩ (h ⟨v.1, v.2.1, v.2.2⟩)

theorem okB_iff {b : UInt8} : okB b = true ↔ 32 ≤ b.toNat ∧ b.toNat ≤ 126 := by
  unfold okB
  simp
  omega
theorem act_okB {a : GAct} (h : ActOkM a = true) : ∀ x ∈ (actL a).b, okB x = true ∧ (x == 10) = false := by
  intro x hx
  have key : 32 ≤ x.toNat ∧ x.toNat ≤ 126 := by
    rw [act_text] at hx
    rcases List.mem_append.1 hx with h1 | h1
    · have hw : ∀ x ∈ actWord a.Kind, 32 ≤ x.toNat ∧ x.toNat ≤ 126 := by
        obtain ⟨hk, _⟩ := actOk_cases h
        unfold actWord
        rcases hk with k | k | k | k | k | k <;> rw [k] <;> decide
      exact hw x h1
    · obtain ⟨l, hl, hxl⟩ := List.mem_flatten.1 h1
      obtain ⟨f, hf, rfl⟩ := List.mem_map.1 hl
      obtain ⟨n, hn, rfl⟩ := List.mem_map.1 hf
      rcases List.mem_cons.1 hxl with rfl | h2
      · exact ⟨Nat.le_refl 32, by decide⟩
      · have := itoa_bytes (act_nums h n hn).1 h2
        omega
  refine ⟨okB_iff.2 key, ?_⟩
  rw [beq_eq_false_iff_ne]
  intro e
  subst e
  have e2 : (10 : UInt8).toNat = 10 := rfl
  omega
theorem act_short {a : GAct} (h : ActOkM a = true) : (actL a).b.length ≤ 100 := by
  have hw : (actWord a.Kind).length ≤ 6 := by
    obtain ⟨hk, _⟩ := actOk_cases h
    unfold actWord
    rcases hk with k | k | k | k | k | k <;> rw [k] <;> decide
  have hn := numsL_len (act_nums h)
  have hl : (actArgs a).length ≤ 2 := by
    unfold actArgs
    cases a.Kind == 2
    · cases a.Kind == 4 || a.Kind == 5 <;> simp
    · simp
  show (lineL (actWord a.Kind) (actArgs a)).length ≤ 100
  unfold lineL
  rw [List.length_append]; omega
theorem args_len (a : GAct) : (argsS a).length ≤ 2 := by
  unfold argsS actArgs
  cases a.Kind == 2
  · cases a.Kind == 4 || a.Kind == 5 <;> simp
  · simp
theorem fld_act {a : GAct} (h : ActOkM a = true) {z : List UInt8} (hz : ∀ c, fldF z c = endF c) : fldF ((actL a).b ++ z) [] = ⟨actWord a.Kind⟩ :: argsS a := by
  rw [act_text, List.append_assoc, fld_word _ _ [] (act_word h).2, List.nil_append, fld_tail z hz _ _ (arg_words h), endF_cons (act_word h).1]
  rfl
/-- A line with an act's text, blanks ahead of it or behind it. -/
theorem act_line {a : GAct} (h : ActOkM a = true) {y z : List UInt8} (hy : y = [] ∨ y = [32, 32]) (hz : z = [] ∨ z = [32]) : IsAct ⟨y ++ (actL a).b ++ z⟩ a := by
  have hlen := act_short h
  have hal := args_len a
  have hz1 : ∀ c, fldF z c = endF c := by
    rcases hz with rfl | rfl
    · exact fld_nil
    · exact fld_sp
  have hf : fldF (y ++ (actL a).b ++ z) [] = ⟨actWord a.Kind⟩ :: argsS a := by
    rcases hy with rfl | rfl
    · exact fld_act h hz1
    · have h32 : ((32 : UInt8) == 32) = true := rfl
      have e : [32, 32] ++ (actL a).b ++ z = 32 :: 32 :: ((actL a).b ++ z) := by simp
      rw [e, fldF, h32, cond_true, fldF, h32, cond_true, fld_act h hz1]
      rfl
  have hyl : y.length ≤ 2 := by rcases hy with rfl | rfl <;> simp
  have hzl : z.length ≤ 1 := by rcases hz with rfl | rfl <;> simp
  have hall : (y ++ (actL a).b ++ z).all okB = true := by
    rw [List.all_eq_true]
    intro x hx
    rcases List.mem_append.1 hx with h1 | h1
    · rcases List.mem_append.1 h1 with h2 | h2
      · rcases hy with rfl | rfl
        · cases h2
        · have e : x = 32 := by simpa using h2
          rw [e]; decide
      · exact (act_okB h x h2).1
    · rcases hz with rfl | rfl
      · cases h1
      · rw [List.mem_singleton.1 h1]; decide
  have hS : SplitM ⟨y ++ (actL a).b ++ z⟩ = (⟨actWord a.Kind⟩ :: argsS a, true) := by
    unfold SplitM
    simp only
    rw [decide_eq_false (by simp only [List.length_append]; omega), cond_false, hall, cond_true, hf, decide_eq_false (by simp only [List.length_cons]; omega), cond_false]
  refine ⟨h, by rw [hS], by rw [hS]; simp, by rw [hS]; simp only [List.length_cons]; omega, ?_⟩
  rw [hS, act_text]
  rfl

theorem p_FnActTexts (code : List UInt8) (_ : Fit.ok code) : laws_FnActTexts code = some true := by
  unfold laws_FnActTexts laws_big
  simp only [Option.bind_some]
  by_cases hc : ((code.length : Nat) : Int) > 1048576
  · rw [decide_eq_true hc]; rfl
  rw [decide_eq_false hc, cond_false]
  have hcl : code.length ≤ 1048576 := by omega
  obtain ⟨g, acts, e0, _, hl, hok⟩ := draw_Acts hcl
  rw [e0]
  simp only [Option.bind_some]
  rw [gd_pos (by omega), forO_st (f := laws_FnActTexts_L1 (g, acts)) (C := Bool) (N := acts.length) (s0 := ()) (fun _ => ()) rfl (fun k hk => by
    have ha := hok _ (gx_mem hk)
    have hs := act_short ha
    unfold laws_FnActTexts_L1
    rw [impl_FormatAct_eq]
    unfold FormatActM
    simp only [ha, cond_true, Option.bind_some]
    rw [gd_pos (by simp only [List.length_cons, List.length_nil]; omega), gd_pos (by simp only [sadd, List.length_append, List.length_cons, List.length_nil]; omega)]
    have hi := (impl_ParseAct_of (sadd (sadd ⟨[32, 32]⟩ (actL (gx acts k))) ⟨[32]⟩)).1 (gx acts k) (act_line ha (y := [32, 32]) (z := [32]) (.inr rfl) (.inr rfl))
    rw [hi]
    have hb : ∀ p q r : Int, beqs [p, q, r] [p, q, r] = true := fun p q r => by simp [beqs]
    simp only [Option.bind_some, hb, Bool.not_true, Bool.or_self, cond_false])]
  rfl
end Go.Proofs.YtjfjbgihojiijaaGreatDoor
