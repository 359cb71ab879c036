/-
  The plain laws: what the functions compute, in Lean alone.
-/
import Derived.Test.YtfnfngicgikhgabP1
namespace Go.Proofs.Ytfnfngicgikhgab
open Go

theorem plain_exB' {b : GBlock} (hb : BlockOkM b = true) {l : List Int} (hl : InjM l) : PlainM (exB l b) = PlainM b := by
  rw [plain_view (exB_ok hb l), plain_view hb, plain_exB hb hl]
theorem patt_exB {b : GBlock} (hb : BlockOkM b = true) {l : List Int} (hl : InjM l) : PattM (exB l b) = PattM b := by
  unfold PattM
  rw [exB_ok hb l, hb, cond_true, cond_true]
  refine lst_congr fun k hk => ?_
  show PlainM (SeenM (exB l b) (k : Int)) = PlainM (SeenM b (k : Int))
  rw [seen_exchange hb hl.1 (by omega), plain_exB' (view_ok hb (by omega)).1 hl]
theorem patt_view {b : GBlock} (hb : BlockOkM b = true) {i : Nat} (hi : i < 8) : PattM (SeenM b (i : Int)) = PattM b := by
  have hv := (view_ok hb hi).1
  unfold PattM
  rw [hb, hv, cond_true, cond_true]
  refine lst_same (fun k hk => (plain_ok (view_ok hv (by omega)).1).1) (fun k hk => (plain_ok (view_ok hb (by omega)).1).1) (fun k hk => ?_) (fun k hk => ?_)
  · exact ⟨prodN i k, by have := prod_lt (i := i) (k := k); omega, by show PlainM (SeenM (SeenM b (i : Int)) (k : Int)) = _; rw [seen_seen hb hi (by omega)]⟩
  · obtain ⟨j, hj, e⟩ := view_back hb hi (k := k) (by omega)
    exact ⟨j, hj, by show PlainM (SeenM b (k : Int)) = _; rw [e]⟩

theorem form_is_view {b : GBlock} (hb : BlockOkM b = true) : ∃ k : Nat, k < 8 ∧ FormM b = SeenM b (k : Int) := by
  obtain ⟨k, hk, e⟩ := lst_in (fun k : Nat => SeenM b (k : Int)) 7
  refine ⟨k, by omega, ?_⟩
  unfold FormM
  rw [hb, cond_true, e]
theorem form_form {b : GBlock} (hb : BlockOkM b = true) : FormM (FormM b) = FormM b := by
  obtain ⟨k, hk, e⟩ := form_is_view hb
  rw [e, form_view hb hk]
  exact e
theorem form_first {b : GBlock} (hb : BlockOkM b = true) : (slt (textM (FormM b)) (textM b) || seq (textM (FormM b)) (textM b)) = true := by
  have h := lst_least (fun k : Nat => SeenM b (k : Int)) 7 0 (by omega)
  have h0 : SeenM b ((0 : Nat) : Int) = b := seen_zero hb
  have e : lstM (fun k : Nat => SeenM b (k : Int)) 7 = FormM b := by unfold FormM; rw [hb]; rfl
  rw [e] at h
  simp only [h0] at h
  cases h2 : slt (textM (FormM b)) (textM b)
  · rw [slt_total h2 h, Bool.false_or]
    simp [seq]
  · rfl
/-- Blocks of one form have one pattern. -/
theorem patt_of_form {b d : GBlock} (hb : BlockOkM b = true) (hd : BlockOkM d = true) (h : FormM b = FormM d) : PattM b = PattM d := by
  obtain ⟨i, hi, ei⟩ := form_is_view hb
  obtain ⟨k, hk, ek⟩ := form_is_view hd
  rw [← patt_view hb hi, ← patt_view hd hk, ← ei, ← ek, h]
theorem same_comm (b d : GBlock) : SameBlockM b d = SameBlockM d b := by
  rw [Bool.eq_iff_iff, sameBlock_iff, sameBlock_iff]
  exact eq_comm
theorem cellText_two (c : GCell) : 1 ≤ (cellTextM c).length := by
  unfold cellTextM
  cases c.Split == 1 <;> cases c.Split == 2 <;> simp
theorem cellsText_two : ∀ l : List GCell, 2 * l.length ≤ (cellsTextM l).length
  | [] => by simp
  | c :: l => by
    have h1 := cellText_two c
    have h2 := cellsText_two l
    simp only [cellsTextM, List.flatMap_cons, List.length_append, List.length_cons, List.length_nil] at h2 ⊢
    omega
theorem text_two {b : GBlock} (hb : BlockOkM b = true) : 2 * b.Cells.length ≤ (textM b).b.length := by
  unfold textM
  rw [hb]
  exact cellsText_two _

theorem patt_plain {b : GBlock} (hb : BlockOkM b = true) : PattM (PlainM b) = PattM b := by rw [plain_view hb, patt_exB hb (firstUse_inj hb)]
theorem plain_seen_plain {b : GBlock} (hb : BlockOkM b = true) {m : Nat} (hm : m < 8) : PlainM (SeenM (PlainM b) (m : Int)) = PlainM (SeenM b (m : Int)) := by
  have hf := firstUse_inj hb
  rw [plain_view hb, seen_exchange hb hf.1 hm, plain_exB' (view_ok hb hm).1 hf]
theorem patt_of_plain {b d : GBlock} (hb : BlockOkM b = true) (hd : BlockOkM d = true) {k : Nat} (hk : k < 8) (h : PlainM (SeenM d (k : Int)) = PlainM b) : PattM b = PattM d := by
  rw [← patt_plain hb, ← h, patt_plain (view_ok hd hk).1, patt_view hd hk]
theorem plain_of_patt {b d : GBlock} (hb : BlockOkM b = true) (hd : BlockOkM d = true) (h : PattM b = PattM d) : ∃ k : Nat, k < 8 ∧ PlainM (SeenM d (k : Int)) = PlainM b := by
  unfold PattM at h
  rw [hb, hd, cond_true, cond_true] at h
  obtain ⟨i, hi, e1⟩ := lst_in (fun k => PlainM (SeenM b (k : Int))) 7
  obtain ⟨j, hj, e2⟩ := lst_in (fun k => PlainM (SeenM d (k : Int))) 7
  rw [e1, e2] at h
  have hi8 : i < 8 := by omega
  have hj8 : j < 8 := by omega
  obtain ⟨v1, v2, _, _, _⟩ := prod_inv i hi8
  refine ⟨prodN j (invN i), prod_lt, ?_⟩
  have hz : SeenM b ((0 : Nat) : Int) = b := seen_zero hb
  calc PlainM (SeenM d ((prodN j (invN i) : Nat) : Int)) = PlainM (SeenM (SeenM d (j : Int)) ((invN i : Nat) : Int)) := by rw [seen_seen hd hj8 v1]
    _ = PlainM (SeenM (PlainM (SeenM d (j : Int))) ((invN i : Nat) : Int)) := (plain_seen_plain (view_ok hd hj8).1 v1).symm
    _ = PlainM (SeenM (PlainM (SeenM b (i : Int))) ((invN i : Nat) : Int)) := by rw [← h]
    _ = PlainM (SeenM (SeenM b (i : Int)) ((invN i : Nat) : Int)) := plain_seen_plain (view_ok hb hi8).1 v1
    _ = PlainM b := by rw [seen_seen hb hi8 v1, v2, hz]

theorem seen_len (b : GBlock) (k : Int) : (SeenM b k).Cells.length ≤ 16 := by
  cases h : BlockOkM b
  · unfold SeenM; rw [h]; simp
  cases hk : inR k 0 7
  · unfold SeenM; rw [hk]; simp
  obtain ⟨n, hn, n1, n4, hl, _⟩ := blockOk_spec (seen_ok h hk).1
  have hnn : n * n ≤ 4 * 4 := Nat.mul_le_mul n4 n4
  omega

theorem draw_Pair {c : List UInt8} {i g : Int} (h : CurOk c i) : ∃ b d i' g', spec_l29Pair c i g = some (b, d, i', g') ∧ CurOk c i' ∧ b.Cells.length ≤ 16 ∧ d.Cells.length ≤ 16 := by
  obtain ⟨b, i1, g1, e1, c1, hb⟩ := draw_AnyBlock (g := g) h
  obtain ⟨x, i2, g2, e2, c2, _⟩ := draw_Below (g := g1) (n := 4) c1 (by omega)
  unfold spec_l29Pair
  rw [e1]
  simp only [Option.bind_some, e2]
  cases x == 0
  · cases x == 1
    · cases x == 2
      · obtain ⟨d, i3, g3, e3, c3, hd⟩ := draw_AnyBlock (g := g2) c2
        simp only [cond_false, e3, Option.bind_some]
        exact ⟨_, _, _, _, rfl, c3, hb, hd⟩
      · obtain ⟨s, ⟨s1, s2⟩, es⟩ := lpO_inv2 (f := spec_l29Pair_L1 c) (N := b.Cells.length) (s0 := (b.Cells, i2, g2)) (fun _ s => s.1.length = b.Cells.length ∧ CurOk c s.2.1) ⟨rfl, c2⟩ fun k s hk hs => by
          obtain ⟨s1, s2⟩ := hs
          obtain ⟨y, i3, g3, e3, c3, _⟩ := draw_Below (g := s.2.2) (n := 2) s2 (by omega)
          unfold spec_l29Pair_L1 spec_l01Once
          rw [e3]
          simp only [Option.bind_some]
          cases y == 0
          · exact ⟨(s.1, i3, g3), ⟨s1, c3⟩, rfl⟩
          · obtain ⟨z, i4, g4, e4, c4, _⟩ := draw_Cell (g := g3) c3
            simp only [cond_true, e4, Option.bind_some]
            exact ⟨(s.1.set k z, i4, g4), ⟨by simp only [List.length_set]; exact s1, c4⟩, rfl⟩
        simp only [cond_false, cond_true, spec_l03Copy, List.nil_append, List.length_nil]
        rw [gd_pos (by omega)]
        simp only [Option.bind_some]
        rw [gd_pos (by omega), es]
        exact ⟨_, _, _, _, rfl, s2, hb, by simp only; omega⟩
    · obtain ⟨y, i3, g3, e3, c3, _⟩ := draw_Below (g := g2) (n := 8) c2 (by omega)
      obtain ⟨l, i4, g4, e4, c4, hl⟩ := draw_List (g := g3) c3
      have hs := seen_len b y
      simp only [cond_false, cond_true, e3, spec_SeenFrom_eq, Option.bind_some, e4]
      rw [spec_ExchangeBlock_eq (by omega) (by omega)]
      refine ⟨_, _, _, _, rfl, c4, hb, ?_⟩
      unfold ExchangeM
      cases BlockOkM (SeenM b y) && ListOkM l
      · exact hs
      · simp only [cond_true, List.length_map]; exact hs
  · obtain ⟨y, i3, g3, e3, c3, _⟩ := draw_Below (g := g2) (n := 8) c2 (by omega)
    simp only [cond_true, e3, spec_SeenFrom_eq, Option.bind_some]
    exact ⟨_, _, _, _, rfl, c3, hb, seen_len b y⟩

theorem sumN_cells {h w : Nat} (hw : 0 < w) {f : Nat → Int} {H : Nat → Nat → Int} (e : ∀ y x, y < h → x < w → f (y * w + x) = H y x) : sumN (h * w) f = isum (cellsM h w H) := by
  unfold sumN
  congr 1
  apply gx_ext
  · simp [cellsM_length]
  · intro k hk
    have hk' : k < h * w := by simpa using hk
    have hy : k / w < h := (Nat.div_lt_iff_lt_mul hw).2 hk'
    have hx := Nat.mod_lt k hw
    have ek : k / w * w + k % w = k := by rw [Nat.mul_comm]; exact Nat.div_add_mod k w
    have e2 : gx (cellsM h w H) k = gx (cellsM h w H) (k / w * w + k % w) := by rw [ek]
    rw [gx_range _ hk', e2, cellsM_gx hy hx, ← e _ _ hy hx, ek]

theorem colorAt_turn {c : GCell} (h : CellOkM c = true) {s : Nat} (hs : s < 4) : ColorAtM (TurnCellM c) s = ColorAtM c ((s + 3) % 4) := by
  obtain ⟨h1, h2, _, _, _, _, h7⟩ := cellOk_spec h
  have h4 : s = 0 ∨ s = 1 ∨ s = 2 ∨ s = 3 := by omega
  unfold TurnCellM
  rw [h, cond_true]
  by_cases e1 : c.Split = 1
  · rw [beq_iff_eq.2 e1, cond_true]
    rcases h4 with rfl | rfl | rfl | rfl <;> simp [ColorAtM, e1]
  · by_cases e2 : c.Split = 2
    · rw [beq_eq_false_iff_ne.2 e1, beq_iff_eq.2 e2, cond_false, cond_true]
      rcases h4 with rfl | rfl | rfl | rfl <;> simp [ColorAtM, e2]
    · have e0 : c.A = c.B := h7.1 (by omega)
      rw [beq_eq_false_iff_ne.2 e1, beq_eq_false_iff_ne.2 e2, cond_false, cond_false]
      rcases colorAt_mem c s with q | q <;> rcases colorAt_mem c ((s + 3) % 4) with r | r <;> rw [q, r] <;> omega
def mirS (s : Nat) : Nat := if s = 0 then 2 else if s = 2 then 0 else s
theorem colorAt_mirror {c : GCell} (h : CellOkM c = true) {s : Nat} (hs : s < 4) : ColorAtM (MirrorCellM c) s = ColorAtM c (mirS s) := by
  obtain ⟨h1, h2, _, _, _, _, h7⟩ := cellOk_spec h
  have h4 : s = 0 ∨ s = 1 ∨ s = 2 ∨ s = 3 := by omega
  unfold MirrorCellM
  rw [h, cond_true]
  by_cases e0 : c.Split = 0
  · have ea : c.A = c.B := h7.1 e0
    rw [beq_iff_eq.2 e0, cond_true]
    rcases colorAt_mem c s with q | q <;> rcases colorAt_mem c (mirS s) with r | r <;> rw [q, r] <;> omega
  · rw [beq_eq_false_iff_ne.2 e0, cond_false]
    by_cases e1 : c.Split = 1
    · rcases h4 with rfl | rfl | rfl | rfl <;> simp [ColorAtM, e1, mirS]
    · have e2 : c.Split = 2 := by omega
      rcases h4 with rfl | rfl | rfl | rfl <;> simp [ColorAtM, e2, mirS]

theorem cellLike4 (c d : GCell) : cellLikeM c d = (bif ColorAtM c 0 == ColorAtM d 0 then 1 else 0) + ((bif ColorAtM c 1 == ColorAtM d 1 then 1 else 0) + ((bif ColorAtM c 2 == ColorAtM d 2 then 1 else 0) + ((bif ColorAtM c 3 == ColorAtM d 3 then 1 else 0) + 0))) := rfl
theorem cellLike_turn {c d : GCell} (hc : CellOkM c = true) (hd : CellOkM d = true) : cellLikeM (TurnCellM c) (TurnCellM d) = cellLikeM c d := by
  rw [cellLike4, cellLike4]
  rw [colorAt_turn hc (s := 0) (by omega), colorAt_turn hc (s := 1) (by omega), colorAt_turn hc (s := 2) (by omega), colorAt_turn hc (s := 3) (by omega)]
  rw [colorAt_turn hd (s := 0) (by omega), colorAt_turn hd (s := 1) (by omega), colorAt_turn hd (s := 2) (by omega), colorAt_turn hd (s := 3) (by omega)]
  simp only [Nat.reduceAdd, Nat.reduceMod]
  omega
theorem cellLike_mirror {c d : GCell} (hc : CellOkM c = true) (hd : CellOkM d = true) : cellLikeM (MirrorCellM c) (MirrorCellM d) = cellLikeM c d := by
  rw [cellLike4, cellLike4]
  rw [colorAt_mirror hc (s := 0) (by omega), colorAt_mirror hc (s := 1) (by omega), colorAt_mirror hc (s := 2) (by omega), colorAt_mirror hc (s := 3) (by omega)]
  rw [colorAt_mirror hd (s := 0) (by omega), colorAt_mirror hd (s := 1) (by omega), colorAt_mirror hd (s := 2) (by omega), colorAt_mirror hd (s := 3) (by omega)]
  simp only [show mirS 0 = 2 from rfl, show mirS 1 = 1 from rfl, show mirS 2 = 0 from rfl, show mirS 3 = 3 from rfl]
  omega
theorem cellLike_comm (c d : GCell) : cellLikeM c d = cellLikeM d c := by
  rw [cellLike4, cellLike4]
  rw [Bool.beq_comm (a := ColorAtM c 0), Bool.beq_comm (a := ColorAtM c 1), Bool.beq_comm (a := ColorAtM c 2), Bool.beq_comm (a := ColorAtM c 3)]

theorem pair_data {b d : GBlock} (h : pairM b d = true) : ∃ n : Nat, b.Size = n ∧ d.Size = n ∧ 1 ≤ n ∧ n ≤ 4 ∧ b.Cells.length = n * n ∧ d.Cells.length = n * n ∧ (∀ i, i < n * n → CellOkM (gx b.Cells i) = true) ∧ ∀ i, i < n * n → CellOkM (gx d.Cells i) = true := by
  obtain ⟨h1, h2, hl, _⟩ := pair_len h
  obtain ⟨n, hn, n1, n4, bl, bc⟩ := blockOk_spec h1
  obtain ⟨m, hm, _, _, dl, dc⟩ := blockOk_spec h2
  simp only [pairM, Bool.and_eq_true, beq_iff_eq] at h
  have e : m = n := by have := h.2; omega
  subst e
  exact ⟨m, hn, hm, n1, n4, bl, dl, fun i hi => bc _ (gx_mem (by omega)), fun i hi => dc _ (gx_mem (by omega))⟩
theorem like_turn {b d : GBlock} (h : pairM b d = true) : LikeM (TurnBlockM b) (TurnBlockM d) = LikeM b d := by
  obtain ⟨h1, h2, _, _⟩ := pair_len h
  obtain ⟨n, hn, hm, n1, n4, bl, dl, bc, dc⟩ := pair_data h
  have hfi : ∀ i, i < n * n → cellLikeM (TurnCellM (gx b.Cells i)) (TurnCellM (gx d.Cells i)) = cellLikeM (gx b.Cells i) (gx d.Cells i) := fun i hi => cellLike_turn (bc i hi) (dc i hi)
  unfold LikeM TurnBlockM
  rw [h1, h2, hn, hm, bl]
  simp only [cond_true, Int.toNat_natCast, cellsM_length]
  rw [sumN_cells (by omega) (H := fun y x => cellLikeM (TurnCellM (gx b.Cells ((n - 1 - x) * n + y))) (TurnCellM (gx d.Cells ((n - 1 - x) * n + y)))) fun y x hy hx => by rw [cellsM_gx hy hx, cellsM_gx hy hx]]
  have hn' : n = 1 ∨ n = 2 ∨ n = 3 ∨ n = 4 := by omega
  rcases hn' with rfl | rfl | rfl | rfl <;> simp (disch := omega) [cellsM, List.range, List.range.loop, sumN, isum, hfi] <;> omega
theorem like_mirror {b d : GBlock} (h : pairM b d = true) : LikeM (MirrorBlockM b) (MirrorBlockM d) = LikeM b d := by
  obtain ⟨h1, h2, _, _⟩ := pair_len h
  obtain ⟨n, hn, hm, n1, n4, bl, dl, bc, dc⟩ := pair_data h
  have hfi : ∀ i, i < n * n → cellLikeM (MirrorCellM (gx b.Cells i)) (MirrorCellM (gx d.Cells i)) = cellLikeM (gx b.Cells i) (gx d.Cells i) := fun i hi => cellLike_mirror (bc i hi) (dc i hi)
  unfold LikeM MirrorBlockM
  rw [h1, h2, hn, hm, bl]
  simp only [cond_true, Int.toNat_natCast, cellsM_length]
  rw [sumN_cells (by omega) (H := fun y x => cellLikeM (MirrorCellM (gx b.Cells (y * n + (n - 1 - x)))) (MirrorCellM (gx d.Cells (y * n + (n - 1 - x))))) fun y x hy hx => by rw [cellsM_gx hy hx, cellsM_gx hy hx]]
  have hn' : n = 1 ∨ n = 2 ∨ n = 3 ∨ n = 4 := by omega
  rcases hn' with rfl | rfl | rfl | rfl <;> simp (disch := omega) [cellsM, List.range, List.range.loop, sumN, isum, hfi] <;> omega
theorem pair_of {b d : GBlock} (h1 : BlockOkM b = true) (h2 : BlockOkM d = true) (h3 : b.Size = d.Size) : pairM b d = true := by
  unfold pairM
  rw [h1, h2, h3]; simp
theorem pair_size {b d : GBlock} (h : pairM b d = true) : b.Size = d.Size := by
  simp only [pairM, Bool.and_eq_true, beq_iff_eq] at h
  exact h.2
theorem like_seen {b d : GBlock} (h : pairM b d = true) {k : Nat} (hk : k < 8) : LikeM (SeenM b (k : Int)) (SeenM d (k : Int)) = LikeM b d := by
  have turns : ∀ (b0 d0 : GBlock), pairM b0 d0 = true → ∀ j, LikeM (turnsM j b0) (turnsM j d0) = LikeM b0 d0 := fun b0 d0 h0 j => by
    obtain ⟨p1, p2, _, _⟩ := pair_len h0
    induction j with
    | zero => rfl
    | succ j ih =>
      obtain ⟨t1, t2⟩ := turns_ok p1 j
      obtain ⟨t3, t4⟩ := turns_ok p2 j
      rw [turnsM, turnsM, like_turn (pair_of t1 t3 (by rw [t2, t4]; exact pair_size h0)), ih]
  obtain ⟨h1, h2, _, _⟩ := pair_len h
  have hi : inR (k : Int) 0 7 = true := inR_iff.2 ⟨by omega, by omega⟩
  have hm : pairM (MirrorBlockM b) (MirrorBlockM d) = true := by
    refine pair_of (mirrorBlock_ok h1) (mirrorBlock_ok h2) ?_
    unfold MirrorBlockM
    rw [h1, h2]
    show b.Size = d.Size
    exact pair_size h
  unfold SeenM
  rw [h1, h2, hi]
  cases decide ((k : Int) ≥ 4)
  · exact turns b d h _
  · exact (turns _ _ hm _).trans (like_mirror h)

theorem like_comm {b d : GBlock} (h : pairM b d = true) : LikeM b d = LikeM d b := by
  unfold LikeM
  rw [(pair_len h).2.2.1]
  exact sumN_congr fun i _ => cellLike_comm _ _
theorem like_le {b d : GBlock} : 0 ≤ LikeM b d ∧ LikeM b d ≤ 4 * (b.Cells.length : Int) := sumN_bound fun i _ => cellLike_bound _ _
theorem pair_comm (b d : GBlock) : pairM b d = pairM d b := by
  rw [Bool.eq_iff_iff]
  constructor
  · intro h; exact pair_of (pair_len h).2.1 (pair_len h).1 (pair_size h).symm
  · intro h; exact pair_of (pair_len h).2.1 (pair_len h).1 (pair_size h).symm
theorem like_self (b : GBlock) : LikeM b b = 4 * (b.Cells.length : Int) := by
  unfold LikeM
  have e : ∀ i, i < b.Cells.length → cellLikeM (gx b.Cells i) (gx b.Cells i) = 4 := fun i _ => by rw [cellLike4]; simp
  rw [sumN_congr e]
  have : ∀ m : Nat, sumN m (fun _ => 4) = 4 * (m : Int) := fun m => by
    induction m with
    | zero => rfl
    | succ m ih => rw [sumN_succ, ih]; omega
  exact this _
theorem sumN_full {F : Nat → Int} {B : Int} : ∀ {m : Nat}, (∀ i, i < m → F i ≤ B) → sumN m F = B * (m : Int) → ∀ i, i < m → F i = B
  | 0, _, _, i, hi => absurd hi (by omega)
  | m + 1, h, hs, i, hi => by
    rw [sumN_succ] at hs
    have hle : ∀ {m : Nat}, (∀ i, i < m → F i ≤ B) → sumN m F ≤ B * (m : Int) := fun {m} hh => by
      induction m with
      | zero => simp [sumN_zero]
      | succ m ih =>
        have h1 := ih fun i hi => hh i (by omega)
        have h2 := hh m (by omega)
        rw [sumN_succ, show ((m + 1 : Nat) : Int) = (m : Int) + 1 by omega, Int.mul_add]
        omega
    have h1 := hle (m := m) fun i hi => h i (by omega)
    have h2 := h m (by omega)
    rw [show ((m + 1 : Nat) : Int) = (m : Int) + 1 by omega, Int.mul_add] at hs
    by_cases e : i = m
    · subst e; omega
    · exact sumN_full (m := m) (fun i hi => h i (by omega)) (by omega) i (by omega)
theorem cell_full {c d : GCell} (hc : CellOkM c = true) (hd : CellOkM d = true) (h : cellLikeM c d = 4) : c = d := by
  obtain ⟨c1, c2, _, _, _, _, c7⟩ := cellOk_spec hc
  obtain ⟨d1, d2, _, _, _, _, d7⟩ := cellOk_spec hd
  rw [cellLike4] at h
  have hb : ∀ x : Bool, 0 ≤ (bif x then (1 : Int) else 0) ∧ (bif x then (1 : Int) else 0) ≤ 1 := fun x => by cases x <;> simp
  have h0 := hb (ColorAtM c 0 == ColorAtM d 0)
  have h1 := hb (ColorAtM c 1 == ColorAtM d 1)
  have h2 := hb (ColorAtM c 2 == ColorAtM d 2)
  have h3 := hb (ColorAtM c 3 == ColorAtM d 3)
  have ht : ∀ x : Bool, (bif x then (1 : Int) else 0) = 1 → x = true := fun x => by cases x <;> simp
  have e0 := eq_of_beq (ht _ (show (bif ColorAtM c 0 == ColorAtM d 0 then (1 : Int) else 0) = 1 by omega))
  have e1 := eq_of_beq (ht _ (show (bif ColorAtM c 1 == ColorAtM d 1 then (1 : Int) else 0) = 1 by omega))
  have e2 := eq_of_beq (ht _ (show (bif ColorAtM c 2 == ColorAtM d 2 then (1 : Int) else 0) = 1 by omega))
  have e3 := eq_of_beq (ht _ (show (bif ColorAtM c 3 == ColorAtM d 3 then (1 : Int) else 0) = 1 by omega))
  have ea : c.A = d.A := by simpa [ColorAtM] using e0
  have eb : c.B = d.B := by simpa [ColorAtM] using e2
  have es : c.Split = d.Split := by
    have col1 : ∀ q : GCell, ColorAtM q 1 = bif q.Split == 1 then q.A else q.B := fun q => by
      unfold ColorAtM; cases q.Split == 1 <;> cases q.Split == 2 <;> rfl
    rw [col1, col1] at e1
    by_cases hab : c.A = c.B
    · have := c7.2 hab
      have := d7.2 (by omega)
      omega
    · have : ¬ c.Split = 0 := fun e => hab (c7.1 e)
      have : ¬ d.Split = 0 := fun e => hab (by have := d7.1 e; omega)
      by_cases q1 : c.Split = 1
      · by_cases q2 : d.Split = 1
        · omega
        · rw [beq_iff_eq.2 q1, beq_eq_false_iff_ne.2 q2, cond_true, cond_false] at e1
          omega
      · by_cases q2 : d.Split = 1
        · rw [beq_iff_eq.2 q2, beq_eq_false_iff_ne.2 q1, cond_true, cond_false] at e1
          omega
        · omega
  have hce : c = ⟨c.Split, c.A, c.B⟩ := rfl
  rw [hce, es, ea, eb]
theorem like_full {b d : GBlock} (h : pairM b d = true) (hf : LikeM b d = 4 * (b.Cells.length : Int)) : b = d := by
  obtain ⟨n, hn, hm, n1, n4, bl, dl, bc, dc⟩ := pair_data h
  unfold LikeM at hf
  have hi := sumN_full (B := 4) (fun i _ => (cellLike_bound _ _).2) hf
  have hc : b.Cells = d.Cells := gx_ext (by omega) fun k hk => cell_full (bc k (by omega)) (dc k (by omega)) (hi k hk)
  have hs := pair_size h
  have e1 : b = ⟨b.Size, b.Cells⟩ := rfl
  rw [e1, hc, hs]

theorem mx_att {g : Nat → Int} (h0 : ∀ k, 0 ≤ g k) : ∀ n, 0 < n → ∃ k, k < n ∧ mx n g = g k
  | 0, h => absurd h (by omega)
  | n + 1, _ => by
    unfold mx
    split
    · exact ⟨n, by omega, rfl⟩
    · rename_i hg
      rcases Nat.eq_zero_or_pos n with e | e
      · subst e
        refine ⟨0, by omega, ?_⟩
        have := h0 0
        simp only [mx] at hg ⊢
        omega
      · obtain ⟨k, hk, hm⟩ := mx_att h0 n e
        exact ⟨k, by omega, hm⟩
theorem like_back {b d : GBlock} (h : pairM b d = true) {k : Nat} (hk : k < 8) : LikeM b (SeenM d (k : Int)) = LikeM d (SeenM b ((invN k : Nat) : Int)) := by
  obtain ⟨h1, h2, _, _⟩ := pair_len h
  obtain ⟨v1, v2, v3, _, _⟩ := prod_inv k hk
  have hp := pair_seen h hk
  have hz : SeenM d ((0 : Nat) : Int) = d := seen_zero h2
  rw [← like_seen hp v1, seen_seen h2 hk v1, v2, hz]
  exact like_comm (pair_of (view_ok h1 v1).1 h2 (by rw [(view_ok h1 v1).2]; exact pair_size h))
theorem bestLike_comm {b d : GBlock} (h : pairM b d = true) : BestLikeM b d = BestLikeM d b := by
  have key : ∀ b d : GBlock, pairM b d = true → BestLikeM b d ≤ BestLikeM d b := fun b d h => by
    unfold BestLikeM
    refine mx_le_of (mx_nonneg _ _) fun k hk => ?_
    rw [like_back h hk]
    exact mx_le (g := fun k : Nat => LikeM d (SeenM b (k : Int))) (prod_inv k hk).1
  exact Int.le_antisymm (key b d h) (key d b (by rw [pair_comm]; exact h))
theorem bestLike_ge {b d : GBlock} (h : pairM b d = true) : LikeM b d ≤ BestLikeM b d := by
  have := mx_le (g := fun k : Nat => LikeM b (SeenM d (k : Int))) (n := 8) (k := 0) (by omega)
  have hz : SeenM d ((0 : Nat) : Int) = d := seen_zero (pair_len h).2.1
  simp only [hz] at this
  exact this
theorem bestLike_le (b d : GBlock) : BestLikeM b d ≤ 4 * (b.Cells.length : Int) := mx_le_of (by omega) fun k _ => like_le.2
theorem bestLike_full {b d : GBlock} (h : pairM b d = true) : BestLikeM b d = 4 * (b.Cells.length : Int) ↔ FormM b = FormM d := by
  obtain ⟨h1, h2, _, _⟩ := pair_len h
  constructor
  · intro hf
    obtain ⟨k, hk, e⟩ := mx_att (g := fun k : Nat => LikeM b (SeenM d (k : Int))) (fun k => like_le.1) 8 (by omega)
    have : LikeM b (SeenM d (k : Int)) = 4 * (b.Cells.length : Int) := by rw [← hf]; exact e.symm
    have hb := like_full (pair_seen h hk) this
    rw [hb, form_view h2 hk]
  · intro hf
    obtain ⟨i, hi, e1⟩ := form_is_view h1
    obtain ⟨j, hj, e2⟩ := form_is_view h2
    obtain ⟨v1, v2, _, _, _⟩ := prod_inv i hi
    have hz : SeenM b ((0 : Nat) : Int) = b := seen_zero h1
    have hb : SeenM d ((prodN j (invN i) : Nat) : Int) = b := by
      rw [← seen_seen h2 hj v1, ← e2, ← hf, e1, seen_seen h1 hi v1, v2, hz]
    have hge := mx_le (g := fun k : Nat => LikeM b (SeenM d (k : Int))) (n := 8) (k := prodN j (invN i)) prod_lt
    simp only [hb, like_self] at hge
    exact Int.le_antisymm (bestLike_le b d) hge

theorem impl_BestView_ok {b d : GBlock} (h : pairM b d = true) : ∃ k : Nat, k < 8 ∧ impl_BestView b d = some (k : Int) ∧ LikeM b (SeenM d (k : Int)) = BestLikeM b d := by
  unfold impl_BestView
  simp only [impl_arePaired_eq, h, Option.bind_some, Bool.not_true, cond_false, impl_BestLikeness_ok h, impl_views_eq, views_len]
  rw [gd_pos (by omega), forO_find (f := impl_BestView_L1 b (BestLikeM b d) (viewsM d)) (fun k : Nat => LikeM b (SeenM d (k : Int)) == BestLikeM b d) (fun k => (k : Int)) (fun k hk => by
    unfold impl_BestView_L1
    rw [views_gx _ hk, impl_Likeness_ok (pair_seen h hk)]
    simp only [Option.bind_some]
    cases LikeM b (SeenM d (k : Int)) == BestLikeM b d <;> rfl)]
  cases hk : (List.range 8).find? fun k : Nat => LikeM b (SeenM d (k : Int)) == BestLikeM b d with
  | none =>
    obtain ⟨k, k8, e⟩ := mx_att (g := fun k : Nat => LikeM b (SeenM d (k : Int))) (fun k => like_le.1) 8 (by omega)
    have h2 := List.find?_eq_none.1 hk k (by simpa using k8)
    exact absurd (beq_iff_eq.2 e.symm) h2
  | some k =>
    have k8 : k < 8 := by simpa using List.mem_of_find?_eq_some hk
    have hp := List.find?_some hk
    exact ⟨k, k8, rfl, eq_of_beq hp⟩

/-- One exchange behind another one. -/
def compM (g f : List Int) : List Int := (List.range 6).map fun x => gx g (gx f x).toNat
theorem comp_gx (g f : List Int) {x : Int} (h0 : 0 ≤ x) (h1 : x ≤ 5) : gx (compM g f) x.toNat = gx g (gx f x.toNat).toNat := gx_range _ (by omega)
theorem comp_inj {g f : List Int} (hg : InjM g) (hf : InjM f) : InjM (compM g f) := by
  have hr : ∀ x : Nat, x < 6 → 0 ≤ gx f x ∧ gx f x ≤ 5 := fun x hx => list_gx hf.1 (x := (x : Int)) (by omega) (by omega)
  refine ⟨listOk_of (by simp [compM]) fun x hx => ?_, ?_⟩
  · obtain ⟨a, ha, rfl⟩ := List.mem_map.1 hx
    have ha6 : a < 6 := by simpa using ha
    have := hr a ha6
    exact list_gx hg.1 this.1 this.2
  · unfold compM List.Nodup
    rw [List.pairwise_map]
    refine List.Pairwise.imp_of_mem (fun {x y} hx hy hne hxy => hne ?_) (List.nodup_range (n := 6))
    have hx6 : x < 6 := by simpa using hx
    have hy6 : y < 6 := by simpa using hy
    have rx := hr x hx6
    have ry := hr y hy6
    have e1 := inj_gx hg rx.1 rx.2 ry.1 ry.2
    rw [beq_iff_eq.2 hxy] at e1
    have e2 := eq_of_beq e1.symm
    have e3 := inj_gx hf (x := (x : Int)) (y := (y : Int)) (by omega) (by omega) (by omega) (by omega)
    simp only [Int.toNat_natCast] at e3
    rw [beq_iff_eq.2 e2] at e3
    have := eq_of_beq e3.symm
    omega
theorem exB_comp {b : GBlock} (hb : BlockOkM b = true) {g f : List Int} (hg : InjM g) (hf : InjM f) : exB g (exB f b) = exB (compM g f) b := by
  obtain ⟨n, hn, n1, n4, hl, hc⟩ := blockOk_spec hb
  have e : (exB g (exB f b)).Cells = (exB (compM g f) b).Cells := by
    rw [exB_inj_cells (exB_ok hb f) hg, exB_inj_cells hb hf, exB_inj_cells hb (comp_inj hg hf), List.map_map]
    refine List.map_congr_left fun c hm => ?_
    obtain ⟨_, _, a0, a1, b0, b1, _⟩ := cellOk_spec (hc c hm)
    simp only [Function.comp, comp_gx g f a0 a1, comp_gx g f b0 b1]
  calc exB g (exB f b) = ⟨b.Size, (exB g (exB f b)).Cells⟩ := rfl
    _ = ⟨b.Size, (exB (compM g f) b).Cells⟩ := by rw [e]
    _ = exB (compM g f) b := rfl
theorem six_inj : InjM six := by unfold InjM; decide +kernel
theorem six_gx : ∀ x : Nat, x < 6 → gx six x = (x : Int) := by decide +kernel
theorem exB_six {b : GBlock} (hb : BlockOkM b = true) : exB six b = b := by
  obtain ⟨n, hn, n1, n4, hl, hc⟩ := blockOk_spec hb
  have e : (exB six b).Cells = b.Cells := by
    rw [exB_inj_cells hb six_inj]
    have : b.Cells.map (fun c : GCell => (⟨c.Split, gx six c.A.toNat, gx six c.B.toNat⟩ : GCell)) = b.Cells.map id := List.map_congr_left fun c hm => by
      obtain ⟨_, _, a0, a1, b0, b1, _⟩ := cellOk_spec (hc c hm)
      rw [six_gx _ (by omega), six_gx _ (by omega), Int.toNat_of_nonneg a0, Int.toNat_of_nonneg b0]; rfl
    rw [this, List.map_id]
  calc exB six b = ⟨b.Size, (exB six b).Cells⟩ := rfl
    _ = ⟨b.Size, b.Cells⟩ := by rw [e]
    _ = b := rfl

/-- Different colors for different ones can be completed. -/
theorem ext_inj : ∀ (L p : List Int), p.length = L.length → L.Nodup → p.Nodup → (∀ u ∈ L, 0 ≤ u ∧ u ≤ 5) → (∀ v ∈ p, 0 ≤ v ∧ v ≤ 5) → ∃ l, InjM l ∧ ∀ q ∈ L.zip p, gx l q.1.toNat = q.2
  | [], _, _, _, _, _, _ => ⟨six, six_inj, by simp⟩
  | _ :: _, [], h, _, _, _, _ => by simp at h
  | u :: L, v :: p, hl, hn, hp, hu, hv => by
    rw [List.nodup_cons] at hn hp
    obtain ⟨l, l1, l2⟩ := ext_inj L p (by simpa using hl) hn.2 hp.2 (fun w hw => hu w (by simp [hw])) (fun w hw => hv w (by simp [hw]))
    obtain ⟨u0, u1⟩ := hu u (by simp)
    obtain ⟨v0, v1⟩ := hv v (by simp)
    obtain ⟨w0, w1⟩ := list_gx l1.1 u0 u1
    have hsw := sw_inj (i := (gx l u.toNat).toNat) (k := v.toNat) (by omega) (by omega)
    have sw1 : ∀ i, i < 6 → ∀ k, k < 6 → gx (swM i k) i = (k : Int) := by decide +kernel
    have sw2 : ∀ i, i < 6 → ∀ k, k < 6 → ∀ x, x < 6 → (x = i ∨ x = k ∨ gx (swM i k) x = (x : Int)) := by decide +kernel
    have s1 := sw1 (gx l u.toNat).toNat (by omega) v.toNat (by omega)
    have s2 := sw2 (gx l u.toNat).toNat (by omega) v.toNat (by omega)
    refine ⟨compM (swM (gx l u.toNat).toNat v.toNat) l, comp_inj hsw l1, fun q hq => ?_⟩
    rw [List.zip_cons_cons, List.mem_cons] at hq
    rcases hq with rfl | hq
    · rw [comp_gx _ _ u0 u1, s1]
      exact Int.toNat_of_nonneg v0
    · have hq1 := (List.of_mem_zip hq).1
      have hq2 := (List.of_mem_zip hq).2
      obtain ⟨x0, x1⟩ := hu q.1 (by simp [hq1])
      obtain ⟨y0, y1⟩ := hv q.2 (by simp [hq2])
      have hl2 := l2 q hq
      have hne1 : q.2 ≠ v := fun e => hp.1 (by rw [← e]; exact hq2)
      have hne2 : q.2 ≠ gx l u.toNat := fun e => by
        have e3 := inj_gx l1 x0 x1 u0 u1
        rw [hl2, beq_iff_eq.2 e] at e3
        have := eq_of_beq e3.symm
        exact hn.1 (by rw [← this]; exact hq1)
      rw [comp_gx _ _ x0 x1, hl2]
      rcases s2 q.2.toNat (by omega) with e | e | e
      · exact absurd (show q.2 = gx l u.toNat by omega) hne2
      · exact absurd (show q.2 = v by omega) hne1
      · rw [e]; exact Int.toNat_of_nonneg y0
theorem cols_in (d : GBlock) : ∀ u ∈ colsM d, 0 ≤ u ∧ u ≤ 5 := fun u hu => (mem_cols.1 hu).1
theorem way_exB {d : GBlock} (hd : BlockOkM d = true) {p : List Int} (hl : p.length = (colsM d).length) (hr : ∀ x ∈ p, 0 ≤ x ∧ x ≤ 5) (hn : p.Nodup) : ∃ l, InjM l ∧ (∀ q ∈ (colsM d).zip p, gx l q.1.toNat = q.2) ∧ exB (wayM (colsM d) p) d = exB l d := by
  obtain ⟨l, l1, l2⟩ := ext_inj (colsM d) p hl (cols_nodup d) hn (cols_in d) hr
  refine ⟨l, l1, l2, ?_⟩
  have hw := way_ok (L := colsM d) hr
  have hag : ∀ x, x ∈ colsM d → gx (wayM (colsM d) p) x.toNat = gx l x.toNat := fun x hx => by
    have hm : x ∈ ((colsM d).zip p).map Prod.fst := by rw [zip_fst hl]; exact hx
    obtain ⟨q, hq, rfl⟩ := List.mem_map.1 hm
    rw [l2 q hq]
    exact asg_gx _ _ _ rfl (cols_nodup d) (cols_in d) q hq
  obtain ⟨n, hdn, n1, n4, hlen, hc⟩ := blockOk_spec hd
  have hcells : (exB (wayM (colsM d) p) d).Cells = (exB l d).Cells := List.map_congr_left fun c hm => by
    obtain ⟨_, _, a0, a1, b0, b1, _⟩ := cellOk_spec (hc c hm)
    have ha : c.A ∈ colsM d := mem_cols.2 ⟨⟨a0, a1⟩, by unfold usedM; rw [List.any_eq_true]; exact ⟨c, hm, by simp⟩⟩
    have hb : c.B ∈ colsM d := mem_cols.2 ⟨⟨b0, b1⟩, by unfold usedM; rw [List.any_eq_true]; exact ⟨c, hm, by simp⟩⟩
    show ExchangeCellM c (wayM (colsM d) p) = ExchangeCellM c l
    unfold ExchangeCellM
    rw [hw, l1.1, hag _ ha, hag _ hb]
  calc exB (wayM (colsM d) p) d = ⟨d.Size, (exB (wayM (colsM d) p) d).Cells⟩ := rfl
    _ = ⟨d.Size, (exB l d).Cells⟩ := by rw [hcells]
    _ = exB l d := rfl

theorem TM_nonneg (b d : GBlock) (u v : Int) : 0 ≤ TM b d u v := by
  unfold TM
  refine (sumN_bound (B := 4) fun i _ => ?_).1
  have := sumN_bound (m := 4) (F := fun s => cnt1 u v (ColorAtM (gx d.Cells i) s) (ColorAtM (gx b.Cells i) s)) (B := 1) fun s _ => cnt1_bound _ _ _ _
  omega
theorem patLike_def {b d : GBlock} (h : pairM b d = true) (h3 : (colsM d).length ≤ 3) : PatLikeM b d = mx 8 (fun k => bestM (TM b (SeenM d (k : Int))) (colsM d) []) := by
  unfold PatLikeM
  rw [h, decide_eq_true h3]; rfl
/-- Any exchange of different colors is no better than the best. -/
theorem patLike_ge {b d : GBlock} (h : pairM b d = true) (h3 : (colsM d).length ≤ 3) {k : Nat} (hk : k < 8) {l : List Int} (hl : InjM l) : LikeM b (exB l (SeenM d (k : Int))) ≤ PatLikeM b d := by
  obtain ⟨h1, h2, _, _⟩ := pair_len h
  have hp : ((colsM d).map fun x => gx l x.toNat).length = (colsM d).length := by simp
  have hfst : ((colsM d).zip ((colsM d).map fun x => gx l x.toNat)).map Prod.fst = colsM d := zip_fst hp
  rw [like_exchange (pair_seen h hk) hl.1 (ps := (colsM d).zip ((colsM d).map fun x => gx l x.toNat)) (by rw [hfst]; exact cols_nodup d) (fun i hi s => by rw [hfst]; exact seen_colors h2 hk hi s) (fun q hq => by
    rw [List.zip_map_right] at hq
    obtain ⟨r, hr, rfl⟩ := List.mem_map.1 hq
    have : ∀ (L : List Int) (r : Int × Int), r ∈ L.zip L → r.1 = r.2 := fun L => by
      induction L with
      | nil => intro r hr; simp at hr
      | cons x L ih =>
        intro r hr
        rw [List.zip_cons_cons, List.mem_cons] at hr
        rcases hr with rfl | hr
        · rfl
        · exact ih r hr
    have e := this _ _ hr
    simp [e])]
  refine Int.le_trans (best_ge (T := TM b (SeenM d (k : Int))) (colsM d) [] _ hp (fun x hx => ?_) ?_ (by simp)) ?_
  · obtain ⟨y, hy, rfl⟩ := List.mem_map.1 hx
    have := cols_in d y hy
    exact list_gx hl.1 this.1 this.2
  · unfold List.Nodup
    rw [List.pairwise_map]
    refine List.Pairwise.imp_of_mem (fun {x y} hx hy hne hxy => hne ?_) (cols_nodup d)
    have a := cols_in d x hx
    have c := cols_in d y hy
    have e := inj_gx hl a.1 a.2 c.1 c.2
    rw [beq_iff_eq.2 hxy] at e
    exact eq_of_beq e.symm
  · rw [patLike_def h h3]
    exact mx_le (g := fun k : Nat => bestM (TM b (SeenM d (k : Int))) (colsM d) []) hk
/-- The best is one of these. -/
theorem patLike_att {b d : GBlock} (h : pairM b d = true) (h3 : (colsM d).length ≤ 3) : ∃ (k : Nat) (l : List Int), k < 8 ∧ InjM l ∧ PatLikeM b d ≤ LikeM b (SeenM (exB l d) (k : Int)) := by
  obtain ⟨h1, h2, _, _⟩ := pair_len h
  rw [patLike_def h h3]
  obtain ⟨k, hk, e⟩ := mx_att (g := fun k : Nat => bestM (TM b (SeenM d (k : Int))) (colsM d) []) (fun k => by
    rcases hL : colsM d with _ | ⟨u, r⟩
    · exact Int.le_refl _
    · exact mxc_nonneg _ _ _) 8 (by omega)
  obtain ⟨p, p1, p2, p3, _, p5⟩ := best_att (T := TM b (SeenM d (k : Int))) (fun u v => TM_nonneg _ _ u v) (colsM d) [] (by simpa using h3)
  obtain ⟨l, l1, _, l3⟩ := way_exB h2 p1 p2 p3
  refine ⟨k, l, hk, l1, ?_⟩
  rw [e, ← l3, like_way h hk p1 p2]
  exact p5
theorem patLike_le {b d : GBlock} (h : pairM b d = true) (h3 : (colsM d).length ≤ 3) : PatLikeM b d ≤ 4 * (b.Cells.length : Int) := by
  obtain ⟨k, l, _, _, h5⟩ := patLike_att h h3
  exact Int.le_trans h5 like_le.2
theorem patLike_best {b d : GBlock} (h : pairM b d = true) (h3 : (colsM d).length ≤ 3) : BestLikeM b d ≤ PatLikeM b d := by
  obtain ⟨h1, h2, _, _⟩ := pair_len h
  refine mx_le_of ?_ fun k hk => ?_
  · rw [patLike_def h h3]; exact mx_nonneg _ _
  · have := patLike_ge h h3 hk six_inj
    rw [exB_six (view_ok h2 hk).1] at this
    exact this
theorem patLike_full {b d : GBlock} (h : pairM b d = true) (h3 : (colsM d).length ≤ 3) : PatLikeM b d = 4 * (b.Cells.length : Int) ↔ PattM b = PattM d := by
  obtain ⟨h1, h2, _, _⟩ := pair_len h
  constructor
  · intro hf
    obtain ⟨k, l, hk, hl, h5⟩ := patLike_att h h3
    have hx := exB_ok h2 l
    have hp : pairM b (SeenM (exB l d) (k : Int)) = true := pair_seen (pair_of h1 hx (pair_size h : b.Size = d.Size)) hk
    have hfull := like_full hp (Int.le_antisymm like_le.2 (by rw [← hf]; exact h5))
    rw [hfull, patt_view hx hk, patt_exB h2 hl]
  · intro hf
    obtain ⟨k, hk, hp⟩ := plain_of_patt h1 h2 hf
    have hv := (view_ok h2 hk).1
    have f1 := firstUse_inj hv
    have f2 := firstUse_inj h1
    obtain ⟨u1, u2⟩ := undo_inj f2
    rw [plain_view hv, plain_view h1] at hp
    have hb : exB (compM (undoM (FirstUseM b)) (FirstUseM (SeenM d (k : Int)))) (SeenM d (k : Int)) = b := by
      rw [← exB_comp hv u1 f1, hp, exB_undo h1 f2 u1 u2]
    have hge := patLike_ge h h3 hk (comp_inj u1 f1)
    rw [hb, like_self] at hge
    exact Int.le_antisymm (patLike_le h h3) hge

theorem draw_Likeness {c : List UInt8} (h : c.length ≤ 1048576) : ∃ b d, spec_DrawLikeness c = some (b, d) ∧ b.Cells.length ≤ 16 ∧ d.Cells.length ≤ 16 := by
  obtain ⟨g0, e0, c0⟩ := draw_New h
  obtain ⟨b, d, i1, g1, e1, _, hb, hd⟩ := draw_Pair (g := g0) c0
  unfold spec_DrawLikeness
  rw [e0]
  simp only [Option.bind_some, e1]
  exact ⟨b, d, rfl, hb, hd⟩

theorem unpaired {b d : GBlock} (h : pairM b d = false) : impl_Likeness b d = some 0 ∧ impl_BestLikeness b d = some 0 := by
  unfold impl_Likeness impl_BestLikeness
  simp only [impl_arePaired_eq, h, Option.bind_some, Bool.not_false, cond_true]
  exact ⟨trivial, trivial⟩

theorem p_FnLikeness (code : List UInt8) (_ : Fit.ok code) : laws_FnLikeness code = some true := by
  unfold laws_FnLikeness laws_big
  simp only [Option.bind_some]
  by_cases hc : ((code.length : Nat) : Int) > 1048576
  · rw [decide_eq_true hc]; rfl
  rw [decide_eq_false hc, cond_false]
  have hcl : code.length ≤ 1048576 := by omega
  obtain ⟨b, d, e0, hbl, hdl⟩ := draw_Likeness hcl
  rw [e0]
  simp only [Option.bind_some]
  have hj2 : ((spec_BlockOk b).bind fun v9 => bif (!v9) then some true else (spec_BlockOk d).bind fun v10 => bif (!v10) then some true else some (b.Size != d.Size)) = some (!pairM b d) := by
    simp only [spec_BlockOk_eq, Option.bind_some]
    unfold pairM
    cases BlockOkM b
    · rfl
    cases BlockOkM d
    · rfl
    rfl
  rw [hj2]
  cases h : pairM b d
  · obtain ⟨u1, u2⟩ := unpaired h
    obtain ⟨u3, u4⟩ := unpaired (b := d) (d := b) (by rw [pair_comm]; exact h)
    have u5 : impl_BestView b d = some (-1) := by
      unfold impl_BestView
      simp only [impl_arePaired_eq, h, Option.bind_some, Bool.not_false, cond_true]
    have u6 : PatLikeM b d = 0 := by unfold PatLikeM; rw [h]; rfl
    have u7 : impl_CellLikeness (GCell.mk 0 0 0) (GCell.mk 0 0 0) = some 4 := by decide +kernel
    rw [u1, u2, u5, impl_PatternLikeness_eq, u6, u3, u4]
    simp only [Option.bind_some, u7]
    rfl
  · obtain ⟨h1, h2, hlen, _⟩ := pair_len h
    have hdb : pairM d b = true := by rw [pair_comm]; exact h
    have hbb : pairM b b = true := pair_of h1 h1 rfl
    obtain ⟨k, hk, ek, hkv⟩ := impl_BestView_ok h
    have hbc := bestLike_comm h
    have hge := bestLike_ge h
    have hle := like_le (b := b) (d := d)
    have hw : wr (4 * ((b.Cells.length : Nat) : Int)) = 4 * ((b.Cells.length : Nat) : Int) := wr_of (by omega) (by omega)
    have hcols : ColorsM d = colsM d := by unfold ColorsM; rw [h2]; rfl
    have hsame : spec_AreSame b d = some (SameBlockM (FormM b) (FormM d)) := by
      unfold spec_AreSame
      simp only [spec_BlockOk_eq, h1, h2, Option.bind_some, cond_true, spec_LeastForm_eq]
      rw [spec_SameBlock_eq (sm_len (blockOk_sm (form_ok h1).1))]
      rfl
    have hpatt : ArePattM b d = SameBlockM (PattM b) (PattM d) := by unfold ArePattM; rw [h1, h2]; rfl
    have hf1 : (BestLikeM b d == 4 * ((b.Cells.length : Nat) : Int)) = SameBlockM (FormM b) (FormM d) := by
      rw [Bool.eq_iff_iff, beq_iff_eq, sameBlock_iff]; exact bestLike_full h
    rw [impl_Likeness_ok h, impl_BestLikeness_ok h, ek, impl_PatternLikeness_eq, impl_Likeness_ok hdb, impl_BestLikeness_ok hdb, ← like_comm h, ← hbc]
    simp only [Option.bind_some, bne_self_eq_false, cond_false, Bool.not_true, spec_ColorsOf_eq, hcols, impl_Likeness_ok hbb, like_self, hw, spec_SeenFrom_eq, impl_Likeness_ok (pair_seen h hk), hkv, hsame, spec_ArePatternsSame_eq, hpatt, hf1, beq_self_eq_true]
    rw [decide_eq_false (show ¬ LikeM b d > BestLikeM b d by omega), decide_eq_false (show ¬ LikeM b d > 4 * ((b.Cells.length : Nat) : Int) by omega), decide_eq_false (show ¬ ((k : Nat) : Int) < 0 by omega), decide_eq_false (show ¬ ((k : Nat) : Int) > 7 by omega)]
    simp only [cond_false]
    by_cases h3 : (colsM d).length ≤ 3
    · have p1 := patLike_best h h3
      have p2 := patLike_le h h3
      have hf2 : (PatLikeM b d == 4 * ((b.Cells.length : Nat) : Int)) = SameBlockM (PattM b) (PattM d) := by
        rw [Bool.eq_iff_iff, beq_iff_eq, sameBlock_iff]; exact patLike_full h h3
      rw [decide_eq_true (show (((colsM d).length : Nat) : Int) ≤ 3 by omega), decide_eq_false (show ¬ PatLikeM b d < BestLikeM b d by omega), decide_eq_false (show ¬ PatLikeM b d > 4 * ((b.Cells.length : Nat) : Int) by omega), hf2]
      simp
    · have p0 : PatLikeM b d = 0 := by
        unfold PatLikeM
        rw [h, decide_eq_false h3]; rfl
      rw [decide_eq_false (show ¬ (((colsM d).length : Nat) : Int) ≤ 3 by omega), p0, decide_eq_false (show ¬ (0 : Int) > 4 * ((b.Cells.length : Nat) : Int) by omega)]
      simp
end Go.Proofs.Ytfnfngicgikhgab
