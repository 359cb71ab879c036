/-
  The plain laws: what the functions compute, in Lean alone.
-/
import Derived.Test.YtkahnmhkfmjomabDoorP1
namespace Go.Proofs.YtkahnmhkfmjomabDoor
open Go

/-- Every view of a block is a view of each of its views. -/
theorem view_back {b : GBlock} (hb : BlockOkM b = true) {i k : Nat} (hi : i < 8) (hk : k < 8) : ∃ j : Nat, j ≤ 7 ∧ SeenM b (k : Int) = SeenM (SeenM b (i : Int)) (j : Int) := by
  obtain ⟨v1, v2, v3, v4, v5⟩ := prod_inv i hi
  refine ⟨prodN (invN i) k, by have := prod_lt (i := invN i) (k := k); omega, ?_⟩
  rw [seen_seen hb hi prod_lt, ← prod_assoc i hi (invN i) v1 k hk, v2, (prod_inv k hk).2.2.2.2]
theorem form_view {b : GBlock} (hb : BlockOkM b = true) {i : Nat} (hi : i < 8) : FormM (SeenM b (i : Int)) = FormM b := by
  have hv := (view_ok hb hi).1
  unfold FormM
  rw [hb, hv, cond_true, cond_true]
  refine lst_same (fun k hk => (view_ok hv (by omega)).1) (fun k hk => (view_ok hb (by omega)).1) (fun k hk => ?_) (fun k hk => view_back hb hi (by omega))
  exact ⟨prodN i k, by have := prod_lt (i := i) (k := k); omega, seen_seen hb hi (by omega)⟩

theorem plain_exB' {b : GBlock} (hb : BlockOkM b = true) {l : List Int} (hl : InjM l) : PlainM (exB l b) = PlainM b := by
  rw [plain_view (exB_ok hb l), plain_view hb, plain_exB hb hl]
theorem patt_exB {b : GBlock} (hb : BlockOkM b = true) {l : List Int} (hl : InjM l) : PattM (exB l b) = PattM b := by
  unfold PattM
  rw [exB_ok hb l, hb, cond_true, cond_true]
  refine lst_congr fun k hk => ?_
  show PlainM (SeenM (exB l b) (k : Int)) = PlainM (SeenM b (k : Int))
  rw [seen_exchange hb hl.1 (by omega), plain_exB' (view_ok hb (by omega)).1 hl]
theorem patt_view {b : GBlock} (hb : BlockOkM b = true) {i : Nat} (hi : i < 8) : PattM (SeenM b (i : Int)) = PattM b := by
  have hv := (view_ok hb hi).1
  unfold PattM
  rw [hb, hv, cond_true, cond_true]
  refine lst_same (fun k hk => (plain_ok (view_ok hv (by omega)).1).1) (fun k hk => (plain_ok (view_ok hb (by omega)).1).1) (fun k hk => ?_) (fun k hk => ?_)
  · exact ⟨prodN i k, by have := prod_lt (i := i) (k := k); omega, by show PlainM (SeenM (SeenM b (i : Int)) (k : Int)) = _; rw [seen_seen hb hi (by omega)]⟩
  · obtain ⟨j, hj, e⟩ := view_back hb hi (k := k) (by omega)
    exact ⟨j, hj, by show PlainM (SeenM b (k : Int)) = _; rw [e]⟩

theorem form_is_view {b : GBlock} (hb : BlockOkM b = true) : ∃ k : Nat, k < 8 ∧ FormM b = SeenM b (k : Int) := by
  obtain ⟨k, hk, e⟩ := lst_in (fun k : Nat => SeenM b (k : Int)) 7
  refine ⟨k, by omega, ?_⟩
  unfold FormM
  rw [hb, cond_true, e]
theorem form_form {b : GBlock} (hb : BlockOkM b = true) : FormM (FormM b) = FormM b := by
  obtain ⟨k, hk, e⟩ := form_is_view hb
  rw [e, form_view hb hk]
  exact e
theorem form_first {b : GBlock} (hb : BlockOkM b = true) : (slt (textM (FormM b)) (textM b) || seq (textM (FormM b)) (textM b)) = true := by
  have h := lst_least (fun k : Nat => SeenM b (k : Int)) 7 0 (by omega)
  have h0 : SeenM b ((0 : Nat) : Int) = b := seen_zero hb
  have e : lstM (fun k : Nat => SeenM b (k : Int)) 7 = FormM b := by unfold FormM; rw [hb]; rfl
  rw [e] at h
  simp only [h0] at h
  cases h2 : slt (textM (FormM b)) (textM b)
  · rw [slt_total h2 h, Bool.false_or]
    simp [seq]
  · rfl
/-- Blocks of one form have one pattern. -/
theorem patt_of_form {b d : GBlock} (hb : BlockOkM b = true) (hd : BlockOkM d = true) (h : FormM b = FormM d) : PattM b = PattM d := by
  obtain ⟨i, hi, ei⟩ := form_is_view hb
  obtain ⟨k, hk, ek⟩ := form_is_view hd
  rw [← patt_view hb hi, ← patt_view hd hk, ← ei, ← ek, h]
theorem same_comm (b d : GBlock) : SameBlockM b d = SameBlockM d b := by
  rw [Bool.eq_iff_iff, sameBlock_iff, sameBlock_iff]
  exact eq_comm
theorem cellText_two (c : GCell) : 1 ≤ (cellTextM c).length := by
  unfold cellTextM
  cases c.Split == 1 <;> cases c.Split == 2 <;> simp
theorem cellsText_two : ∀ l : List GCell, 2 * l.length ≤ (cellsTextM l).length
  | [] => by simp
  | c :: l => by
    have h1 := cellText_two c
    have h2 := cellsText_two l
    simp only [cellsTextM, List.flatMap_cons, List.length_append, List.length_cons, List.length_nil] at h2 ⊢
    omega
theorem text_two {b : GBlock} (hb : BlockOkM b = true) : 2 * b.Cells.length ≤ (textM b).b.length := by
  unfold textM
  rw [hb]
  exact cellsText_two _

/-- One exchange behind another one. -/
def compM (g f : List Int) : List Int := (List.range 6).map fun x => gx g (gx f x).toNat
theorem comp_gx (g f : List Int) {x : Int} (h0 : 0 ≤ x) (h1 : x ≤ 5) : gx (compM g f) x.toNat = gx g (gx f x.toNat).toNat := gx_range _ (by omega)
theorem comp_inj {g f : List Int} (hg : InjM g) (hf : InjM f) : InjM (compM g f) := by
  have hr : ∀ x : Nat, x < 6 → 0 ≤ gx f x ∧ gx f x ≤ 5 := fun x hx => list_gx hf.1 (x := (x : Int)) (by omega) (by omega)
  refine ⟨listOk_of (by simp [compM]) fun x hx => ?_, ?_⟩
  · obtain ⟨a, ha, rfl⟩ := List.mem_map.1 hx
    have ha6 : a < 6 := by simpa using ha
    have := hr a ha6
    exact list_gx hg.1 this.1 this.2
  · unfold compM List.Nodup
    rw [List.pairwise_map]
    refine List.Pairwise.imp_of_mem (fun {x y} hx hy hne hxy => hne ?_) (List.nodup_range (n := 6))
    have hx6 : x < 6 := by simpa using hx
    have hy6 : y < 6 := by simpa using hy
    have rx := hr x hx6
    have ry := hr y hy6
    have e1 := inj_gx hg rx.1 rx.2 ry.1 ry.2
    rw [beq_iff_eq.2 hxy] at e1
    have e2 := eq_of_beq e1.symm
    have e3 := inj_gx hf (x := (x : Int)) (y := (y : Int)) (by omega) (by omega) (by omega) (by omega)
    simp only [Int.toNat_natCast] at e3
    rw [beq_iff_eq.2 e2] at e3
    have := eq_of_beq e3.symm
    omega
theorem exB_comp {b : GBlock} (hb : BlockOkM b = true) {g f : List Int} (hg : InjM g) (hf : InjM f) : exB g (exB f b) = exB (compM g f) b := by
  obtain ⟨n, hn, n1, n4, hl, hc⟩ := blockOk_spec hb
  have e : (exB g (exB f b)).Cells = (exB (compM g f) b).Cells := by
    rw [exB_inj_cells (exB_ok hb f) hg, exB_inj_cells hb hf, exB_inj_cells hb (comp_inj hg hf), List.map_map]
    refine List.map_congr_left fun c hm => ?_
    obtain ⟨_, _, a0, a1, b0, b1, _⟩ := cellOk_spec (hc c hm)
    simp only [Function.comp, comp_gx g f a0 a1, comp_gx g f b0 b1]
  calc exB g (exB f b) = ⟨b.Size, (exB g (exB f b)).Cells⟩ := rfl
    _ = ⟨b.Size, (exB (compM g f) b).Cells⟩ := by rw [e]
    _ = exB (compM g f) b := rfl
theorem six_inj : InjM six := by unfold InjM; decide +kernel
theorem six_gx : ∀ x : Nat, x < 6 → gx six x = (x : Int) := by decide +kernel
theorem exB_six {b : GBlock} (hb : BlockOkM b = true) : exB six b = b := by
  obtain ⟨n, hn, n1, n4, hl, hc⟩ := blockOk_spec hb
  have e : (exB six b).Cells = b.Cells := by
    rw [exB_inj_cells hb six_inj]
    have : b.Cells.map (fun c : GCell => (⟨c.Split, gx six c.A.toNat, gx six c.B.toNat⟩ : GCell)) = b.Cells.map id := List.map_congr_left fun c hm => by
      obtain ⟨_, _, a0, a1, b0, b1, _⟩ := cellOk_spec (hc c hm)
      rw [six_gx _ (by omega), six_gx _ (by omega), Int.toNat_of_nonneg a0, Int.toNat_of_nonneg b0]; rfl
    rw [this, List.map_id]
  calc exB six b = ⟨b.Size, (exB six b).Cells⟩ := rfl
    _ = ⟨b.Size, b.Cells⟩ := by rw [e]
    _ = b := rfl

/-- Different colors for different ones can be completed. -/
theorem ext_inj : ∀ (L p : List Int), p.length = L.length → L.Nodup → p.Nodup → (∀ u ∈ L, 0 ≤ u ∧ u ≤ 5) → (∀ v ∈ p, 0 ≤ v ∧ v ≤ 5) → ∃ l, InjM l ∧ ∀ q ∈ L.zip p, gx l q.1.toNat = q.2
  | [], _, _, _, _, _, _ => ⟨six, six_inj, by simp⟩
  | _ :: _, [], h, _, _, _, _ => by simp at h
  | u :: L, v :: p, hl, hn, hp, hu, hv => by
    rw [List.nodup_cons] at hn hp
    obtain ⟨l, l1, l2⟩ := ext_inj L p (by simpa using hl) hn.2 hp.2 (fun w hw => hu w (by simp [hw])) (fun w hw => hv w (by simp [hw]))
    obtain ⟨u0, u1⟩ := hu u (by simp)
    obtain ⟨v0, v1⟩ := hv v (by simp)
    obtain ⟨w0, w1⟩ := list_gx l1.1 u0 u1
    have hsw := sw_inj (i := (gx l u.toNat).toNat) (k := v.toNat) (by omega) (by omega)
    have sw1 : ∀ i, i < 6 → ∀ k, k < 6 → gx (swM i k) i = (k : Int) := by decide +kernel
    have sw2 : ∀ i, i < 6 → ∀ k, k < 6 → ∀ x, x < 6 → (x = i ∨ x = k ∨ gx (swM i k) x = (x : Int)) := by decide +kernel
    have s1 := sw1 (gx l u.toNat).toNat (by omega) v.toNat (by omega)
    have s2 := sw2 (gx l u.toNat).toNat (by omega) v.toNat (by omega)
    refine ⟨compM (swM (gx l u.toNat).toNat v.toNat) l, comp_inj hsw l1, fun q hq => ?_⟩
    rw [List.zip_cons_cons, List.mem_cons] at hq
    rcases hq with rfl | hq
    · rw [comp_gx _ _ u0 u1, s1]
      exact Int.toNat_of_nonneg v0
    · have hq1 := (List.of_mem_zip hq).1
      have hq2 := (List.of_mem_zip hq).2
      obtain ⟨x0, x1⟩ := hu q.1 (by simp [hq1])
      obtain ⟨y0, y1⟩ := hv q.2 (by simp [hq2])
      have hl2 := l2 q hq
      have hne1 : q.2 ≠ v := fun e => hp.1 (by rw [← e]; exact hq2)
      have hne2 : q.2 ≠ gx l u.toNat := fun e => by
        have e3 := inj_gx l1 x0 x1 u0 u1
        rw [hl2, beq_iff_eq.2 e] at e3
        have := eq_of_beq e3.symm
        exact hn.1 (by rw [← this]; exact hq1)
      rw [comp_gx _ _ x0 x1, hl2]
      rcases s2 q.2.toNat (by omega) with e | e | e
      · exact absurd (show q.2 = gx l u.toNat by omega) hne2
      · exact absurd (show q.2 = v by omega) hne1
      · rw [e]; exact Int.toNat_of_nonneg y0
theorem cols_in (d : GBlock) : ∀ u ∈ colsM d, 0 ≤ u ∧ u ≤ 5 := fun u hu => (mem_cols.1 hu).1
theorem way_exB {d : GBlock} (hd : BlockOkM d = true) {p : List Int} (hl : p.length = (colsM d).length) (hr : ∀ x ∈ p, 0 ≤ x ∧ x ≤ 5) (hn : p.Nodup) : ∃ l, InjM l ∧ (∀ q ∈ (colsM d).zip p, gx l q.1.toNat = q.2) ∧ exB (wayM (colsM d) p) d = exB l d := by
  obtain ⟨l, l1, l2⟩ := ext_inj (colsM d) p hl (cols_nodup d) hn (cols_in d) hr
  refine ⟨l, l1, l2, ?_⟩
  have hw := way_ok (L := colsM d) hr
  have hag : ∀ x, x ∈ colsM d → gx (wayM (colsM d) p) x.toNat = gx l x.toNat := fun x hx => by
    have hm : x ∈ ((colsM d).zip p).map Prod.fst := by rw [zip_fst hl]; exact hx
    obtain ⟨q, hq, rfl⟩ := List.mem_map.1 hm
    rw [l2 q hq]
    exact asg_gx _ _ _ rfl (cols_nodup d) (cols_in d) q hq
  obtain ⟨n, hdn, n1, n4, hlen, hc⟩ := blockOk_spec hd
  have hcells : (exB (wayM (colsM d) p) d).Cells = (exB l d).Cells := List.map_congr_left fun c hm => by
    obtain ⟨_, _, a0, a1, b0, b1, _⟩ := cellOk_spec (hc c hm)
    have ha : c.A ∈ colsM d := mem_cols.2 ⟨⟨a0, a1⟩, by unfold usedM; rw [List.any_eq_true]; exact ⟨c, hm, by simp⟩⟩
    have hb : c.B ∈ colsM d := mem_cols.2 ⟨⟨b0, b1⟩, by unfold usedM; rw [List.any_eq_true]; exact ⟨c, hm, by simp⟩⟩
    show ExchangeCellM c (wayM (colsM d) p) = ExchangeCellM c l
    unfold ExchangeCellM
    rw [hw, l1.1, hag _ ha, hag _ hb]
  calc exB (wayM (colsM d) p) d = ⟨d.Size, (exB (wayM (colsM d) p) d).Cells⟩ := rfl
    _ = ⟨d.Size, (exB l d).Cells⟩ := by rw [hcells]
    _ = exB l d := rfl

theorem seq_self (s : Str) : seq s s = true := by unfold seq; simp

theorem few_cols {b : GBlock} (h : ∀ c ∈ b.Cells, c.A ≤ 2 ∧ c.B ≤ 2) : (colsM b).length ≤ 3 := by
  refine nodup_sub (colsM b) [0, 1, 2] (cols_nodup b) fun x hx => ?_
  obtain ⟨⟨x0, x1⟩, hu⟩ := mem_cols.1 hx
  unfold usedM at hu
  rw [List.any_eq_true] at hu
  obtain ⟨c, hc, he⟩ := hu
  obtain ⟨h1, h2⟩ := h c hc
  rw [Bool.or_eq_true, beq_iff_eq, beq_iff_eq] at he
  have : x = 0 ∨ x = 1 ∨ x = 2 := by omega
  rcases this with rfl | rfl | rfl <;> simp
theorem splitCell_few {s a b : Int} (ha : a ≤ 2) (hb : b ≤ 2) : (SplitCellM s a b).A ≤ 2 ∧ (SplitCellM s a b).B ≤ 2 := by
  unfold SplitCellM WholeCellM
  cases a == b
  · cases CellOkM ⟨s, a, b⟩
    · exact ⟨show (0 : Int) ≤ 2 by omega, show (0 : Int) ≤ 2 by omega⟩
    · exact ⟨ha, hb⟩
  · cases inR a 0 5
    · exact ⟨show (0 : Int) ≤ 2 by omega, show (0 : Int) ≤ 2 by omega⟩
    · exact ⟨ha, ha⟩

theorem draw_Cell3 {c : List UInt8} {i g : Int} (h : CurOk c i) : ∃ x i' g', spec_l02Cell c i g = some (x, i', g') ∧ CurOk c i' ∧ CellOkM x = true ∧ x.A ≤ 2 ∧ x.B ≤ 2 := by
  obtain ⟨x, i1, g1, e1, c1, _⟩ := draw_Below (g := g) (n := 3) h (by omega)
  obtain ⟨y, i2, g2, e2, c2, y0, y1, _⟩ := draw_Below (g := g1) (n := 3) c1 (by omega)
  obtain ⟨z, i3, g3, e3, c3, z0, z1, _⟩ := draw_Below (g := g2) (n := 3) c2 (by omega)
  have y2 := y1 (by omega)
  have z2 := z1 (by omega)
  unfold spec_l02Cell
  rw [e1]
  simp only [Option.bind_some, e2, e3, spec_SplitCell_eq]
  exact ⟨_, _, _, rfl, c3, splitCell_ok _ _ _, splitCell_few (by omega) (by omega)⟩

theorem spec_PlainBlock_few {n : Nat} {a : Int} (h1 : 1 ≤ n) (h2 : n ≤ 4) (h3 : 0 ≤ a) (h4 : a ≤ 2) {b : GBlock} {ok : Bool} (e : spec_PlainBlock (n : Int) a = some (b, ok)) : ∀ c ∈ b.Cells, c.A ≤ 2 ∧ c.B ≤ 2 := by
  have hnn : n * n ≤ 4 * 4 := Nat.mul_le_mul h2 h2
  have e1 : inR ((n : Nat) : Int) 1 4 = true := inR_iff.2 ⟨by omega, by omega⟩
  have e2 : inR a 0 5 = true := inR_iff.2 ⟨h3, by omega⟩
  have e3 : wr (((n : Nat) : Int) * ((n : Nat) : Int)) = ((n * n : Nat) : Int) := by rw [← Int.natCast_mul]; exact wr_of (by omega) (by omega)
  unfold spec_PlainBlock at e
  simp only [l01In_eq, e1, e2, Option.bind_some, Bool.not_true, cond_false, e3, Int.toNat_natCast] at e
  rw [gd_pos (by omega), lpO_app (f := spec_PlainBlock_L1 a) (fun _ => WholeCellM a) (xs := []) (fun k s hk hs => by
    simp at hs
    unfold spec_PlainBlock_L1
    rw [spec_WholeCell_eq]
    simp only [Option.bind_some]
    rw [gd_pos (by omega)])] at e
  have hb := (Prod.mk.inj (Option.some.inj e)).1
  rw [← hb]
  intro c hc
  simp only [List.nil_append, List.mem_map] at hc
  obtain ⟨_, _, rfl⟩ := hc
  unfold WholeCellM
  rw [e2]
  exact ⟨h4, h4⟩

theorem star_few : ∀ c ∈ starM.Cells, c.A ≤ 2 ∧ c.B ≤ 2 := by decide +kernel
theorem draw_Block3 {c : List UInt8} {i g : Int} (h : CurOk c i) : ∃ b i' g', spec_l03Block c i g = some (b, i', g') ∧ CurOk c i' ∧ BlockOkM b = true ∧ ∀ c ∈ b.Cells, c.A ≤ 2 ∧ c.B ≤ 2 := by
  obtain ⟨x, i1, g1, e1, c1, x0, x1, _⟩ := draw_Below (g := g) (n := 6) h (by omega)
  unfold spec_l03Block
  rw [e1]
  simp only [Option.bind_some]
  cases hx : x == 0
  · cases hx1 : x == 1
    · obtain ⟨y, i2, g2, e2, c2, y0, y1, _⟩ := draw_Below (g := g1) (n := 4) c1 (by omega)
      have y4 := y1 (by omega)
      obtain ⟨n, rfl⟩ := Int.eq_ofNat_of_zero_le y0
      have hnn : (n + 1) * (n + 1) ≤ 4 * 4 := Nat.mul_le_mul (by omega) (by omega)
      have ea : wr (1 + ((n : Nat) : Int)) = ((n + 1 : Nat) : Int) := by rw [wr_of (by omega) (by omega)]; omega
      have eb : wr (((n + 1 : Nat) : Int) * ((n + 1 : Nat) : Int)) = (((n + 1) * (n + 1) : Nat) : Int) := by rw [← Int.natCast_mul]; exact wr_of (by omega) (by omega)
      simp only [cond_false, e2, Option.bind_some, ea, eb, Int.toNat_natCast]
      rw [gd_pos (by omega)]
      obtain ⟨s, ⟨s1, s2, s3, s4⟩, es⟩ := lpO_inv2 (f := spec_l03Block_L1 c) (N := (n + 1) * (n + 1)) (s0 := (([] : List GCell), i2, g2)) (fun k s => s.1.length = k ∧ CurOk c s.2.1 ∧ (∀ x ∈ s.1, CellOkM x = true) ∧ ∀ x ∈ s.1, x.A ≤ 2 ∧ x.B ≤ 2) ⟨rfl, c2, by simp, by simp⟩ fun k s hk hs => by
        obtain ⟨s1, s2, s3, s4⟩ := hs
        obtain ⟨y, i3, g3, e3, c3, hy, hy2⟩ := draw_Cell3 (g := s.2.2) s2
        unfold spec_l03Block_L1
        rw [e3]
        simp only [Option.bind_some]
        rw [gd_pos (by omega)]
        refine ⟨_, ⟨by simp [s1], c3, fun z hz => ?_, fun z hz => ?_⟩, rfl⟩
        · rcases List.mem_append.1 hz with hz | hz
          · exact s3 z hz
          · rw [List.mem_singleton.1 hz]; exact hy
        · rcases List.mem_append.1 hz with hz | hz
          · exact s4 z hz
          · rw [List.mem_singleton.1 hz]; exact hy2
      rw [es]
      exact ⟨_, _, _, rfl, s2, blockOk_of (by omega) (by omega) s1 s3, s4⟩
    · obtain ⟨y, i2, g2, e2, c2, y0, y1, _⟩ := draw_Below (g := g1) (n := 4) c1 (by omega)
      obtain ⟨z, i3, g3, e3, c3, z0, z1, _⟩ := draw_Below (g := g2) (n := 3) c2 (by omega)
      have y4 := y1 (by omega)
      have z4 := z1 (by omega)
      obtain ⟨n, rfl⟩ := Int.eq_ofNat_of_zero_le y0
      have ea : wr (1 + ((n : Nat) : Int)) = ((n + 1 : Nat) : Int) := by rw [wr_of (by omega) (by omega)]; omega
      obtain ⟨b, eb, hb⟩ := spec_PlainBlock_ok (n := n + 1) (a := z) (by omega) (by omega) z0 (by omega)
      have hf := spec_PlainBlock_few (by omega) (by omega) z0 (by omega) eb
      simp only [cond_false, cond_true, e2, e3, Option.bind_some, ea, eb]
      exact ⟨_, _, _, rfl, c3, hb, hf⟩
  · simp only [cond_true, spec_StarBlock_eq, Option.bind_some]
    exact ⟨_, _, _, rfl, c1, star_ok, star_few⟩

theorem draw_DrawBlock3 {c : List UInt8} (h : c.length ≤ 1048576) : ∃ b, spec_DrawBlock c = some b ∧ BlockOkM b = true ∧ (colsM b).length ≤ 3 := by
  obtain ⟨g, e0, c0⟩ := draw_New h
  obtain ⟨b, i1, g1, e1, c1, hb, hf⟩ := draw_Block3 (g := g) c0
  unfold spec_DrawBlock
  rw [e0]
  simp only [Option.bind_some, e1]
  exact ⟨b, rfl, hb, few_cols hf⟩

theorem draw_FreeColorways {c : List UInt8} (h : c.length ≤ 1048576) : ∃ b, spec_DrawFreeColorways c = some b ∧ (BlockOkM b = true → (colsM b).length ≤ 3) := by
  obtain ⟨g, e0, c0⟩ := draw_New h
  obtain ⟨b, i1, g1, e1, c1, hb, hf⟩ := draw_Block3 (g := g) c0
  have key : ∃ (d : GBlock) (i' g' : Int), (((bif (decide (b.Size > 2)) then (spec_l01Below c i1 g1 4).bind fun v3 => some ((decide (v3.1 > 0)), (Gl01Cur.mk c v3.2.1 v3.2.2)) else some (false, (Gl01Cur.mk c i1 g1))).bind fun j1 => (bif j1.1 then (lpO (spec_DrawFreeColorways_L1 c) 4 (([] : List GCell), (j1.2).i, (j1.2).h)).bind fun e1 => some ((GBlock.mk 2 e1.1), (Gl01Cur.mk c e1.2.1 e1.2.2)) else some (b, (Gl01Cur.mk c ((j1.2).i) ((j1.2).h)))))) = some (d, Gl01Cur.mk c i' g') ∧ CurOk c i' ∧ ∀ x ∈ d.Cells, x.A ≤ 2 ∧ x.B ≤ 2 := by
    cases hs : decide (b.Size > 2)
    · simp only [cond_false, Option.bind_some]
      exact ⟨_, _, _, rfl, c1, hf⟩
    · obtain ⟨x, i2, g2, e2, c2, _⟩ := draw_Below (g := g1) (n := 4) c1 (by omega)
      simp only [cond_true, e2, Option.bind_some]
      cases decide (x > 0)
      · simp only [cond_false]
        exact ⟨_, _, _, rfl, c2, hf⟩
      · obtain ⟨s, ⟨s1, s2, s4⟩, es⟩ := lpO_inv2 (f := spec_DrawFreeColorways_L1 c) (N := 4) (s0 := (([] : List GCell), i2, g2)) (fun k s => s.1.length = k ∧ CurOk c s.2.1 ∧ ∀ x ∈ s.1, x.A ≤ 2 ∧ x.B ≤ 2) ⟨rfl, c2, by simp⟩ fun k s hk hs => by
          obtain ⟨s1, s2, s4⟩ := hs
          obtain ⟨y, i3, g3, e3, c3, _, hy2⟩ := draw_Cell3 (g := s.2.2) s2
          unfold spec_DrawFreeColorways_L1
          rw [e3]
          simp only [Option.bind_some]
          rw [gd_pos (by omega)]
          refine ⟨_, ⟨by simp [s1], c3, fun z hz => ?_⟩, rfl⟩
          rcases List.mem_append.1 hz with hz | hz
          · exact s4 z hz
          · rw [List.mem_singleton.1 hz]; exact hy2
        simp only [cond_true, es, Option.bind_some]
        exact ⟨_, _, _, rfl, s2, s4⟩
  obtain ⟨d, i', g', ek, ck, hd⟩ := key
  obtain ⟨y, i5, g5, e5, _⟩ := draw_Below (g := g') (n := 12) ck (by omega)
  unfold spec_DrawFreeColorways
  rw [e0]
  simp only [Option.bind_some, e1]
  rw [← Option.bind_assoc, ek]
  simp only [Option.bind_some, spec_l01Once, e5]
  exact ⟨_, rfl, fun _ => few_cols (b := ⟨_, d.Cells⟩) hd⟩

/-- The colorways. -/
def wayX (b : GBlock) (i : Nat) : GBlock := exB (wayM (colsM b) (pkM (ratesM (colsM b).length) i six)) b
theorem wayX_inj {b : GBlock} (hb : BlockOkM b = true) (h3 : (colsM b).length ≤ 3) {i : Nat} (hi : i < chsM (colsM b).length) : ∃ l, InjM l ∧ wayX b i = exB l b ∧ pkM (ratesM (colsM b).length) i six = (colsM b).map fun u => gx l u.toNat := by
  obtain ⟨p1, p2, p3⟩ := pk_ok (cols_pos hb) h3 hi
  obtain ⟨l, l1, l2, l3⟩ := way_exB hb p1 p3 p2
  have hz : ∀ (L p : List Int), p.length = L.length → (∀ q ∈ L.zip p, gx l q.1.toNat = q.2) → p = L.map fun u => gx l u.toNat := fun L => by
    induction L with
    | nil => intro p hp _; cases p with
      | nil => rfl
      | cons _ _ => simp at hp
    | cons u L ih =>
      intro p hp hq
      cases p with
      | nil => simp at hp
      | cons v p =>
        rw [List.map_cons, ← ih p (by simpa using hp) fun q h => hq q (by rw [List.zip_cons_cons]; exact List.mem_cons_of_mem _ h)]
        rw [hq (u, v) (by rw [List.zip_cons_cons]; exact List.mem_cons_self)]
  exact ⟨l, l1, l3, hz _ _ p1 l2⟩
theorem pk2_back : ∀ i, i < 30 → inv2 (gx (pkM [5, 1] i six) 0).toNat (gx (pkM [5, 1] i six) 1).toNat = i := by decide +kernel
theorem pk3_back : ∀ i, i < 120 → inv3 (gx (pkM [20, 4, 1] i six) 0).toNat (gx (pkM [20, 4, 1] i six) 1).toNat (gx (pkM [20, 4, 1] i six) 2).toNat = i := by decide +kernel
theorem pk_one {m i k : Nat} (h1 : 1 ≤ m) (h3 : m ≤ 3) (hi : i < chsM m) (hk : k < chsM m) (h : pkM (ratesM m) i six = pkM (ratesM m) k six) : i = k := by
  have hm : m = 1 ∨ m = 2 ∨ m = 3 := by omega
  rcases hm with rfl | rfl | rfl
  · have e1 := pk1_inv i hi
    have e2 := pk1_inv k hk
    have h' : pkM [1] i six = pkM [1] k six := h
    rw [e1, e2] at h'
    have := (List.cons.inj h').1
    omega
  · have h' : pkM [5, 1] i six = pkM [5, 1] k six := h
    rw [← pk2_back i hi, ← pk2_back k hk, h']
  · have h' : pkM [20, 4, 1] i six = pkM [20, 4, 1] k six := h
    rw [← pk3_back i hi, ← pk3_back k hk, h']
theorem wayX_one {b : GBlock} (hb : BlockOkM b = true) (h3 : (colsM b).length ≤ 3) {i k : Nat} (hi : i < chsM (colsM b).length) (hk : k < chsM (colsM b).length) (h : wayX b i = wayX b k) : i = k := by
  obtain ⟨l, l1, l2, l3⟩ := wayX_inj hb h3 hi
  obtain ⟨m, m1, m2, m3⟩ := wayX_inj hb h3 hk
  refine pk_one (cols_pos hb) h3 hi hk ?_
  rw [l3, m3]
  refine List.map_congr_left fun u hu => ?_
  have hc : (exB l b).Cells = (exB m b).Cells := by rw [← l2, ← m2, h]
  rw [exB_inj_cells hb l1, exB_inj_cells hb m1] at hc
  have hc' := List.map_inj_left.1 hc
  obtain ⟨_, hus⟩ := mem_cols.1 hu
  unfold usedM at hus
  rw [List.any_eq_true] at hus
  obtain ⟨c, hcm, he⟩ := hus
  have hce := hc' c hcm
  rw [Bool.or_eq_true, beq_iff_eq, beq_iff_eq] at he
  have e2 := congrArg GCell.A hce
  have e3 := congrArg GCell.B hce
  simp only at e2 e3
  rcases he with e | e
  · rw [← e]; exact e2
  · rw [← e]; exact e3

theorem impl_ColorwayCount_ok {b : GBlock} (h : BlockOkM b = true) (h3 : (colsM b).length ≤ 3) : impl_ColorwayCount b = some ((chsM (colsM b).length : Nat) : Int) := by
  have hp := cols_pos h
  have hc : ColorsM b = colsM b := by simp [ColorsM, h]
  unfold impl_ColorwayCount
  rw [impl_BlockOk_eq, h]
  simp only [Option.bind_some, Bool.not_true, cond_false]
  rw [impl_ColorsOf_eq, hc]
  simp only [Option.bind_some]
  rw [impl_choices_small h3]
  have : ((colsM b).length == 0) = false := beq_eq_false_iff_ne.2 (by omega)
  simp only [this, cond_false, Option.bind_some]
theorem impl_ColorwayAt_over {b : GBlock} (h : BlockOkM b = true) (h3 : (colsM b).length ≤ 3) : ∃ x, impl_ColorwayAt b ((chsM (colsM b).length : Nat) : Int) = some (x, false) := by
  have hle := chs_le (n := (colsM b).length)
  unfold impl_ColorwayAt
  rw [impl_ColorwayCount_ok h h3]
  simp only [Option.bind_some, within_eq]
  have hin : inR ((chsM (colsM b).length : Nat) : Int) 0 (wr (((chsM (colsM b).length : Nat) : Int) - 1)) = false := by
    rw [wr_of (by omega) (by omega)]
    exact inR_not.2 (by omega)
  rw [hin]
  exact ⟨_, rfl⟩

theorem impl_IsColorway_ok {b d : GBlock} (hb : BlockOkM b = true) (hd : BlockOkM d = true) : impl_IsColorway b d = some (SameBlockM (PlainM b) (PlainM d)) := by
  unfold impl_IsColorway
  simp only [impl_BlockOk_eq, hb, hd, Option.bind_some, cond_true, impl_plain_eq hb, impl_plain_eq hd]
  rw [impl_SameBlock_eq (blockOk_sm (plain_ok hb).1).1]
  rfl

theorem form_eq_view {b d : GBlock} (hb : BlockOkM b = true) (hd : BlockOkM d = true) (hf : FormM b = FormM d) : ∃ k : Nat, k < 8 ∧ SeenM d (k : Int) = b := by
  obtain ⟨i, hi, e1⟩ := form_is_view hb
  obtain ⟨j, hj, e2⟩ := form_is_view hd
  obtain ⟨v1, v2, _, _, _⟩ := prod_inv i hi
  have hz : SeenM b ((0 : Nat) : Int) = b := seen_zero hb
  exact ⟨prodN j (invN i), prod_lt, by rw [← seen_seen hd hj v1, ← e2, ← hf, e1, seen_seen hb hi v1, v2, hz]⟩
theorem filter_split (p : Nat → Bool) : ∀ I : List Nat, (I.filter p).length + (I.filter fun i => !p i).length = I.length
  | [] => rfl
  | i :: I => by
    have := filter_split p I
    cases h : p i <;> simp [h] <;> omega
theorem count_by {T : List Str} {txt : Nat → Str} {s : Nat} : ∀ {I : List Nat}, (∀ i ∈ I, T.any (seq (txt i)) = true) → (∀ t, (I.filter fun i => seq t (txt i)).length ≤ s) → I.length ≤ T.length * s := by
  induction T with
  | nil =>
    intro I h _
    cases I with
    | nil => simp
    | cons i I => have := h i (by simp); simp at this
  | cons t T ih =>
    intro I h hc
    have h1 := hc t
    have h2 := ih (I := I.filter fun i => !seq t (txt i)) (fun i hi => by
      obtain ⟨hi1, hi2⟩ := List.mem_filter.1 hi
      have := h i hi1
      rw [List.any_cons, Bool.or_eq_true] at this
      rcases this with e | e
      · rw [seq_comm, e] at hi2; cases hi2
      · exact e) (fun u => by
      have e : (I.filter fun i => !seq t (txt i)).filter (fun i => seq u (txt i)) = (I.filter fun i => seq u (txt i)).filter fun i => !seq t (txt i) := by
        rw [List.filter_filter, List.filter_filter]
        congr 1
        funext i
        exact Bool.and_comm _ _
      rw [e]
      exact Nat.le_trans (List.length_filter_le _ _) (hc u))
    have h3 := filter_split (fun i => seq t (txt i)) I
    rw [List.length_cons, Nat.add_mul, Nat.one_mul]
    omega
theorem put_pos (ks : List Str) (t : Str) : 1 ≤ (putS ks t).length := by
  have h := any_put ks t t
  have hs : seq t t = true := seq_self t
  rw [hs, Bool.or_true] at h
  cases hp : putS ks t with
  | nil => rw [hp] at h; cases h
  | cons _ _ => simp
theorem put_mono (ks : List Str) (t : Str) : 1 ≤ ks.length → 1 ≤ (putS ks t).length := fun _ => put_pos ks t
theorem txs_pos (F : Nat → GBlock) : ∀ n, 1 ≤ n → 1 ≤ (txsM F n).length
  | 0, h => absurd h (by omega)
  | n + 1, _ => put_pos _ _

/-- No more colorways than forms times symmetries. -/
theorem free_times {b : GBlock} (hb : BlockOkM b = true) (h3 : (colsM b).length ≤ 3) : chsM (colsM b).length ≤ (txsM (freeF b) (chsM (colsM b).length)).length * (ColorSymM b).length := by
  have key := count_by (T := txsM (freeF b) (chsM (colsM b).length)) (txt := fun i => textM (freeF b i)) (s := (ColorSymM b).length) (I := List.range (chsM (colsM b).length)) (fun i hi => by
    rw [any_txs, List.any_eq_true]
    exact ⟨i, hi, seq_self _⟩) (fun t => by
    rcases hI : (List.range (chsM (colsM b).length)).filter (fun i => seq t (textM (freeF b i))) with _ | ⟨i0, r⟩
    · simp
    · rw [← hI]
      have hi0 : i0 ∈ (List.range (chsM (colsM b).length)).filter (fun i => seq t (textM (freeF b i))) := by rw [hI]; simp
      obtain ⟨hr0, ht0⟩ := List.mem_filter.1 hi0
      have hn0 : i0 < chsM (colsM b).length := by simpa using hr0
      have ht0' := seq_iff.1 ht0
      obtain ⟨l0, q1, q2, _⟩ := wayX_inj hb h3 hn0
      have hx0 : BlockOkM (wayX b i0) = true := exB_ok hb _
      -- each of these is a view of the first, by a symmetry of colors
      have hv : ∀ i, i ∈ (List.range (chsM (colsM b).length)).filter (fun i => seq t (textM (freeF b i))) → ∃ k : Nat, k < 8 ∧ SeenM (wayX b i0) (k : Int) = wayX b i ∧ ((k : Nat) : Int) ∈ ColorSymM b := fun i hi => by
        obtain ⟨hr, ht⟩ := List.mem_filter.1 hi
        have hn : i < chsM (colsM b).length := by simpa using hr
        have ht' := seq_iff.1 ht
        have hx : BlockOkM (wayX b i) = true := exB_ok hb _
        have hf : FormM (wayX b i) = FormM (wayX b i0) := by
          have hs : seq (textM (freeF b i)) (textM (freeF b i0)) = true := by rw [← ht', ← ht0']; exact seq_self t
          rw [text_seq (free_ok hb i) (free_ok hb i0)] at hs
          exact sameBlock_iff.1 hs
        obtain ⟨k, hk, e⟩ := form_eq_view hx hx0 hf
        refine ⟨k, hk, e, ?_⟩
        obtain ⟨l, p1, p2, _⟩ := wayX_inj hb h3 hn
        have hp : PlainM (SeenM b (k : Int)) = PlainM b := by
          have e2 : PlainM (wayX b i) = PlainM b := by rw [p2, plain_exB' hb p1]
          rw [← e, q2, seen_exchange hb q1.1 hk, plain_exB' (view_ok hb hk).1 q1] at e2
          exact e2
        unfold ColorSymM
        rw [hb, cond_true, List.mem_map]
        exact ⟨k, List.mem_filter.2 ⟨by simpa using hk, sameBlock_iff.2 hp⟩, rfl⟩
      have hch : ∃ f : Nat → Int, ∀ i, i ∈ (List.range (chsM (colsM b).length)).filter (fun i => seq t (textM (freeF b i))) → f i ∈ ColorSymM b ∧ SeenM (wayX b i0) (f i) = wayX b i := by
        refine ⟨fun i => (((List.range 8).find? fun k : Nat => SameBlockM (SeenM (wayX b i0) (k : Int)) (wayX b i) && (ColorSymM b).contains ((k : Nat) : Int)).getD 0 : Nat), fun i hi => ?_⟩
        obtain ⟨k, hk, e, hm⟩ := hv i hi
        cases hf : (List.range 8).find? fun k : Nat => SameBlockM (SeenM (wayX b i0) (k : Int)) (wayX b i) && (ColorSymM b).contains ((k : Nat) : Int) with
        | none =>
          have := List.find?_eq_none.1 hf k (by simpa using hk)
          exact absurd (by rw [Bool.and_eq_true]; exact ⟨sameBlock_iff.2 e, List.contains_iff_mem.2 hm⟩) this
        | some k' =>
          have hp := List.find?_some hf
          rw [Bool.and_eq_true] at hp
          simp only [hf, Option.getD_some]
          exact ⟨List.contains_iff_mem.1 hp.2, sameBlock_iff.1 hp.1⟩
      obtain ⟨f, hfm⟩ := hch
      have hle := nodup_sub (((List.range (chsM (colsM b).length)).filter (fun i => seq t (textM (freeF b i)))).map f) (ColorSymM b) (by
        unfold List.Nodup
        rw [List.pairwise_map]
        refine List.Pairwise.imp_of_mem (fun {x y} hx hy hne hxy => hne ?_) (List.Pairwise.filter _ (List.nodup_range (n := chsM (colsM b).length)))
        have e1 := (hfm x hx).2
        have e2 := (hfm y hy).2
        rw [hxy, e2] at e1
        have hx' : x < chsM (colsM b).length := by simpa using (List.mem_filter.1 hx).1
        have hy' : y < chsM (colsM b).length := by simpa using (List.mem_filter.1 hy).1
        exact (wayX_one hb h3 hy' hx' e1).symm) (fun y hy => by
        obtain ⟨i, hi, rfl⟩ := List.mem_map.1 hy
        exact (hfm i hi).1)
      rw [List.length_map] at hle
      exact hle)
  simpa using key

theorem count_loop {b : GBlock} (h : BlockOkM b = true) (h3 : (colsM b).length ≤ 3) : ∃ k, wlO (laws_FnColorways_L1 b) 18446744073709551616 (1, 0) = some (((chsM (colsM b).length : Nat) : Int), k) := by
  have hp := cols_pos h
  have hc : ColorsM b = colsM b := by simp [ColorsM, h]
  have st : ∀ n k : Int, laws_FnColorways_L1 b (n, k) = bif decide (k < (((colsM b).length : Nat) : Int)) then some (.next (wr (n * wr (6 - k)), wr (k + 1))) else some (.brk (n, k)) := fun n k => by
    unfold laws_FnColorways_L1
    rw [spec_ColorsOf_eq, hc]
    rfl
  have hm : (colsM b).length = 1 ∨ (colsM b).length = 2 ∨ (colsM b).length = 3 := by omega
  have go : ∀ f : Int × Int → Option (Res (Int × Int) Empty), (∀ n k, f (n, k) = laws_FnColorways_L1 b (n, k)) → ∀ N, ∃ k, whO f (N + 4) (1, 0) = some (.inl (((chsM (colsM b).length : Nat) : Int), k)) := fun f hf N => by
    rcases hm with e | e | e
    · refine ⟨1, ?_⟩
      rw [whO, hf, st, e]
      show whO f (N + 3) (6, 1) = _
      rw [whO, hf, st, e]; rfl
    · refine ⟨2, ?_⟩
      rw [whO, hf, st, e]
      show whO f (N + 3) (6, 1) = _
      rw [whO, hf, st, e]
      show whO f (N + 2) (30, 2) = _
      rw [whO, hf, st, e]; rfl
    · refine ⟨3, ?_⟩
      rw [whO, hf, st, e]
      show whO f (N + 3) (6, 1) = _
      rw [whO, hf, st, e]
      show whO f (N + 2) (30, 2) = _
      rw [whO, hf, st, e]
      show whO f (N + 1) (120, 3) = _
      rw [whO, hf, st, e]; rfl
  obtain ⟨k, hk⟩ := go (laws_FnColorways_L1 b) (fun _ _ => rfl) 18446744073709551612
  exact ⟨k, by unfold wlO; rw [show (18446744073709551616 : Nat) = 18446744073709551612 + 4 from rfl, hk]; rfl⟩

theorem p_FnColorways (code : List UInt8) (_ : Fit.ok code) : laws_FnColorways code = some true := by
  unfold laws_FnColorways laws_big
  simp only [Option.bind_some]
  by_cases hc : ((code.length : Nat) : Int) > 1048576
  · rw [decide_eq_true hc]; rfl
  rw [decide_eq_false hc, cond_false]
  have hcl : code.length ≤ 1048576 := by omega
  obtain ⟨b, e0, hb, h3⟩ := draw_DrawBlock3 hcl
  obtain ⟨d, e1, hd3⟩ := draw_FreeColorways hcl
  obtain ⟨x0, ex0, a0, b0⟩ := draw_at hcl (i := 0) (by omega) (by omega)
  obtain ⟨x1, ex1, a1, b1⟩ := draw_at hcl (i := 1) (by omega) (by omega)
  obtain ⟨x2, ex2, a2, b2⟩ := draw_at hcl (i := 2) (by omega) (by omega)
  obtain ⟨x3, ex3, a3, b3⟩ := draw_at hcl (i := 3) (by omega) (by omega)
  have hn1 : 1 ≤ chsM (colsM b).length := by
    have hp := cols_pos hb
    have hm : (colsM b).length = 1 ∨ (colsM b).length = 2 ∨ (colsM b).length = 3 := by omega
    rcases hm with e | e | e <;> rw [e] <;> decide
  obtain ⟨kk, hloop⟩ := count_loop hb h3
  rw [e0]
  simp only [Option.bind_some]
  rw [impl_ColorwayCount_ok hb h3]
  simp only [Option.bind_some]
  rw [hloop]
  simp only [Option.bind_some, bne_self_eq_false, cond_false]
  rw [ex0]
  simp only [Option.bind_some]
  rw [ex1]
  simp only [Option.bind_some]
  have w1 : wr (256 * x1) = 256 * x1 := wr_of (by omega) (by omega)
  have w3 : wr (256 * x3) = 256 * x3 := wr_of (by omega) (by omega)
  have w2 : wr (x0 + 256 * x1) = x0 + 256 * x1 := wr_of (by omega) (by omega)
  have w4 : wr (x2 + 256 * x3) = x2 + 256 * x3 := wr_of (by omega) (by omega)
  rw [gd_pos (by omega), ex2]
  simp only [Option.bind_some]
  rw [ex3]
  simp only [Option.bind_some, w1, w2, w3, w4]
  have i0 := Int.tmod_nonneg ((chsM (colsM b).length : Nat) : Int) (show 0 ≤ x0 + 256 * x1 by omega)
  have i1 := Int.tmod_lt_of_pos (x0 + 256 * x1) (show 0 < ((chsM (colsM b).length : Nat) : Int) by omega)
  have k0 := Int.tmod_nonneg ((chsM (colsM b).length : Nat) : Int) (show 0 ≤ x2 + 256 * x3 by omega)
  have k1 := Int.tmod_lt_of_pos (x2 + 256 * x3) (show 0 < ((chsM (colsM b).length : Nat) : Int) by omega)
  obtain ⟨i, hi⟩ := Int.eq_ofNat_of_zero_le i0
  obtain ⟨k, hk⟩ := Int.eq_ofNat_of_zero_le k0
  have hil : i < chsM (colsM b).length := by omega
  have hkl : k < chsM (colsM b).length := by omega
  obtain ⟨l, l1, l2, _⟩ := wayX_inj hb h3 hil
  obtain ⟨m, m1, m2, _⟩ := wayX_inj hb h3 hkl
  obtain ⟨xo, hover⟩ := impl_ColorwayAt_over hb h3
  have hxi : BlockOkM (wayX b i) = true := exB_ok hb _
  have hxk : BlockOkM (wayX b k) = true := exB_ok hb _
  have pi : PlainM (wayX b i) = PlainM b := by rw [l2, plain_exB' hb l1]
  have pk : PlainM (wayX b k) = PlainM b := by rw [m2, plain_exB' hb m1]
  have ei : impl_ColorwayAt b (i : Int) = some (wayX b i, true) := impl_ColorwayAt_ok hb h3 hil
  have ek : impl_ColorwayAt b (k : Int) = some (wayX b k, true) := impl_ColorwayAt_ok hb h3 hkl
  have hsame : SameBlockM (wayX b i) (wayX b k) = (((i : Nat) : Int) == ((k : Nat) : Int)) := by
    rw [Bool.eq_iff_iff, sameBlock_iff, beq_iff_eq]
    constructor
    · intro h; rw [wayX_one hb h3 hil hkl h]
    · intro h; rw [show i = k by omega]
  have hpat : ArePattM b (wayX b i) = true := by
    unfold ArePattM
    rw [hb, hxi, l2, patt_exB hb l1, sameBlock_refl]; rfl
  have c1 : impl_IsColorway b (wayX b i) = some true := by rw [impl_IsColorway_ok hb hxi, pi, sameBlock_refl]
  have c2 : impl_IsColorway (wayX b i) (wayX b k) = some true := by rw [impl_IsColorway_ok hxi hxk, pi, pk, sameBlock_refl]
  rw [hi, hk, ei]
  simp only [Option.bind_some]
  rw [ek]
  simp only [Option.bind_some]
  rw [hover]
  simp only [Option.bind_some, Bool.not_true, cond_false]
  rw [impl_SameBlock_eq (blockOk_sm hxi).1, hsame]
  simp only [Option.bind_some, beq_self_eq_true, Bool.not_true, cond_false]
  rw [c1]
  simp only [Option.bind_some, Bool.not_true, cond_false]
  rw [c2]
  simp only [Option.bind_some, Bool.not_true, cond_false]
  rw [spec_ArePatternsSame_eq, hpat]
  simp only [Option.bind_some, Bool.not_true, cond_false]
  rw [e1]
  simp only [Option.bind_some]
  rw [impl_FreeColorways_eq]
  simp only [Option.bind_some]
  rw [spec_BlockOk_eq]
  simp only [Option.bind_some]
  cases hd : BlockOkM d
  · have hf : FreeM d = 0 := by unfold FreeM; rw [hd]; rfl
    simp only [Bool.not_false, cond_true, Option.bind_some, hf]
    rfl
  · have hd3' := hd3 hd
    have hcd : ColorsM d = colsM d := by simp [ColorsM, hd]
    have hf : FreeM d = (((txsM (freeF d) (chsM (colsM d).length)).length : Nat) : Int) := by
      unfold FreeM
      rw [hd, decide_eq_true hd3']; rfl
    have hnd : 1 ≤ chsM (colsM d).length := by
      have hp := cols_pos hd
      have hm : (colsM d).length = 1 ∨ (colsM d).length = 2 ∨ (colsM d).length = 3 := by omega
      rcases hm with e | e | e <;> rw [e] <;> decide
    have t1 := txs_pos (freeF d) _ hnd
    have t2 := txs_le (freeF d) (chsM (colsM d).length)
    have t3 := free_times hd hd3'
    have hsl : (ColorSymM d).length ≤ 8 := by
      unfold ColorSymM
      rw [hd, cond_true, List.length_map]
      have := List.length_filter_le (fun k : Nat => SameBlockM (PlainM (SeenM d (k : Int))) (PlainM d)) (List.range 8)
      simpa using this
    have hle := chs_le (n := (colsM d).length)
    simp only [Bool.not_true, cond_false, spec_ColorsOf_eq, hcd, Option.bind_some]
    rw [decide_eq_false (show ¬ (((colsM d).length : Nat) : Int) > 3 by omega)]
    simp only [cond_false]
    rw [impl_ColorwayCount_ok hd hd3']
    simp only [Option.bind_some]
    rw [spec_ColorSymmetries_eq]
    simp only [Option.bind_some]
    have hw : wr (FreeM d * (((ColorSymM d).length : Nat) : Int)) = (((txsM (freeF d) (chsM (colsM d).length)).length * (ColorSymM d).length : Nat) : Int) := by
      have hm : (txsM (freeF d) (chsM (colsM d).length)).length * (ColorSymM d).length ≤ 120 * 8 := Nat.mul_le_mul (by omega) hsl
      rw [hf, ← Int.natCast_mul]
      exact wr_of (by omega) (by omega)
    rw [hw, hf, decide_eq_true (show (((txsM (freeF d) (chsM (colsM d).length)).length : Nat) : Int) ≥ 1 by omega), decide_eq_true (show (((txsM (freeF d) (chsM (colsM d).length)).length : Nat) : Int) ≤ ((chsM (colsM d).length : Nat) : Int) by omega), decide_eq_true (show (((txsM (freeF d) (chsM (colsM d).length)).length * (ColorSymM d).length : Nat) : Int) ≥ ((chsM (colsM d).length : Nat) : Int) by omega)]
    simp only [cond_true]
    rw [impl_IsColorway_ok hd hd, sameBlock_refl]
    rfl
end Go.Proofs.YtkahnmhkfmjomabDoor
