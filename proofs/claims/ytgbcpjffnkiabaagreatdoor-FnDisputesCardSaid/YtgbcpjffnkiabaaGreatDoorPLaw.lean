/-
  The plain laws: what the functions compute, in Lean alone.
-/
import Derived.Test.YtgbcpjffnkiabaaGreatDoorP1
namespace Go.Proofs.YtgbcpjffnkiabaaGreatDoor
open Go

theorem turns_add (b : GBlock) (j : Nat) : ∀ k, turnsM (j + k) b = turnsM k (turnsM j b)
  | 0 => rfl
  | k + 1 => by
    show TurnBlockM (turnsM (j + k) b) = TurnBlockM (turnsM k (turnsM j b))
    rw [turns_add b j k]
theorem turns_four {b : GBlock} (hb : BlockOkM b = true) : turnsM 4 b = b := turn4 hb
theorem turns_mul {b : GBlock} (hb : BlockOkM b = true) (r : Nat) : ∀ q, turnsM (4 * q + r) b = turnsM r b
  | 0 => by rw [show 4 * 0 + r = r by omega]
  | q + 1 => by
    rw [show 4 * (q + 1) + r = 4 + (4 * q + r) by omega, turns_add, turns_four hb]
    exact turns_mul hb r q
theorem turns_mod {b : GBlock} (hb : BlockOkM b = true) (k : Nat) : turnsM (k % 4) b = turnsM k b := by
  have := turns_mul hb (k % 4) (k / 4)
  rw [Nat.div_add_mod] at this
  exact this.symm
theorem mirror_turn {b : GBlock} (hb : BlockOkM b = true) : MirrorBlockM (TurnBlockM b) = turnsM 3 (MirrorBlockM b) := by
  have o := mirrorBlock_ok (turnBlock_ok hb)
  have h := turn4 o
  rw [tmt hb] at h
  exact h.symm
theorem mirror_turns {b : GBlock} (hb : BlockOkM b = true) : ∀ i, MirrorBlockM (turnsM i b) = turnsM (3 * i) (MirrorBlockM b)
  | 0 => rfl
  | i + 1 => by
    show MirrorBlockM (TurnBlockM (turnsM i b)) = _
    rw [mirror_turn (turns_ok hb i).1, mirror_turns hb i, ← turns_add]
    congr 1

theorem seen_low {b : GBlock} (hb : BlockOkM b = true) {i : Nat} (hi : i < 4) : SeenM b (i : Int) = turnsM i b := by
  have h7 : inR (i : Int) 0 7 = true := inR_iff.2 ⟨by omega, by omega⟩
  have e1 : ((i : Int).tmod 4).toNat = i := by
    rw [Int.tmod_eq_emod_of_nonneg (by omega)]; omega
  have e2 : decide ((i : Int) ≥ 4) = false := decide_eq_false (by omega)
  unfold SeenM
  rw [hb, h7, e1, e2]; rfl
theorem seen_high {b : GBlock} (hb : BlockOkM b = true) {i : Nat} (h4 : 4 ≤ i) (hi : i < 8) : SeenM b (i : Int) = turnsM (i - 4) (MirrorBlockM b) := by
  have h7 : inR (i : Int) 0 7 = true := inR_iff.2 ⟨by omega, by omega⟩
  have e1 : ((i : Int).tmod 4).toNat = i - 4 := by
    rw [Int.tmod_eq_emod_of_nonneg (by omega)]; omega
  have e2 : decide ((i : Int) ≥ 4) = true := decide_eq_true (by omega)
  unfold SeenM
  rw [hb, h7, e1, e2]; rfl
/-- The number of the view of a view. -/
def prodN (i k : Nat) : Nat := if i < 4 ∧ k < 4 then (i + k) % 4 else if k < 4 then 4 + (i + k) % 4 else if i < 4 then 4 + (k + 4 - i) % 4 else (k + 4 - i) % 4
theorem prod_lt {i k : Nat} : prodN i k < 8 := by unfold prodN; split <;> (try split) <;> (try split) <;> omega
theorem seen_seen {b : GBlock} (hb : BlockOkM b = true) {i k : Nat} (hi : i < 8) (hk : k < 8) : SeenM (SeenM b (i : Int)) (k : Int) = SeenM b ((prodN i k : Nat) : Int) := by
  have hv := (view_ok hb hi).1
  have hm := mirrorBlock_ok hb
  unfold prodN
  by_cases h1 : i < 4
  · by_cases h2 : k < 4
    · rw [if_pos ⟨h1, h2⟩, seen_low hv h2, seen_low hb h1, seen_low hb (by omega), ← turns_add, turns_mod hb]
    · rw [if_neg (by omega), if_neg h2, if_pos h1, seen_high hv (by omega) hk, seen_low hb h1, mirror_turns hb, ← turns_add, seen_high hb (by omega) (by omega), Nat.add_sub_cancel_left, ← turns_mod hm]
      congr 1
      omega
  · by_cases h2 : k < 4
    · rw [if_neg (by omega), if_pos h2, seen_low hv h2, seen_high hb (by omega) hi, ← turns_add, seen_high hb (by omega) (by omega), Nat.add_sub_cancel_left, ← turns_mod hm]
      congr 1
      omega
    · rw [if_neg (by omega), if_neg h2, if_neg h1, seen_high hv (by omega) hk, seen_high hb (by omega) hi, mirror_turns hm, mirror2 hb, ← turns_add, seen_low hb (by omega), ← turns_mod hb]
      congr 1
      omega

theorem prod_assoc : ∀ i, i < 8 → ∀ k, k < 8 → ∀ m, m < 8 → prodN (prodN i k) m = prodN i (prodN k m) := by decide +kernel
def invN (i : Nat) : Nat := if i < 4 then (4 - i) % 4 else i
theorem prod_inv : ∀ i, i < 8 → invN i < 8 ∧ prodN i (invN i) = 0 ∧ prodN (invN i) i = 0 ∧ prodN i 0 = i ∧ prodN 0 i = i := by decide +kernel

/-- The views that leave a block as it is. -/
def stabM (b : GBlock) (k : Nat) : Bool := SameBlockM (SeenM b (k : Int)) b
theorem stab_iff {b : GBlock} {k : Nat} : stabM b k = true ↔ SeenM b (k : Int) = b := sameBlock_iff
theorem stab_prod {b : GBlock} (hb : BlockOkM b = true) {i k : Nat} (hi : i < 8) (hk : k < 8) (h1 : stabM b i = true) (h2 : stabM b k = true) : stabM b (prodN i k) = true := by
  rw [stab_iff] at h1 h2 ⊢
  rw [← seen_seen hb hi hk, h1, h2]
theorem same_view {b : GBlock} (hb : BlockOkM b = true) {j k : Nat} (hj : j < 8) (hk : k < 8) : SameBlockM (SeenM b (j : Int)) (SeenM b (k : Int)) = stabM b (prodN j (invN k)) := by
  obtain ⟨v1, v2, v3, v4, v5⟩ := prod_inv k hk
  rw [Bool.eq_iff_iff, sameBlock_iff, stab_iff, ← seen_seen hb hj v1]
  have h0 : SeenM b ((0 : Nat) : Int) = b := seen_zero hb
  constructor
  · intro h; rw [h, seen_seen hb hk v1, v2, h0]
  · intro h
    have := congrArg (fun d => SeenM d (k : Int)) h
    have this : SeenM (SeenM (SeenM b (j : Int)) ((invN k : Nat) : Int)) (k : Int) = SeenM b (k : Int) := this
    rw [seen_seen (view_ok hb hj).1 v1 hk, v3] at this
    rw [← this]
    have hz : SeenM (SeenM b (j : Int)) ((0 : Nat) : Int) = SeenM b (j : Int) := seen_zero (view_ok hb hj).1
    exact hz.symm

/-- How many of the eight are in S; how many are not led to one before by S. -/
def sizeS (S : Nat → Bool) : Nat := ((List.range 8).filter S).length
def formsS (S : Nat → Bool) : Nat := ((List.range 8).filter fun k => (List.range k).all fun j => !S (prodN j (invN k))).length
def closedS (S : Nat → Bool) : Bool := S 0 && (List.range 8).all fun i => (List.range 8).all fun k => !(S i && S k) || S (prodN i k)
theorem orbits : ∀ v, v < 256 → closedS (fun k => v.testBit k) = true → sizeS (fun k => v.testBit k) * formsS (fun k => v.testBit k) = 8 := by decide +kernel

def viewsL (S : Nat → Bool) : List Int := ((List.range 8).filter S).map fun k : Nat => (k : Int)
theorem mem_viewsL {S : Nat → Bool} {x : Int} : x ∈ viewsL S ↔ ∃ k : Nat, k < 8 ∧ S k = true ∧ x = (k : Int) := by
  simp only [viewsL, List.mem_map, List.mem_filter, List.mem_range]
  constructor
  · rintro ⟨k, ⟨h1, h2⟩, rfl⟩; exact ⟨k, h1, h2, rfl⟩
  · rintro ⟨k, h1, h2, rfl⟩; exact ⟨k, ⟨h1, h2⟩, rfl⟩
theorem viewsL_len (S : Nat → Bool) : (viewsL S).length = sizeS S := by simp [viewsL, sizeS]
theorem sizeS_le (S : Nat → Bool) : sizeS S ≤ 8 := by
  have := List.length_filter_le S (List.range 8)
  simpa [sizeS] using this
theorem viewsL_strict (S : Nat → Bool) : (viewsL S).Pairwise (· < ·) := by
  unfold viewsL
  rw [List.pairwise_map]
  exact (List.Pairwise.filter S List.pairwise_lt_range).imp fun h => by omega

def colS (b : GBlock) (k : Nat) : Bool := SameBlockM (PlainM (SeenM b (k : Int))) (PlainM b)
theorem colorSym_views {b : GBlock} (hb : BlockOkM b = true) : ColorSymM b = viewsL (colS b) := by unfold ColorSymM; rw [hb]; rfl
theorem stab_col {b : GBlock} {k : Nat} (h : stabM b k = true) : colS b k = true := by
  unfold colS
  rw [stab_iff.1 h]
  exact sameBlock_refl _
theorem plain_view {b : GBlock} (hb : BlockOkM b = true) : PlainM b = exB (FirstUseM b) b := by
  unfold PlainM
  rw [exB_eq hb (firstUse_ok hb)]
theorem col_prod {b : GBlock} (hb : BlockOkM b = true) {i k : Nat} (hi : i < 8) (hk : k < 8) (h1 : colS b i = true) (h2 : colS b k = true) : colS b (prodN i k) = true := by
  have hv := (view_ok hb hi).1
  have hw := (view_ok hb hk).1
  unfold colS at h1 h2 ⊢
  rw [sameBlock_iff] at h1 h2 ⊢
  rw [plain_view hv, plain_view hb] at h1
  -- the view is an exchange of the block
  have hu := firstUse_inj hv
  have hf := firstUse_inj hb
  obtain ⟨hui, hun⟩ := undo_inj hu
  have he : SeenM b (i : Int) = exB (undoM (FirstUseM (SeenM b (i : Int)))) (exB (FirstUseM b) b) := by
    rw [← h1, exB_undo hv hu hui hun]
  have hpl := exB_ok hb (FirstUseM b)
  have hvk := (view_ok hpl hk).1
  have e1 : SeenM (SeenM b (i : Int)) (k : Int) = exB (undoM (FirstUseM (SeenM b (i : Int)))) (exB (FirstUseM b) (SeenM b (k : Int))) := by
    rw [he, seen_exchange hpl hui.1 hk, seen_exchange hb hf.1 hk, ← he]
  have hx1 := exB_ok hw (FirstUseM b)
  rw [← seen_seen hb hi hk, e1, plain_view (exB_ok hx1 _), plain_exB hx1 hui, plain_exB hw hf, ← plain_view hw, h2]
theorem col_closed {b : GBlock} (hb : BlockOkM b = true) : closedS (colS b) = true := by
  unfold closedS
  rw [stab_col (stab_iff.2 (seen_zero hb))]
  simp only [Bool.true_and, List.all_eq_true, List.mem_range]
  intro i hi k hk
  cases h1 : colS b i
  · rfl
  cases h2 : colS b k
  · rfl
  simp [col_prod hb hi hk h1 h2]

theorem bytesLess_trans : ∀ {a b c : List UInt8}, Op.bytesLess a b = true → Op.bytesLess b c = true → Op.bytesLess a c = true
  | [], [], _, h, _ => by simp [Op.bytesLess] at h
  | [], _ :: _, [], _, h => by simp [Op.bytesLess] at h
  | [], _ :: _, _ :: _, _, _ => rfl
  | _ :: _, [], _, h, _ => by simp [Op.bytesLess] at h
  | _ :: _, _ :: _, [], _, h => by simp [Op.bytesLess] at h
  | x :: a, y :: b, z :: c, h1, h2 => by
    simp only [Op.bytesLess, Bool.or_eq_true, Bool.and_eq_true, decide_eq_true_iff, beq_iff_eq] at h1 h2 ⊢
    rcases h1 with h1 | ⟨rfl, h1⟩
    · rcases h2 with h2 | ⟨rfl, h2⟩
      · exact Or.inl (UInt8.lt_trans h1 h2)
      · exact Or.inl h1
    · rcases h2 with h2 | ⟨rfl, h2⟩
      · exact Or.inl h2
      · exact Or.inr ⟨rfl, bytesLess_trans h1 h2⟩
theorem bytesLess_total : ∀ {a b : List UInt8}, Op.bytesLess a b = false → Op.bytesLess b a = false → a = b
  | [], [], _, _ => rfl
  | [], _ :: _, h, _ => by simp [Op.bytesLess] at h
  | _ :: _, [], _, h => by simp [Op.bytesLess] at h
  | x :: a, y :: b, h1, h2 => by
    simp only [Op.bytesLess, Bool.or_eq_false_iff, Bool.and_eq_false_iff, decide_eq_false_iff_not, beq_eq_false_iff_ne] at h1 h2
    have hxy : x = y := UInt8.le_antisymm (UInt8.not_lt.1 h2.1) (UInt8.not_lt.1 h1.1)
    subst hxy
    have e1 := h1.2.resolve_left (fun h => h rfl)
    have e2 := h2.2.resolve_left (fun h => h rfl)
    rw [bytesLess_total e1 e2]

theorem slt_trans {a b c : Str} (h1 : slt a b = true) (h2 : slt b c = true) : slt a c = true := bytesLess_trans h1 h2
theorem slt_total {a b : Str} (h1 : slt a b = false) (h2 : slt b a = false) : a = b := by
  have := bytesLess_total h1 h2
  cases a; cases b; simp only at this; rw [this]
/-- The least of blocks is not behind any of them. -/
theorem lst_least (F : Nat → GBlock) : ∀ n k, k ≤ n → slt (textM (F k)) (textM (lstM F n)) = false
  | 0, k, hk => by
    have : k = 0 := by omega
    subst this
    exact slt_irrefl _
  | n + 1, k, hk => by
    unfold lstM
    cases h : slt (textM (F (n + 1))) (textM (lstM F n))
    · rw [cond_false]
      rcases Nat.lt_or_ge k (n + 1) with h1 | h1
      · exact lst_least F n k (by omega)
      · have : k = n + 1 := by omega
        subst this; exact h
    · rw [cond_true]
      rcases Nat.lt_or_ge k (n + 1) with h1 | h1
      · have ih := lst_least F n k (by omega)
        rw [Bool.eq_false_iff]
        intro hk2
        have := slt_trans hk2 h
        rw [this] at ih; cases ih
      · have : k = n + 1 := by omega
        subst this; exact slt_irrefl _
/-- Two lists with the same valid blocks have the same least one. -/
theorem lst_same {F G : Nat → GBlock} {n : Nat} (hF : ∀ k, k ≤ n → BlockOkM (F k) = true) (hG : ∀ k, k ≤ n → BlockOkM (G k) = true) (h1 : ∀ k, k ≤ n → ∃ j, j ≤ n ∧ F k = G j) (h2 : ∀ k, k ≤ n → ∃ j, j ≤ n ∧ G k = F j) : lstM F n = lstM G n := by
  obtain ⟨i, hi, ei⟩ := lst_in F n
  obtain ⟨j, hj, ej⟩ := lst_in G n
  obtain ⟨a, ha, ea⟩ := h1 i hi
  obtain ⟨c, hc, ec⟩ := h2 j hj
  have l1 := lst_least G n a ha
  have l2 := lst_least F n c hc
  rw [← ea, ← ei] at l1
  rw [← ec, ← ej] at l2
  have := slt_total l1 l2
  refine text_inj ?_ ?_ this
  · rw [ei]; exact hF i hi
  · rw [ej]; exact hG j hj

/-- Every view of a block is a view of each of its views. -/
theorem view_back {b : GBlock} (hb : BlockOkM b = true) {i k : Nat} (hi : i < 8) (hk : k < 8) : ∃ j : Nat, j ≤ 7 ∧ SeenM b (k : Int) = SeenM (SeenM b (i : Int)) (j : Int) := by
  obtain ⟨v1, v2, v3, v4, v5⟩ := prod_inv i hi
  refine ⟨prodN (invN i) k, by have := prod_lt (i := invN i) (k := k); omega, ?_⟩
  rw [seen_seen hb hi prod_lt, ← prod_assoc i hi (invN i) v1 k hk, v2, (prod_inv k hk).2.2.2.2]
theorem form_view {b : GBlock} (hb : BlockOkM b = true) {i : Nat} (hi : i < 8) : FormM (SeenM b (i : Int)) = FormM b := by
  have hv := (view_ok hb hi).1
  unfold FormM
  rw [hb, hv, cond_true, cond_true]
  refine lst_same (fun k hk => (view_ok hv (by omega)).1) (fun k hk => (view_ok hb (by omega)).1) (fun k hk => ?_) (fun k hk => view_back hb hi (by omega))
  exact ⟨prodN i k, by have := prod_lt (i := i) (k := k); omega, seen_seen hb hi (by omega)⟩

theorem plain_exB' {b : GBlock} (hb : BlockOkM b = true) {l : List Int} (hl : InjM l) : PlainM (exB l b) = PlainM b := by
  rw [plain_view (exB_ok hb l), plain_view hb, plain_exB hb hl]
theorem patt_exB {b : GBlock} (hb : BlockOkM b = true) {l : List Int} (hl : InjM l) : PattM (exB l b) = PattM b := by
  unfold PattM
  rw [exB_ok hb l, hb, cond_true, cond_true]
  refine lst_congr fun k hk => ?_
  show PlainM (SeenM (exB l b) (k : Int)) = PlainM (SeenM b (k : Int))
  rw [seen_exchange hb hl.1 (by omega), plain_exB' (view_ok hb (by omega)).1 hl]
theorem patt_view {b : GBlock} (hb : BlockOkM b = true) {i : Nat} (hi : i < 8) : PattM (SeenM b (i : Int)) = PattM b := by
  have hv := (view_ok hb hi).1
  unfold PattM
  rw [hb, hv, cond_true, cond_true]
  refine lst_same (fun k hk => (plain_ok (view_ok hv (by omega)).1).1) (fun k hk => (plain_ok (view_ok hb (by omega)).1).1) (fun k hk => ?_) (fun k hk => ?_)
  · exact ⟨prodN i k, by have := prod_lt (i := i) (k := k); omega, by show PlainM (SeenM (SeenM b (i : Int)) (k : Int)) = _; rw [seen_seen hb hi (by omega)]⟩
  · obtain ⟨j, hj, e⟩ := view_back hb hi (k := k) (by omega)
    exact ⟨j, hj, by show PlainM (SeenM b (k : Int)) = _; rw [e]⟩

theorem spec_SwapList_eq {i k : Nat} (hi : i < 6) (hk : k < 6) : spec_SwapList (i : Int) (k : Int) = some (swM i k) := by
  have e1 : inR (i : Int) 0 5 = true := inR_iff.2 ⟨by omega, by omega⟩
  have e2 : inR (k : Int) 0 5 = true := inR_iff.2 ⟨by omega, by omega⟩
  unfold spec_SwapList
  simp only [l01In_eq, e1, e2, Option.bind_some, Bool.not_true, cond_false, spec_l06Same_eq]
  rw [gd_pos ⟨by omega, by simp [six]; omega⟩, gd_pos ⟨by omega, by simp [six]; omega⟩]
  rfl

theorem patt_plain {b : GBlock} (hb : BlockOkM b = true) : PattM (PlainM b) = PattM b := by rw [plain_view hb, patt_exB hb (firstUse_inj hb)]
theorem plain_seen_plain {b : GBlock} (hb : BlockOkM b = true) {m : Nat} (hm : m < 8) : PlainM (SeenM (PlainM b) (m : Int)) = PlainM (SeenM b (m : Int)) := by
  have hf := firstUse_inj hb
  rw [plain_view hb, seen_exchange hb hf.1 hm, plain_exB' (view_ok hb hm).1 hf]
theorem patt_of_plain {b d : GBlock} (hb : BlockOkM b = true) (hd : BlockOkM d = true) {k : Nat} (hk : k < 8) (h : PlainM (SeenM d (k : Int)) = PlainM b) : PattM b = PattM d := by
  rw [← patt_plain hb, ← h, patt_plain (view_ok hd hk).1, patt_view hd hk]
theorem plain_of_patt {b d : GBlock} (hb : BlockOkM b = true) (hd : BlockOkM d = true) (h : PattM b = PattM d) : ∃ k : Nat, k < 8 ∧ PlainM (SeenM d (k : Int)) = PlainM b := by
  unfold PattM at h
  rw [hb, hd, cond_true, cond_true] at h
  obtain ⟨i, hi, e1⟩ := lst_in (fun k => PlainM (SeenM b (k : Int))) 7
  obtain ⟨j, hj, e2⟩ := lst_in (fun k => PlainM (SeenM d (k : Int))) 7
  rw [e1, e2] at h
  have hi8 : i < 8 := by omega
  have hj8 : j < 8 := by omega
  obtain ⟨v1, v2, _, _, _⟩ := prod_inv i hi8
  refine ⟨prodN j (invN i), prod_lt, ?_⟩
  have hz : SeenM b ((0 : Nat) : Int) = b := seen_zero hb
  calc PlainM (SeenM d ((prodN j (invN i) : Nat) : Int)) = PlainM (SeenM (SeenM d (j : Int)) ((invN i : Nat) : Int)) := by rw [seen_seen hd hj8 v1]
    _ = PlainM (SeenM (PlainM (SeenM d (j : Int))) ((invN i : Nat) : Int)) := (plain_seen_plain (view_ok hd hj8).1 v1).symm
    _ = PlainM (SeenM (PlainM (SeenM b (i : Int))) ((invN i : Nat) : Int)) := by rw [← h]
    _ = PlainM (SeenM (SeenM b (i : Int)) ((invN i : Nat) : Int)) := plain_seen_plain (view_ok hb hi8).1 v1
    _ = PlainM b := by rw [seen_seen hb hi8 v1, v2, hz]

theorem verdict_same {e f : GEntry} : VerdictM e f = 3 ↔ EntOkM e = true ∧ EntOkM f = true ∧ e.Block.Size = f.Block.Size ∧ PattM e.Block = PattM f.Block := by
  unfold VerdictM
  cases he : EntOkM e
  · simp
  cases hf : EntOkM f
  · simp
  have be : BlockOkM e.Block = true := by
    simp only [EntOkM, Bool.and_eq_true] at he; exact he.2
  have bf : BlockOkM f.Block = true := by
    simp only [EntOkM, Bool.and_eq_true] at hf; exact hf.2
  unfold ArePattM
  rw [be, bf]
  cases hs : e.Block.Size != f.Block.Size
  · have hs' : e.Block.Size = f.Block.Size := by simpa using hs
    cases hp : SameBlockM (PattM e.Block) (PattM f.Block)
    · have hp' : ¬ PattM e.Block = PattM f.Block := fun hh => by rw [sameBlock_iff.2 hh] at hp; cases hp
      simp only [Bool.not_true, Bool.or_self, cond_false, Bool.and_self, Bool.and_false]
      constructor
      · intro hh
        cases hd : decide (wr (10 * PatLikeM e.Block f.Block) ≥ wr (36 * (e.Block.Cells.length : Int))) <;> rw [hd] at hh <;> simp at hh
      · intro hh; exact absurd hh.2.2.2 hp'
    · have hp' := sameBlock_iff.1 hp
      simp [hs', hp']
  · have hs' : ¬ e.Block.Size = f.Block.Size := by simpa using hs
    simp [hs']

theorem verdict_refl {e : GEntry} (h : EntOkM e = true) : VerdictM e e = 3 := verdict_same.2 ⟨h, h, rfl, rfl⟩
theorem verdict_symm (e f : GEntry) : (VerdictM e f == 3) = (VerdictM f e == 3) := by
  rw [Bool.eq_iff_iff, beq_iff_eq, beq_iff_eq, verdict_same, verdict_same]
  constructor
  · rintro ⟨a, b, c, d⟩; exact ⟨b, a, c.symm, d.symm⟩
  · rintro ⟨a, b, c, d⟩; exact ⟨b, a, c.symm, d.symm⟩
theorem verdict_zero (e f : GEntry) : (VerdictM e f != 0) = (EntOkM e && EntOkM f && e.Block.Size == f.Block.Size) := by
  unfold VerdictM
  cases EntOkM e
  · rfl
  cases EntOkM f
  · rfl
  cases hs : e.Block.Size != f.Block.Size
  · have hs' : (e.Block.Size == f.Block.Size) = true := by simpa using hs
    rw [hs']
    cases ArePattM e.Block f.Block
    · cases decide (wr (10 * PatLikeM e.Block f.Block) ≥ wr (36 * (e.Block.Cells.length : Int))) <;> rfl
    · rfl
  · have hs' : (e.Block.Size == f.Block.Size) = false := by simpa using hs
    rw [hs']; rfl

theorem wit_spec (e f : GEntry) : ∃ w, impl_WitnessOf e f = some w ∧ w ≤ 7 ∧ decide (w ≥ 0) = (VerdictM e f == 3) := by
  unfold impl_WitnessOf
  simp only [impl_EntryOk_eq', Option.bind_some]
  cases he : EntOkM e
  · refine ⟨_, rfl, by omega, ?_⟩
    have : ¬ VerdictM e f = 3 := fun h => by rw [(verdict_same.1 h).1] at he; cases he
    rw [beq_eq_false_iff_ne.2 this]; rfl
  cases hf : EntOkM f
  · refine ⟨_, rfl, by omega, ?_⟩
    have : ¬ VerdictM e f = 3 := fun h => by rw [(verdict_same.1 h).2.1] at hf; cases hf
    rw [beq_eq_false_iff_ne.2 this]; rfl
  have be : BlockOkM e.Block = true := by
    simp only [EntOkM, Bool.and_eq_true] at he; exact he.2
  have bf : BlockOkM f.Block = true := by
    simp only [EntOkM, Bool.and_eq_true] at hf; exact hf.2
  simp only [Bool.not_true, cond_false, Option.bind_some, impl_plain_eq be, impl_views_eq, views_len]
  rw [gd_pos (by omega), forO_find (f := impl_WitnessOf_L1 (PlainM e.Block) (viewsM f.Block)) (fun k : Nat => SameBlockM (PlainM (SeenM f.Block (k : Int))) (PlainM e.Block)) (fun k => (k : Int)) (fun k hk => by
      have hv := (view_ok bf hk).1
      have hp := (plain_ok hv).1
      unfold impl_WitnessOf_L1
      rw [views_gx _ hk]
      simp only [impl_plain_eq hv, impl_SameBlock_eq (blockOk_sm hp).1, Option.bind_some]
      cases SameBlockM (PlainM (SeenM f.Block (k : Int))) (PlainM e.Block) <;> rfl)]
  cases hk : (List.range 8).find? fun k : Nat => SameBlockM (PlainM (SeenM f.Block (k : Int))) (PlainM e.Block) with
  | none =>
    refine ⟨_, rfl, by omega, ?_⟩
    have : ¬ VerdictM e f = 3 := fun h => by
      obtain ⟨k, k8, hp⟩ := plain_of_patt be bf (verdict_same.1 h).2.2.2
      have h2 := List.find?_eq_none.1 hk k (by simpa using k8)
      exact h2 (sameBlock_iff.2 hp)
    rw [beq_eq_false_iff_ne.2 this]; rfl
  | some k =>
    have k8 : k < 8 := by simpa using List.mem_of_find?_eq_some hk
    have hp1 := List.find?_some hk
    have hp := sameBlock_iff.1 hp1
    refine ⟨_, rfl, by omega, ?_⟩
    have hv : VerdictM e f = 3 := verdict_same.2 ⟨he, hf, by
      have h1 := (plain_ok be).2
      have h2 := (plain_ok (view_ok bf k8).1).2
      rw [hp, h1, (view_ok bf k8).2] at h2
      exact h2, patt_of_plain be bf k8 hp⟩
    rw [hv]
    simp

theorem fst_spec (l : List GEntry) (e : GEntry) : ∀ m, (∀ j, j < m → VerdictM (gx l j) e = 3 → 0 ≤ fstM l e m ∧ (gx l (fstM l e m).toNat).Day ≤ (gx l j).Day) ∧ (0 ≤ fstM l e m → VerdictM (gx l (fstM l e m).toNat) e = 3)
  | 0 => ⟨fun j hj => absurd hj (by omega), fun h => absurd h (by simp [fstM])⟩
  | m + 1 => by
    obtain ⟨h1, h2⟩ := fst_spec l e m
    unfold fstM
    cases hc : (VerdictM (gx l m) e == 3) && (decide (fstM l e m < 0) || decide ((gx l m).Day < (gx l (fstM l e m).toNat).Day))
    · simp only [cond_false]
      refine ⟨fun j hj hv => ?_, h2⟩
      by_cases hjm : j < m
      · exact h1 j hjm hv
      · have e : j = m := by omega
        subst e
        rw [beq_iff_eq.2 hv, Bool.true_and, Bool.or_eq_false_iff] at hc
        obtain ⟨c1, c2⟩ := hc
        simp at c1 c2
        exact ⟨c1, c2⟩
    · simp only [cond_true, Int.toNat_natCast]
      rw [Bool.and_eq_true, Bool.or_eq_true, beq_iff_eq, decide_eq_true_eq, decide_eq_true_eq] at hc
      refine ⟨fun j hj hv => ⟨by omega, ?_⟩, fun _ => hc.1⟩
      by_cases hjm : j < m
      · obtain ⟨k1, k2⟩ := h1 j hjm hv
        rcases hc.2 with hh | hh
        · omega
        · omega
      · have e : j = m := by omega
        subst e
        exact Int.le_refl _

theorem first_ok {l : List GEntry} (hl : l.length ≤ 10) {k : Nat} (hk : k < l.length) (he : EntOkM (gx l k) = true) : 0 ≤ FirstM l (gx l k) ∧ FirstM l (gx l k) < l.length ∧ (gx l (FirstM l (gx l k)).toNat).Day ≤ (gx l k).Day ∧ VerdictM (gx l (FirstM l (gx l k)).toNat) (gx l k) = 3 := by
  have hd : decide ((l.length : Int) > 10) = false := by simp; omega
  unfold FirstM
  rw [hd, cond_false]
  obtain ⟨h1, h2⟩ := fst_spec l (gx l k) l.length
  obtain ⟨h3, h4⟩ := h1 k hk (verdict_refl he)
  exact ⟨h3, (fst_bound l (gx l k) l.length).2, h4, h2 h3⟩

theorem seen_len (b : GBlock) (k : Int) : (SeenM b k).Cells.length ≤ 16 := by
  cases h : BlockOkM b
  · unfold SeenM; rw [h]; simp
  cases hk : inR k 0 7
  · unfold SeenM; rw [hk]; simp
  obtain ⟨n, hn, n1, n4, hl, _⟩ := blockOk_spec (seen_ok h hk).1
  have hnn : n * n ≤ 4 * 4 := Nat.mul_le_mul n4 n4
  omega

theorem draw_Pair {c : List UInt8} {i g : Int} (h : CurOk c i) : ∃ b d i' g', spec_l29Pair c i g = some (b, d, i', g') ∧ CurOk c i' ∧ b.Cells.length ≤ 16 ∧ d.Cells.length ≤ 16 := by
  obtain ⟨b, i1, g1, e1, c1, hb⟩ := draw_AnyBlock (g := g) h
  obtain ⟨x, i2, g2, e2, c2, _⟩ := draw_Below (g := g1) (n := 4) c1 (by omega)
  unfold spec_l29Pair
  rw [e1]
  simp only [Option.bind_some, e2]
  cases x == 0
  · cases x == 1
    · cases x == 2
      · obtain ⟨d, i3, g3, e3, c3, hd⟩ := draw_AnyBlock (g := g2) c2
        simp only [cond_false, e3, Option.bind_some]
        exact ⟨_, _, _, _, rfl, c3, hb, hd⟩
      · obtain ⟨s, ⟨s1, s2⟩, es⟩ := lpO_inv2 (f := spec_l29Pair_L1 c) (N := b.Cells.length) (s0 := (b.Cells, i2, g2)) (fun _ s => s.1.length = b.Cells.length ∧ CurOk c s.2.1) ⟨rfl, c2⟩ fun k s hk hs => by
          obtain ⟨s1, s2⟩ := hs
          obtain ⟨y, i3, g3, e3, c3, _⟩ := draw_Below (g := s.2.2) (n := 2) s2 (by omega)
          unfold spec_l29Pair_L1 spec_l01Once
          rw [e3]
          simp only [Option.bind_some]
          cases y == 0
          · exact ⟨(s.1, i3, g3), ⟨s1, c3⟩, rfl⟩
          · obtain ⟨z, i4, g4, e4, c4, _⟩ := draw_Cell (g := g3) c3
            simp only [cond_true, e4, Option.bind_some]
            exact ⟨(s.1.set k z, i4, g4), ⟨by simp only [List.length_set]; exact s1, c4⟩, rfl⟩
        simp only [cond_false, cond_true, spec_l03Copy, List.nil_append, List.length_nil]
        rw [gd_pos (by omega)]
        simp only [Option.bind_some]
        rw [gd_pos (by omega), es]
        exact ⟨_, _, _, _, rfl, s2, hb, by simp only; omega⟩
    · obtain ⟨y, i3, g3, e3, c3, _⟩ := draw_Below (g := g2) (n := 8) c2 (by omega)
      obtain ⟨l, i4, g4, e4, c4, hl⟩ := draw_List (g := g3) c3
      have hs := seen_len b y
      simp only [cond_false, cond_true, e3, spec_SeenFrom_eq, Option.bind_some, e4]
      rw [spec_ExchangeBlock_eq (by omega) (by omega)]
      refine ⟨_, _, _, _, rfl, c4, hb, ?_⟩
      unfold ExchangeM
      cases BlockOkM (SeenM b y) && ListOkM l
      · exact hs
      · simp only [cond_true, List.length_map]; exact hs
  · obtain ⟨y, i3, g3, e3, c3, _⟩ := draw_Below (g := g2) (n := 8) c2 (by omega)
    simp only [cond_true, e3, spec_SeenFrom_eq, Option.bind_some]
    exact ⟨_, _, _, _, rfl, c3, hb, seen_len b y⟩

theorem draw_VerdictOn {c : List UInt8} (h : c.length ≤ 1048576) : ∃ e f, spec_DrawVerdictOn c = some (e, f) := by
  obtain ⟨g0, e0, c0⟩ := draw_New h
  obtain ⟨b, d, i1, g1, e1, c1, _⟩ := draw_Pair (g := g0) c0
  obtain ⟨x2, i2, g2, e2, c2, _⟩ := draw_Below (g := g1) (n := 4) c1 (by omega)
  obtain ⟨x3, i3, g3, e3, c3, _⟩ := draw_Below (g := g2) (n := 50) c2 (by omega)
  obtain ⟨x4, i4, g4, e4, c4, _⟩ := draw_Below (g := g3) (n := 4) c3 (by omega)
  obtain ⟨x5, i5, g5, e5, c5, _⟩ := draw_Below (g := g4) (n := 50) c4 (by omega)
  obtain ⟨x6, i6, g6, e6, c6, _⟩ := draw_Below (g := g5) (n := 12) c5 (by omega)
  obtain ⟨x7, i7, g7, e7, c7, _⟩ := draw_PickInt (g := g6) (l := [(-1), 99, 100]) c6 (by simp) (by simp)
  obtain ⟨x8, i8, g8', e8, c8, _⟩ := draw_PickInt (g := g6) (l := [(-1), 9999, 10000]) c6 (by simp) (by simp)
  unfold spec_DrawVerdictOn
  rw [e0]
  simp only [Option.bind_some]
  unfold spec_l30Pair
  rw [e1]
  simp only [Option.bind_some, e2, e3, e4, e5, e6]
  cases x6 == 0
  · cases x6 == 1
    · simp only [cond_false, Option.bind_some]; exact ⟨_, _, rfl⟩
    · simp only [cond_false, cond_true, e8, Option.bind_some]; exact ⟨_, _, rfl⟩
  · simp only [cond_true, e7, Option.bind_some]; exact ⟨_, _, rfl⟩

theorem draw_Entries {c : List UInt8} (h : c.length ≤ 1048576) : ∃ l, spec_DrawEntries c = some l ∧ l.length ≤ 4 ∧ ∀ e ∈ l, EntOkM e = true := by
  obtain ⟨g0, e0, c0⟩ := draw_New h
  obtain ⟨x, i1, g1, e1, c1, x0, x1, _⟩ := draw_Below (g := g0) (n := 5) c0 (by omega)
  have x5 := x1 (by omega)
  obtain ⟨s, ⟨s1, s2, s3⟩, es⟩ := lpO_inv2 (f := spec_l30List_L1 c) (N := x.toNat) (s0 := (([] : List GEntry), i1, g1)) (fun k s => s.1.length = k ∧ CurOk c s.2.1 ∧ ∀ e ∈ s.1, EntOkM e = true) ⟨rfl, c1, by simp⟩ fun k s hk hs => by
    obtain ⟨s1, s2, s3⟩ := hs
    have hcs : ∃ q, lpO (spec_l30List_L2 c) 4 (([] : List GCell), s.2.1, s.2.2) = some q ∧ CurOk c q.2.1 ∧ q.1.length = 4 ∧ ∀ x ∈ q.1, CellOkM x = true := by
      obtain ⟨q, ⟨q1, q2, q3⟩, eq⟩ := lpO_inv2 (f := spec_l30List_L2 c) (N := 4) (s0 := (([] : List GCell), s.2.1, s.2.2)) (fun k s => s.1.length = k ∧ CurOk c s.2.1 ∧ ∀ x ∈ s.1, CellOkM x = true) ⟨rfl, s2, by simp⟩ fun k s hk hs => by
        obtain ⟨s1, s2, s3⟩ := hs
        obtain ⟨y, i3, g3, e3, c3, hy⟩ := draw_Cell (g := s.2.2) s2
        unfold spec_l30List_L2
        rw [e3]
        simp only [Option.bind_some]
        rw [gd_pos (by omega)]
        refine ⟨_, ⟨by simp [s1], c3, fun z hz => ?_⟩, rfl⟩
        rcases List.mem_append.1 hz with hz | hz
        · exact s3 z hz
        · rw [List.mem_singleton.1 hz]; exact hy
      exact ⟨q, eq, q2, q1, q3⟩
    obtain ⟨q, eq, q2, q1, q3⟩ := hcs
    have hqb : BlockOkM ⟨2, q.1⟩ = true := blockOk_of (n := 2) (by omega) (by omega) q1 q3
    have key : ∃ (b : GBlock) (i' g' : Int), (((bif (decide (((k : Nat) : Int) > 0)) then (spec_l01Once c q.2.1 q.2.2 2).bind fun v3 => some (v3.1, (Gl01Cur.mk c v3.2.1 v3.2.2)) else some (false, (Gl01Cur.mk c q.2.1 q.2.2))).bind fun j1 => (bif j1.1 then gd (0 < s.1.length) <| (spec_l01Below c ((j1.2).i) ((j1.2).h) 8).bind fun v4 => (spec_SeenFrom ((gx s.1 0).Block) v4.1).bind fun v5 => (spec_l01Below c v4.2.1 v4.2.2 3).bind fun v6 => (spec_l01Below c v6.2.1 v6.2.2 3).bind fun v7 => (spec_SwapList v6.1 v7.1).bind fun v8 => (spec_ExchangeBlock v5 v8).bind fun v9 => some (v9.1, (Gl01Cur.mk c v7.2.1 v7.2.2)) else some ((GBlock.mk 2 q.1), (Gl01Cur.mk c ((j1.2).i) ((j1.2).h))))) = some (b, Gl01Cur.mk c i' g')) ∧ BlockOkM b = true ∧ CurOk c i' := by
      have hno : ∀ i' g', CurOk c i' → ∃ (b : GBlock) (i'' g'' : Int), (some ((GBlock.mk 2 q.1), (Gl01Cur.mk c i' g')) = some (b, Gl01Cur.mk c i'' g'')) ∧ BlockOkM b = true ∧ CurOk c i'' := fun i' g' hc => ⟨_, _, _, rfl, hqb, hc⟩
      cases hk0 : decide (((k : Nat) : Int) > 0)
      · simp only [cond_false, Option.bind_some]
        exact hno _ _ q2
      · have hkp : 0 < k := by simpa using hk0
        obtain ⟨y, i3, g3, e3, c3, _⟩ := draw_Below (g := q.2.2) (n := 2) q2 (by omega)
        unfold spec_l01Once
        simp only [cond_true, e3, Option.bind_some]
        cases y == 0
        · simp only [cond_false]
          exact hno _ _ c3
        · simp only [cond_true]
          obtain ⟨z, i4, g4, e4, c4, z0, z1, _⟩ := draw_Below (g := g3) (n := 8) c3 (by omega)
          obtain ⟨u, i5, g5, e5, c5, u0, u1, _⟩ := draw_Below (g := g4) (n := 3) c4 (by omega)
          obtain ⟨v, i6, g6, e6, c6, v0, v1, _⟩ := draw_Below (g := g5) (n := 3) c5 (by omega)
          have z2 := z1 (by omega)
          have u2 := u1 (by omega)
          have v2 := v1 (by omega)
          obtain ⟨un, rfl⟩ := Int.eq_ofNat_of_zero_le u0
          obtain ⟨vn, rfl⟩ := Int.eq_ofNat_of_zero_le v0
          have hin : EntOkM (gx s.1 0) = true := s3 _ (gx_mem (by omega))
          have hbo : BlockOkM (gx s.1 0).Block = true := by
            simp only [EntOkM, Bool.and_eq_true] at hin; exact hin.2
          have hv := (seen_ok hbo (inR_iff.2 ⟨z0, (show z ≤ 7 by omega)⟩)).1
          have hsl : (swM un vn).length ≤ 1048576 := by
            have := (listOk_spec (sw_inj (i := un) (k := vn) (by omega) (by omega)).1).1; omega
          rw [gd_pos (by omega), e4]
          simp only [Option.bind_some, spec_SeenFrom_eq, e5, e6]
          rw [spec_SwapList_eq (by omega) (by omega)]
          simp only [Option.bind_some]
          rw [spec_ExchangeBlock_eq (blockOk_sm hv).1 hsl]
          exact ⟨_, _, _, rfl, (exchange_ok hv _).1, c6⟩
    obtain ⟨b, i', g', ek, hb, ck⟩ := key
    obtain ⟨o, i7, g7, e7, c7, o0, o1, _⟩ := draw_Below (g := g') (n := 4) ck (by omega)
    obtain ⟨d, i8, g8', e8, c8, d0, d1, _⟩ := draw_Below (g := g7) (n := 50) c7 (by omega)
    have o2 := o1 (by omega)
    have d2 := d1 (by omega)
    unfold spec_l30List_L1
    rw [eq]
    simp only [Option.bind_some]
    rw [← Option.bind_assoc, ek]
    simp only [Option.bind_some, e7, e8]
    rw [gd_pos (by omega)]
    refine ⟨_, ⟨by simp [s1], c8, fun z hz => ?_⟩, rfl⟩
    rcases List.mem_append.1 hz with hz | hz
    · exact s3 z hz
    · rw [List.mem_singleton.1 hz]
      simp only [EntOkM, Bool.and_eq_true]
      exact ⟨⟨inR_iff.2 ⟨o0, by omega⟩, inR_iff.2 ⟨d0, by omega⟩⟩, hb⟩
  unfold spec_DrawEntries spec_l30List
  rw [e0]
  simp only [Option.bind_some, e1]
  rw [gd_pos (by omega), es]
  exact ⟨_, rfl, by simp only; omega, s3⟩

theorem disp_pairs {l : List GEntry} (hl : l.length ≤ 10) : forO (laws_FnDisputes_L1 l (CopiesM l)) (CopiesM l).length 0 () = some (.inl ()) :=
  forO_st (fun _ => ()) rfl fun k hk => by
    have hm := gx_mem hk
    have hd : decide ((l.length : Int) > 10) = false := by simp; omega
    have hx : ∃ i m : Nat, gx (CopiesM l) k = [(i : Int), (m : Int)] ∧ i < l.length ∧ m < l.length ∧ CopyM (gx l i) (gx l m) = true := by
      have hm2 : gx (CopiesM l) k ∈ (List.range l.length).flatMap fun i => ((List.range l.length).filter fun k => (i != k) && CopyM (gx l i) (gx l k)).map fun k : Nat => [(i : Int), (k : Int)] := by
        have e : CopiesM l = (List.range l.length).flatMap fun i => ((List.range l.length).filter fun k => (i != k) && CopyM (gx l i) (gx l k)).map fun k : Nat => [(i : Int), (k : Int)] := by
          unfold CopiesM; rw [hd]; rfl
        rw [← e]; exact hm
      simp only [List.mem_flatMap, List.mem_map, List.mem_filter, List.mem_range, Bool.and_eq_true] at hm2
      obtain ⟨i, hi, m, ⟨hm, _, hc⟩, e⟩ := hm2
      exact ⟨i, m, e.symm, hi, hm, hc⟩
    obtain ⟨i, m, e, hi, hm, hc⟩ := hx
    unfold laws_FnDisputes_L1
    rw [e]
    have g0 : gx [(i : Int), (m : Int)] 0 = (i : Int) := rfl
    have g1 : gx [(i : Int), (m : Int)] 1 = (m : Int) := rfl
    have l2 : ((([(i : Int), (m : Int)].length : Nat) : Int) != 2) = false := rfl
    rw [l2, g0, g1]
    simp only [cond_false]
    rw [gd_pos (by simp), decide_eq_false (show ¬ (i : Int) < 0 by omega), cond_false, decide_eq_false (show ¬ (i : Int) ≥ ((l.length : Nat) : Int) by omega), cond_false]
    rw [gd_pos (by simp), decide_eq_false (show ¬ (m : Int) < 0 by omega), cond_false, decide_eq_false (show ¬ (m : Int) ≥ ((l.length : Nat) : Int) by omega), cond_false]
    rw [gd_pos ⟨by omega, by omega⟩, gd_pos ⟨by omega, by omega⟩]
    simp only [Int.toNat_natCast, impl_IsCopy_eq, hc, Option.bind_some, Bool.not_true, cond_false]
theorem disp_firsts {l : List GEntry} (hl : l.length ≤ 10) (he : ∀ e ∈ l, EntOkM e = true) : forO (laws_FnDisputes_L2 l) l.length 0 () = some (.inl ()) :=
  forO_st (fun _ => ()) rfl fun k hk => by
    obtain ⟨f1, f2, f3, f4⟩ := first_ok hl hk (he _ (gx_mem hk))
    have hc : CopyM (gx l (FirstM l (gx l k)).toNat) (gx l k) = false := by
      unfold CopyM
      rw [decide_eq_false (show ¬ (gx l (FirstM l (gx l k)).toNat).Day > (gx l k).Day by omega)]
      simp
    unfold laws_FnDisputes_L2
    rw [impl_FirstOf_eq (by omega)]
    simp only [Option.bind_some]
    rw [decide_eq_false (show ¬ FirstM l (gx l k) < 0 by omega), cond_false, decide_eq_false (show ¬ FirstM l (gx l k) ≥ ((l.length : Nat) : Int) by omega), cond_false]
    rw [gd_pos ⟨f1, f2⟩, decide_eq_false (show ¬ (gx l (FirstM l (gx l k)).toNat).Day > (gx l k).Day by omega), cond_false]
    simp only [impl_VerdictOn_eq, f4, impl_IsCopy_eq, hc, Option.bind_some, bne_self_eq_false, cond_false]

theorem p_FnDisputes (code : List UInt8) (_ : Fit.ok code) : laws_FnDisputes code = some true := by
  unfold laws_FnDisputes laws_big
  simp only [Option.bind_some]
  by_cases hc : ((code.length : Nat) : Int) > 1048576
  · rw [decide_eq_true hc]; rfl
  rw [decide_eq_false hc, cond_false]
  have hcl : code.length ≤ 1048576 := by omega
  obtain ⟨e, f, e0⟩ := draw_VerdictOn hcl
  obtain ⟨l, e1, l1, l2⟩ := draw_Entries hcl
  obtain ⟨w, ew, w7, w3⟩ := wit_spec e f
  have hstar : EntOkM ⟨0, 0, starM⟩ = true := by
    simp only [EntOkM, Bool.and_eq_true]
    exact ⟨⟨rfl, rfl⟩, star_ok⟩
  have hcp : CopyM e f = true → (VerdictM e f = 3 ∨ VerdictM e f = 2) ∧ (e.Owner == f.Owner) = false ∧ decide (e.Day ≤ f.Day) = false ∧ CopyM f e = false := fun h => by
    unfold CopyM at h ⊢
    simp only [Bool.and_eq_true, decide_eq_true_eq] at h
    obtain ⟨⟨h1, h2⟩, h3⟩ := h
    refine ⟨?_, ?_, ?_, ?_⟩
    · rcases verdict_cases e f with h | h | h | h <;> omega
    · simpa using h1
    · simp; omega
    · rw [decide_eq_false (show ¬ f.Day > e.Day by omega)]; simp
  have hj1 : ((impl_VerdictOn f e).bind fun v5 => bif (!((VerdictM e f == 3) == (v5 == 3))) then some true else (impl_IsCopy e f).bind fun v6 => bif v6 then (impl_IsCopy f e).bind fun v7 => bif v7 then some true else (impl_IsCopy e f).bind fun v8 => bif v8 then bif (VerdictM e f != 3) then bif (VerdictM e f != 2) then some true else bif (e.Owner == f.Owner) then some true else some (decide (e.Day ≤ f.Day)) else bif (e.Owner == f.Owner) then some true else some (decide (e.Day ≤ f.Day)) else some false else (impl_IsCopy e f).bind fun v9 => bif v9 then bif (VerdictM e f != 3) then bif (VerdictM e f != 2) then some true else bif (e.Owner == f.Owner) then some true else some (decide (e.Day ≤ f.Day)) else bif (e.Owner == f.Owner) then some true else some (decide (e.Day ≤ f.Day)) else some false) = some false := by
    simp only [impl_VerdictOn_eq, impl_IsCopy_eq, Option.bind_some, verdict_symm f e, beq_self_eq_true, Bool.not_true, cond_false]
    cases hce : CopyM e f
    · rfl
    · obtain ⟨h1, h2, h3, h4⟩ := hcp hce
      simp only [cond_true, h4, cond_false, h2, h3]
      rcases h1 with h1 | h1 <;> rw [h1] <;> rfl
  rw [e0]
  simp only [Option.bind_some]
  rw [impl_VerdictOn_eq e f]
  simp only [Option.bind_some]
  rw [ew]
  simp only [Option.bind_some]
  rw [hj1]
  simp only [Option.bind_some, cond_false, spec_EntryOk_eq']
  have hz := verdict_zero e f
  have hj2 : (bif EntOkM e then some (EntOkM f) else some false) = some (EntOkM e && EntOkM f) := by cases EntOkM e <;> rfl
  rw [hj2]
  simp only [Option.bind_some]
  have hj3 : (bif (EntOkM e && EntOkM f) then ((!((VerdictM e f != 0) == (e.Block.Size == f.Block.Size))) || ((!((decide (w ≥ 0)) == (VerdictM e f == 3))) || (decide (w > 7)))) else ((!((VerdictM e f != 0) == false)) || ((!((decide (w ≥ 0)) == (VerdictM e f == 3))) || (decide (w > 7))))) = false := by
    rw [w3, hz, decide_eq_false (show ¬ w > 7 by omega)]
    cases EntOkM e && EntOkM f <;> simp
  rw [hj3]
  simp only [cond_false]
  rw [e1]
  simp only [Option.bind_some]
  rw [impl_CopiesIn_eq l]
  simp only [Option.bind_some]
  have hcs := (copies_sm l).1
  rw [gd_pos (by omega), disp_pairs (by omega)]
  simp only [sq_inl]
  rw [gd_pos (by omega), disp_firsts (by omega) l2]
  simp only [sq_inl, impl_EntryOk_eq', Option.bind_some, beq_self_eq_true, cond_true, spec_StarBlock_eq, hstar]
end Go.Proofs.YtgbcpjffnkiabaaGreatDoor
