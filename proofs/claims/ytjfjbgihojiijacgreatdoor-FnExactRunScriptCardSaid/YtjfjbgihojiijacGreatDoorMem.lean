/-
  Slices in memory: readable (RdS), owned (OwS); what a Go value of a type means (Rep); assertions on owned data.
-/
import Derived.Test.YtjfjbgihojiijacGreatDoorCore
namespace Go.Proofs.YtjfjbgihojiijacGreatDoor
open Go Go.RowKit

def Zjk (w : World) (b off : Nat) (us : List Value) : Prop := ∀ j u, us[j]? = some u → w.cell? ⟨b, off + j, none⟩ = some u

theorem Zjk.keep {w w' : World} {b off : Nat} {us : List Value} (h : Zjk w b off us) (hk : w'.heap[b]? = w.heap[b]?) : Zjk w' b off us :=
  fun j u hj => (World.cell?_of_block (w := w) (a := ⟨b, off + j, none⟩) hk).trans (h j u hj)

/-- The slice value v, of elements of sz cells, reads as the cells us; its memory lies below block B. -/
def RdS (w : World) (B : Nat → Prop) (sz : Nat) (v : Value) (us : List Value) : Prop :=
  ∃ a len cap, v = .slice a len cap ∧ us.length = len * sz ∧ len ≤ cap ∧ cap ≤ maxLen ∧
    (0 < len → ∃ b off, a = some ⟨b, off, none⟩ ∧ B b ∧ Zjk w b off us)

theorem RdS.keep {w w' : World} {B B' : Nat → Prop} {sz : Nat} {v : Value} {us : List Value} (h : RdS w B sz v us) (hk : ∀ k, B k → w'.heap[k]? = w.heap[k]?) (hB : ∀ k, B k → B' k) : RdS w' B' sz v us := by
  obtain ⟨a, len, cap, h1, h2, h3, h4, h5⟩ := h
  refine ⟨a, len, cap, h1, h2, h3, h4, fun hl => ?_⟩
  obtain ⟨b, off, e, hb, hr⟩ := h5 hl
  exact ⟨b, off, e, hB b hb, hr.keep (hk b hb)⟩

/-- The slice value v owns the block that it lies in (f), and reads as the cells us. -/
def OwS (w : World) (f : List Nat) (sz : Nat) (v : Value) (us : List Value) : Prop :=
  (v = .slice none 0 0 ∧ us = [] ∧ f = []) ∨
  ∃ b off len cap cs T, v = .slice (some ⟨b, off, none⟩) len cap ∧ f = [b] ∧ w.heap[b]? = some (.cells cs T (0, 0)) ∧ us.length = len * sz ∧
    len ≤ cap ∧ cap ≤ maxLen ∧ off + cap * sz ≤ cs.size ∧ ∀ j u, us[j]? = some u → cs[off + j]? = some u

theorem OwS.keep {w w' : World} {f : List Nat} {sz : Nat} {v : Value} {us : List Value} (h : OwS w f sz v us) (hk : ∀ b ∈ f, w'.heap[b]? = w.heap[b]?) : OwS w' f sz v us := by
  rcases h with h | ⟨b, off, len, cap, cs, T, h1, h2, h3, h4⟩
  · exact .inl h
  · exact .inr ⟨b, off, len, cap, cs, T, h1, h2, (hk b (by simp [h2])).trans h3, h4⟩

theorem OwS.rd {w : World} {f : List Nat} {B : Nat → Prop} {sz : Nat} {v : Value} {us : List Value} (h : OwS w f sz v us) (hB : ∀ b ∈ f, B b) : RdS w B sz v us := by
  rcases h with ⟨h1, h2, _⟩ | ⟨b, off, len, cap, cs, T, h1, h2, h3, h4, h5, h6, h7, h8⟩
  · exact ⟨none, 0, 0, h1, by simp [h2], Nat.le_refl _, Nat.zero_le _, fun h => absurd h (by omega)⟩
  · refine ⟨_, len, cap, h1, h4, h5, h6, fun _ => ⟨b, off, rfl, hB b (by simp [h2]), fun j u hj => ?_⟩⟩
    rw [cell_of_row w b (off + j) cs T (0, 0) h3]
    exact h8 j u hj

/-- A slice's three words. -/
structure Hd where
  a : Option Addr
  l : Nat
  c : Nat
def sl (h : Hd) : Value := .slice h.a h.l h.c
theorem RdS.hd {w : World} {B : Nat → Prop} {sz : Nat} {v : Value} {us : List Value} (h : RdS w B sz v us) : ∃ x, v = sl x := by
  obtain ⟨a, l, c, h, _⟩ := h; exact ⟨⟨a, l, c⟩, h⟩
theorem OwS.hd {w : World} {f : List Nat} {sz : Nat} {v : Value} {us : List Value} (h : OwS w f sz v us) : ∃ x, v = sl x := by
  rcases h with ⟨h, _⟩ | ⟨b, off, l, c, _, _, h, _⟩
  · exact ⟨⟨none, 0, 0⟩, h⟩
  · exact ⟨⟨_, l, c⟩, h⟩

/-! ### What a Go value of a type means -/
class Rep (α : Type) where
  sz : Nat
  pos : 0 < sz
  dflt : α
  rd : World → (Nat → Prop) → List Value → α → Prop
  ow : World → List Nat → List Value → α → Prop
  rd_len : ∀ {w B us x}, rd w B us x → us.length = sz
  ow_len : ∀ {w f us x}, ow w f us x → us.length = sz
  rd_keep : ∀ {w w' : World} {B B' us x}, rd w B us x → (∀ k, B k → w'.heap[k]? = w.heap[k]?) → (∀ k, B k → B' k) → rd w' B' us x
  ow_keep : ∀ {w w' : World} {f us x}, ow w f us x → (∀ b ∈ f, w'.heap[b]? = w.heap[b]?) → ow w' f us x
  ow_rd : ∀ {w f B us x}, ow w f us x → (∀ b ∈ f, B b) → rd w B us x

/-- A type whose values lie in their own cells alone. -/
class Flat (α : Type) where
  sz : Nat
  pos : 0 < sz
  dflt : α
  enc : α → List Value
  len : ∀ x, (enc x).length = sz
  one : ∀ x, ∀ v ∈ enc x, v.oneCell' = true

instance (α : Type) [Flat α] : Rep α where
  sz := Flat.sz α
  pos := Flat.pos
  dflt := Flat.dflt
  rd := fun _ _ us x => us = Flat.enc x
  ow := fun _ f us x => us = Flat.enc x ∧ f = []
  rd_len := fun h => by rw [h, Flat.len]
  ow_len := fun h => by rw [h.1, Flat.len]
  rd_keep := fun h _ _ => h
  ow_keep := fun h _ => h
  ow_rd := fun h _ => h.1

def Za4 (us : List Value) (k sz : Nat) : List Value := (us.drop (k * sz)).take sz

def RdL {α : Type} [Rep α] (w : World) (B : Nat → Prop) (v : Value) (us : List Value) (xs : List α) : Prop :=
  RdS w B (Rep.sz α) v us ∧ us.length = xs.length * Rep.sz α ∧ ∀ k x, xs[k]? = some x → Rep.rd w B (Za4 us k (Rep.sz α)) x
def OwL {α : Type} [Rep α] (w : World) (f : List Nat) (v : Value) (us : List Value) (xs : List α) : Prop :=
  ∃ (f0 : List Nat) (fs : List (List Nat)), OwS w f0 (Rep.sz α) v us ∧ us.length = xs.length * Rep.sz α ∧ f = f0 ++ fs.flatten ∧ fs.length = xs.length ∧
    ∀ k x, xs[k]? = some x → ∃ g, fs[k]? = some g ∧ Rep.ow w g (Za4 us k (Rep.sz α)) x

theorem RdL.keep {α : Type} [Rep α] {w w' : World} {B B' : Nat → Prop} {v : Value} {us : List Value} {xs : List α} (h : RdL w B v us xs) (hk : ∀ k, B k → w'.heap[k]? = w.heap[k]?) (hB : ∀ k, B k → B' k) : RdL w' B' v us xs :=
  ⟨h.1.keep hk hB, h.2.1, fun k x hx => Rep.rd_keep (h.2.2 k x hx) hk hB⟩
theorem OwL.keep {α : Type} [Rep α] {w w' : World} {f : List Nat} {v : Value} {us : List Value} {xs : List α} (h : OwL w f v us xs) (hk : ∀ b ∈ f, w'.heap[b]? = w.heap[b]?) : OwL w' f v us xs := by
  obtain ⟨f0, fs, h1, h2, rfl, h4, h5⟩ := h
  refine ⟨f0, fs, h1.keep (fun b hb => hk b (List.mem_append_left _ hb)), h2, rfl, h4, fun k x hx => ?_⟩
  obtain ⟨g, hg, ho⟩ := h5 k x hx
  exact ⟨g, hg, Rep.ow_keep ho (fun b hb => hk b (List.mem_append_right _ (List.mem_flatten.2 ⟨g, List.mem_of_getElem? hg, hb⟩)))⟩
theorem OwL.rd {α : Type} [Rep α] {w : World} {f : List Nat} {B : Nat → Prop} {v : Value} {us : List Value} {xs : List α} (h : OwL w f v us xs) (hB : ∀ b ∈ f, B b) : RdL w B v us xs := by
  obtain ⟨f0, fs, h1, h2, rfl, h4, h5⟩ := h
  refine ⟨h1.rd (fun b hb => hB b (List.mem_append_left _ hb)), h2, fun k x hx => ?_⟩
  obtain ⟨g, hg, ho⟩ := h5 k x hx
  exact Rep.ow_rd ho (fun b hb => hB b (List.mem_append_right _ (List.mem_flatten.2 ⟨g, List.mem_of_getElem? hg, hb⟩)))

instance (α : Type) [Rep α] : Rep (List α) where
  sz := 1
  pos := Nat.one_pos
  dflt := []
  rd := fun w B us xs => ∃ v vs, us = [v] ∧ RdL w B v vs xs
  ow := fun w f us xs => ∃ v vs, us = [v] ∧ OwL w f v vs xs
  rd_len := fun ⟨_, _, h, _⟩ => by simp [h]
  ow_len := fun ⟨_, _, h, _⟩ => by simp [h]
  rd_keep := fun ⟨v, vs, h, h1⟩ hk hB => ⟨v, vs, h, h1.keep hk hB⟩
  ow_keep := fun ⟨v, vs, h, h1⟩ hk => ⟨v, vs, h, h1.keep hk⟩
  ow_rd := fun ⟨v, vs, h, h1⟩ hB => ⟨v, vs, h, h1.rd hB⟩

instance (α β : Type) [Rep α] [Rep β] : Rep (α × β) where
  sz := Rep.sz α + Rep.sz β
  pos := Nat.add_pos_left Rep.pos _
  dflt := (Rep.dflt, Rep.dflt)
  rd := fun w B us x => ∃ u1 u2, us = u1 ++ u2 ∧ Rep.rd w B u1 x.1 ∧ Rep.rd w B u2 x.2
  ow := fun w f us x => ∃ u1 u2 f1 f2, us = u1 ++ u2 ∧ f = f1 ++ f2 ∧ Rep.ow w f1 u1 x.1 ∧ Rep.ow w f2 u2 x.2
  rd_len := fun ⟨_, _, h, h1, h2⟩ => by rw [h, List.length_append, Rep.rd_len h1, Rep.rd_len h2]
  ow_len := fun ⟨_, _, _, _, h, _, h1, h2⟩ => by rw [h, List.length_append, Rep.ow_len h1, Rep.ow_len h2]
  rd_keep := fun ⟨u1, u2, h, h1, h2⟩ hk hB => ⟨u1, u2, h, Rep.rd_keep h1 hk hB, Rep.rd_keep h2 hk hB⟩
  ow_keep := fun ⟨u1, u2, f1, f2, h, e, h1, h2⟩ hk => ⟨u1, u2, f1, f2, h, e, Rep.ow_keep h1 (fun b hb => hk b (by rw [e]; exact List.mem_append_left _ hb)), Rep.ow_keep h2 (fun b hb => hk b (by rw [e]; exact List.mem_append_right _ hb))⟩
  ow_rd := fun ⟨u1, u2, f1, f2, h, e, h1, h2⟩ hB => ⟨u1, u2, h, Rep.ow_rd h1 (fun b hb => hB b (by rw [e]; exact List.mem_append_left _ hb)), Rep.ow_rd h2 (fun b hb => hB b (by rw [e]; exact List.mem_append_right _ hb))⟩

/-- A structure means what a pair of its parts means. -/
@[reducible] def Rep.via {α β : Type} [Rep β] (g : α → β) (d : α) : Rep α where
  sz := Rep.sz β
  pos := Rep.pos
  dflt := d
  rd := fun w B us x => Rep.rd w B us (g x)
  ow := fun w f us x => Rep.ow w f us (g x)
  rd_len := fun h => Rep.rd_len h
  ow_len := fun h => Rep.ow_len h
  rd_keep := fun h hk hB => Rep.rd_keep h hk hB
  ow_keep := fun h hk => Rep.ow_keep h hk
  ow_rd := fun h hB => Rep.ow_rd h hB

instance : Flat Int := ⟨1, Nat.one_pos, 0, fun n => [.int .i64 n], fun _ => rfl, fun _ _ h => by simp at h; subst h; rfl⟩
instance : Flat Bool := ⟨1, Nat.one_pos, false, fun b => [.bool b], fun _ => rfl, fun _ _ h => by simp at h; subst h; rfl⟩
instance : Flat UInt8 := ⟨1, Nat.one_pos, 0, fun b => [.int .u8 (b.toNat : Int)], fun _ => rfl, fun _ _ h => by simp at h; subst h; rfl⟩
/-- A Go string. -/
structure Str where
  b : List UInt8
def bs (s : Str) : Value := .string ⟨s.b.toArray⟩
instance : Flat Str := ⟨1, Nat.one_pos, ⟨[]⟩, fun s => [bs s], fun _ => rfl, fun _ _ h => by simp at h; subst h; rfl⟩

def gx {α : Type} [Rep α] (xs : List α) (k : Nat) : α := xs.getD k Rep.dflt
theorem ZkP {α : Type} [Rep α] {xs : List α} {k : Nat} (h : k < xs.length) : xs[k]? = some (gx xs k) := by
  simp [gx, List.getD, List.getElem?_eq_getElem h]

def encs {α : Type} [Flat α] (xs : List α) : List Value := xs.flatMap Flat.enc
theorem ZbW {α : Type} [Flat α] (xs : List α) : (encs xs).length = xs.length * Flat.sz α := by
  induction xs with
  | nil => simp [encs]
  | cons x r ih =>
    simp only [encs, List.flatMap_cons, List.length_append, Flat.len, List.length_cons] at ih ⊢
    rw [ih, Nat.add_mul]; omega
theorem Zrq {α : Type} [Flat α] (xs : List α) : ∀ v ∈ encs xs, v.oneCell' = true := fun v h => by
  obtain ⟨x, _, hv⟩ := List.mem_flatMap.1 h
  exact Flat.one x v hv
theorem Zsc {α : Type} [Flat α] (xs ys : List α) : encs (xs ++ ys) = encs xs ++ encs ys := by simp [encs]
theorem Zjq {α : Type} [Flat α] : ∀ (xs : List α) (k : Nat) (x : α), xs[k]? = some x → Za4 (encs xs) k (Flat.sz α) = Flat.enc x
  | [], k, x, h => by simp at h
  | y :: ys, 0, x, h => by
    simp at h; subst h
    simp only [Za4, encs, List.flatMap_cons, Nat.zero_mul, List.drop_zero]
    rw [List.take_append_of_le_length (by rw [Flat.len]; exact Nat.le_refl _), ← Flat.len (α := α) y, List.take_length]
  | y :: ys, k + 1, x, h => by
    have ih := Zjq ys k x (by simpa using h)
    rw [← ih]
    simp only [Za4, encs, List.flatMap_cons]
    have e : (k + 1) * Flat.sz α = (Flat.enc y).length + k * Flat.sz α := by rw [Flat.len, Nat.add_mul]; omega
    rw [e, ← List.drop_drop, List.drop_left]
/-- Cells that read as xs: of a flat type there is one way. -/
theorem Zsx {α : Type} [Flat α] {us : List Value} {xs : List α} (hl : us.length = xs.length * Flat.sz α) (h : ∀ k x, xs[k]? = some x → Za4 us k (Flat.sz α) = Flat.enc x) : us = encs xs := by
  induction xs generalizing us with
  | nil => simp at hl; simp [hl, encs]
  | cons x r ih =>
    have h0 := h 0 x rfl
    simp only [Za4, Nat.zero_mul, List.drop_zero] at h0
    have hs : us = us.take (Flat.sz α) ++ us.drop (Flat.sz α) := (List.take_append_drop _ _).symm
    have ih' := ih (us := us.drop (Flat.sz α)) (by rw [List.length_drop, hl, List.length_cons, Nat.add_mul]; omega) (fun k y hy => by
      have := h (k + 1) y (by simpa using hy)
      simp only [Za4, List.drop_drop] at this ⊢
      rw [show Flat.sz α + k * Flat.sz α = (k + 1) * Flat.sz α by rw [Nat.add_mul]; omega]
      exact this)
    rw [hs, h0, ih']; simp [encs]

/-! ### Assertions -/
/-- Block b is a variable of the call's own with these cells. -/
def box (b : Nat) (cs : List Value) : Asn where
  P := fun w f => f = [b] ∧ ∃ T, w.heap[b]? = some (.cells cs.toArray T (0, 0))
  loc := fun _ _ _ ⟨h, T, h1⟩ hk => ⟨h, T, (hk b (by simp [h])).trans h1⟩
/-- v is a slice of the call's own with the cells us, which read as xs. -/
def own {α : Type} [Rep α] (v : Value) (us : List Value) (xs : List α) : Asn where
  P := fun w f => OwL w f v us xs
  loc := fun _ _ _ h hk => h.keep hk
def ownF {α : Type} [Flat α] (v : Value) (xs : List α) : Asn := own v (encs xs) xs
/-- The blocks that lie in w, but for fp. -/
def dm (w : World) (fp : List Nat) : Nat → Prop := fun b => b < w.heap.size ∧ b ∉ fp
def rdF {α : Type} [Flat α] (w : World) (B : Nat → Prop) (v : Value) (xs : List α) : Prop := RdL w B v (encs xs) xs
/-- Cells that own what they lead to. -/
def owc {α : Type} [Rep α] (us : List Value) (x : α) : Asn where
  P := fun w f => Rep.ow w f us x
  loc := fun _ _ _ h hk => Rep.ow_keep h hk

theorem RdL.flat {α : Type} [Flat α] {w : World} {B : Nat → Prop} {v : Value} {us : List Value} {xs : List α} (h : RdL w B v us xs) : rdF w B v xs := by
  have : us = encs xs := Zsx h.2.1 h.2.2
  rw [this] at h; exact h
theorem OwL.flat {α : Type} [Flat α] {w : World} {f : List Nat} {v : Value} {xs : List α} : OwL w f v (encs xs) xs ↔ OwS w f (Flat.sz α) v (encs xs) := by
  constructor
  · rintro ⟨f0, fs, h1, h2, rfl, h4, h5⟩
    have : fs.flatten = [] := by
      rw [List.flatten_eq_nil_iff]
      intro g hg
      obtain ⟨k, hk⟩ := List.mem_iff_getElem?.1 hg
      have hlt : k < xs.length := by rw [← h4]; exact (List.getElem?_eq_some_iff.1 hk).1
      obtain ⟨g', hg', ho⟩ := h5 k xs[k] (List.getElem?_eq_getElem hlt)
      rw [hk] at hg'; injection hg' with e
      rw [e]; exact ho.2
    rw [this, List.append_nil]; exact h1
  · intro h
    refine ⟨f, List.replicate xs.length [], h, ZbW xs, by simp, by simp, fun k x hx => ⟨[], ?_, Zjq xs k x hx, rfl⟩⟩
    have hlt : k < xs.length := (List.getElem?_eq_some_iff.1 hx).1
    simp [hlt]

theorem Zsp {w0 w : World} {ex : List Nat} (h : Keep ex w0 w) : ∀ k, dm w0 ex k → w.heap[k]? = w0.heap[k]? := fun k hk => h.block k hk.1 hk.2
theorem Zxu {w0 w : World} {ex : List Nat} (h : Keep ex w0 w) : ∀ k, dm w0 ex k → dm w [] k := fun _ hk => ⟨Nat.lt_of_lt_of_le hk.1 h.size, by simp⟩
theorem SH.rd_arg {α : Type} [Rep α] {w0 w : World} {ex : List Nat} {L : List Asn} (h : SH w0 ex L w) {v : Value} {us : List Value} {xs : List α} (hr : RdL w0 (dm w0 ex) v us xs) : RdL w (dm w []) v us xs :=
  hr.keep (Zsp h.keep) (Zxu h.keep)
theorem SH.ow_own {α : Type} [Rep α] {w0 w : World} {ex : List Nat} {L L' : List Asn} (h : SH w0 ex L w) {v : Value} {us : List Value} {xs : List α} (hp : Pick (own v us xs) L L') :
    ∃ f, OwL w f v us xs ∧ ∀ b ∈ f, b < w.heap.size := by
  obtain ⟨_, fp, ⟨f1, f2, rfl, h1, _⟩, _, h3⟩ := h.pick hp
  exact ⟨f1, h1, fun b hb => (h3 b (List.mem_append_left _ hb)).2⟩
theorem SH.rd_own {α : Type} [Rep α] {w0 w : World} {ex : List Nat} {L L' : List Asn} (h : SH w0 ex L w) {v : Value} {us : List Value} {xs : List α} (hp : Pick (own v us xs) L L') : RdL w (dm w []) v us xs := by
  obtain ⟨f, h1, h2⟩ := h.ow_own hp
  exact h1.rd fun b hb => ⟨h2 b hb, by simp⟩
/-- What a call is made in that is handed L0 (with the blocks fp) for its own. -/
structure SHo (w0 : World) (ex : List Nat) (L0 L : List Asn) (w : World) (fp : List Nat) : Prop where
  keep : Keep ex w0 w
  rest : ∃ f2, sat w L0 fp ∧ sat w L f2 ∧ (fp ++ f2).Nodup ∧ ∀ b ∈ fp ++ f2, (w0.heap.size ≤ b ∨ b ∈ ex) ∧ b < w.heap.size
theorem SHo.rd_arg {α : Type} [Rep α] {w0 w : World} {ex fp : List Nat} {L0 L : List Asn} (h : SHo w0 ex L0 L w fp) {v : Value} {us : List Value} {xs : List α} (hr : RdL w0 (dm w0 ex) v us xs) : RdL w (dm w fp) v us xs := by
  obtain ⟨k, f2, _, _, _, hb⟩ := h
  refine hr.keep (Zsp k) fun q hq => ⟨Nat.lt_of_lt_of_le hq.1 k.size, fun hm => ?_⟩
  rcases (hb q (List.mem_append_left _ hm)).1 with e | e
  · have := hq.1; omega
  · exact hq.2 e
theorem SHo.rd_own {α : Type} [Rep α] {w0 w : World} {ex fp : List Nat} {L0 L L' : List Asn} (h : SHo w0 ex L0 L w fp) {v : Value} {us : List Value} {xs : List α} (hp : Pick (own v us xs) L L') : RdL w (dm w fp) v us xs := by
  obtain ⟨k, f2, _, h2, hn, hb⟩ := h
  obtain ⟨f', ⟨g1, g2, rfl, h1, _⟩, hperm⟩ := hp w f2 h2
  have hd := (List.nodup_append.1 hn).2.2
  refine h1.rd fun b hbm => ?_
  have hm : b ∈ f2 := hperm.mem_iff.1 (List.mem_append_left _ hbm)
  exact ⟨(hb b (List.mem_append_right _ hm)).2, fun e => hd b e b hm rfl⟩
theorem SH.at_box {w0 w : World} {ex : List Nat} {L L' : List Asn} (h : SH w0 ex L w) {b : Nat} {cs : List Value} (hp : Pick (box b cs) L L') : ∃ T, w.heap[b]? = some (.cells cs.toArray T (0, 0)) := by
  obtain ⟨_, fp, ⟨f1, f2, rfl, ⟨_, h1⟩, _⟩, _, _⟩ := h.pick hp
  exact h1
/-- What every value of a type that a reading shows fulfils: integers fit their kind, lengths are bounded. -/
class Fit (α : Type) where
  ok : α → Prop
def i64 (n : Int) : Prop := -9223372036854775808 ≤ n ∧ n ≤ 9223372036854775807
instance : Fit Int := ⟨i64⟩
instance : Fit Bool := ⟨fun _ => True⟩
instance : Fit UInt8 := ⟨fun _ => True⟩
instance : Fit Str := ⟨fun s => s.b.length ≤ maxLen⟩
instance (α : Type) [Fit α] : Fit (List α) := ⟨fun xs => xs.length ≤ maxLen ∧ ∀ x ∈ xs, Fit.ok x⟩
instance (α β : Type) [Fit α] [Fit β] : Fit (α × β) := ⟨fun x => Fit.ok x.1 ∧ Fit.ok x.2⟩

end Go.Proofs.YtjfjbgihojiijacGreatDoor
