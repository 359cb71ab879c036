/-
  Operations on data that reads as a list; results.
-/
import Derived.Test.YtjfjbgihojiijacGreatDoorEff3
namespace Go.Proofs.YtjfjbgihojiijacGreatDoor
open Go Go.RowKit

theorem RdS.len {w : World} {B : Nat → Prop} {sz : Nat} {v : Value} {us : List Value} (h : RdS w B sz v us) {n : Nat} (hn : us.length = n * sz) (hz : 0 < sz) : n ≤ 9223372036854775807 := by
  obtain ⟨a, len, cap, rfl, h2, h3, h4, _⟩ := h
  have e : len = n := Nat.eq_of_mul_eq_mul_right hz (h2.symm.trans hn)
  unfold maxLen at h4; omega
theorem RdL.len {α : Type} [Rep α] {w : World} {B : Nat → Prop} {v : Value} {us : List Value} {xs : List α} (h : RdL w B v us xs) : xs.length ≤ 9223372036854775807 := h.1.len h.2.1 Rep.pos
theorem Zwf {α : Type} [Rep α] {w : World} {B : Nat → Prop} : RdL w B (.slice none 0 0) [] ([] : List α) :=
  ⟨⟨none, 0, 0, rfl, by simp, Nat.le_refl _, Nat.zero_le _, fun h => absurd h (by omega)⟩, by simp, fun k x hx => by simp at hx⟩

section
variable {c : Cx} {E : Env} {L L' : List Asn}
theorem Zi {α : Type} [Rep α] {v : Value} {us : List Value} {xs : List α} (h : ∀ w, SH c.w0 c.ex L w → RdL w (dm w []) v us xs) : SlIn c L (Rep.sz α) v us := fun w hw => (h w hw).1

theorem ZvU {α : Type} [Flat α] {w : World} {B : Nat → Prop} {v : Value} {xs : List α} (h : RdS w B (Flat.sz α) v (encs xs)) : RdL w B v (encs xs) xs := ⟨h, ZbW xs, fun k x hx => Zjq xs k x hx⟩

/-- v reads as xs in every such state. -/
def Rg {α : Type} [Rep α] (W : World → List Nat → Prop) (v : Value) (us : List Value) (xs : List α) : Prop := ∀ w fp, W w fp → RdL w (dm w fp) v us xs
def WS (c : Cx) (L : List Asn) (w : World) (fp : List Nat) : Prop := SH c.w0 c.ex L w ∧ fp = []
abbrev Rds {α : Type} [Rep α] (c : Cx) (L : List Asn) (v : Value) (us : List Value) (xs : List α) : Prop := Rg (WS c L) v us xs
/-- .. and lies apart from L0. -/
abbrev Rdo {α : Type} [Rep α] (c : Cx) (L0 L : List Asn) (v : Value) (us : List Value) (xs : List α) : Prop := Rg (SHo c.w0 c.ex L0 L) v us xs
theorem Rg.on {α : Type} [Rep α] {v : Value} {us : List Value} {xs : List α} (h : Rds c L v us xs) {w : World} (hw : SH c.w0 c.ex L w) : RdL w (dm w []) v us xs := h w [] ⟨hw, rfl⟩
theorem rga {α : Type} [Rep α] {P : Program} {n : Nat} {w0 : World} {ex : List Nat} {v : Value} {us : List Value} {xs : List α} (h : RdL w0 (dm w0 ex) v us xs) : Rds ⟨P, n, w0, ex⟩ L v us xs := fun _ _ hw => by rw [hw.2]; exact hw.1.rd_arg h
theorem Zaj {α : Type} [Rep α] {P : Program} {n : Nat} {w0 : World} {ex : List Nat} {L0 : List Asn} {v : Value} {us : List Value} {xs : List α} (h : RdL w0 (dm w0 ex) v us xs) : Rdo ⟨P, n, w0, ex⟩ L0 L v us xs := fun _ _ hw => hw.rd_arg h
theorem rgo {α : Type} [Rep α] {v : Value} {us : List Value} {xs : List α} (hp : Pick (own v us xs) L L') : Rds c L v us xs := fun _ _ hw => by rw [hw.2]; exact hw.1.rd_own hp
theorem ZjA {α : Type} [Rep α] {W : World → List Nat → Prop} : Rg W (.slice none 0 0) [] ([] : List α) := fun _ _ _ => Zwf
theorem Zg7 {α : Type} [Flat α] {W : World → List Nat → Prop} {v : Value} {xs : List α} {l h : Nat} (hr : Rg W v (encs xs) xs) (h1 : l ≤ h) (h2 : h ≤ xs.length) : Rg W (slv v l h (Flat.sz α)) (encs ((xs.drop l).take (h - l))) ((xs.drop l).take (h - l)) := fun w fp hw => by
  refine ZvU ?_
  rw [← Zn1]
  exact RdS.cut (hr w fp hw).1 (ZbW xs) Flat.pos h1 h2

theorem pln {α : Type} [Rep α] {t : TypeId} {x : Operand} {v : Value} {us : List Value} {xs : List α} (h : Rds c L v us xs) (ht : elo c.P t = some (Rep.sz α)) (hx : ev E x = some v) :
    Zz c E L (.call { callee := .builtin .len, args := #[x], argTypes := #[t] }) (.int .i64 ((xs.length : Nat) : Int)) := fun a w o hf hw ho =>
  Zwg (sz := Rep.sz α) ht (Zi fun _ g => h.on g) (h.on hw).2.1 Rep.pos hx a w o hf hw ho
theorem ZX {α : Type} [Rep α] {t : TypeId} {x ix : Operand} {v : Value} {us : List Value} {xs : List α} {i : Int} (h : Rds c L v us xs) (ht : elo c.P t = some (Rep.sz α)) (hx : ev E x = some v) (hi : ev E ix = some (.int .i64 i)) (h0 : 0 ≤ i) (h1 : i < xs.length) :
    Zz c E L (.indexAddr t x ix) (sptr v i.toNat 0 (Rep.sz α)) := fun a w o hf hw ho =>
  ZuH (sz := Rep.sz α) ht (Zi fun _ g => h.on g) (h.on hw).2.1 Rep.pos hx hi h0 h1 a w o hf hw ho
theorem Zm {α : Type} [Rep α] {t : TypeId} {x ix : Operand} {v : Value} {us : List Value} {xs : List α} {k : Nat} (h : Rds c L v us xs) (ht : elo c.P t = some (Rep.sz α)) (hx : ev E x = some v) (hi : ev E ix = some (.int .i64 ((k : Nat) : Int))) (h1 : k < xs.length) :
    Zz c E L (.indexAddr t x ix) (sptr v k 0 (Rep.sz α)) := fun a w o hf hw ho => by
  have := ZX h ht hx hi (by omega) (by omega) a w o hf hw ho
  simpa using this
theorem Zw {α : Type} [Flat α] {t : TypeId} {x : Operand} {k o n : Nat} {v u : Value} {xs : List α} (h : Rds c L v (encs xs) xs) (ht : tyk c.P t = some (false, n)) (hx : ev E x = some (sptr v k o (Flat.sz α))) (hk : k < xs.length) (hu : (Flat.enc (gx xs k))[o]? = some u) : Zz c E L (.load t x) u :=
  ZoF ht (Zi fun _ g => h.on g) hx (Zpo hk) hu
theorem Zaw {α : Type} [Flat α] {t : TypeId} {x : Operand} {k o n : Nat} {v : Value} {vs : List Value} {xs : List α} (h : Rds c L v (encs xs) xs) (ht : tyk c.P t = some (true, n)) (hx : ev E x = some (sptr v k o (Flat.sz α))) (hk : k < xs.length) (hv : ((Flat.enc (gx xs k)).drop o).take n = vs) (hl : Nat.beq vs.length n = true) (hn : Nat.blt 0 n = true) : Zz c E L (.load t x) (.agg vs.toArray) :=
  Znu ht (Zi fun _ g => h.on g) hx (Zpo hk) hv hl hn
theorem ZjC {α : Type} [Rep α] {t : TypeId} {x : Operand} {k o n : Nat} {v u : Value} {us cs : List Value} {xs : List α} (h : Rds c L v us xs) (ht : tyk c.P t = some (false, n)) (hx : ev E x = some (sptr v k o (Rep.sz α))) (hc : Za4 us k (Rep.sz α) = cs) (hu : cs[o]? = some u) : Zz c E L (.load t x) u :=
  ZoF ht (Zi fun _ g => h.on g) hx hc hu
theorem Zb7 {α : Type} [Rep α] {t : TypeId} {x : Operand} {k o n : Nat} {v : Value} {us cs vs : List Value} {xs : List α} (h : Rds c L v us xs) (ht : tyk c.P t = some (true, n)) (hx : ev E x = some (sptr v k o (Rep.sz α))) (hc : Za4 us k (Rep.sz α) = cs) (hv : (cs.drop o).take n = vs) (hl : Nat.beq vs.length n = true) (hn : Nat.blt 0 n = true) : Zz c E L (.load t x) (.agg vs.toArray) :=
  Znu ht (Zi fun _ g => h.on g) hx hc hv hl hn

theorem ZiB {α : Type} [Rep α] {t : TypeId} {x : Operand} {lo hi : Option Operand} {l h : Nat} {v : Value} {us : List Value} {xs : List α} (hr : Rds c L v us xs) (ht : elo c.P t = some (Rep.sz α)) (hx : ev E x = some v)
    (hlo : (lo = none ∧ l = 0) ∨ ∃ q, lo = some q ∧ ev E q = some (.int .i64 (l : Int))) (hhi : (hi = none ∧ h = xs.length) ∨ ∃ q, hi = some q ∧ ev E q = some (.int .i64 (h : Int))) (h1 : l ≤ h) (h2 : h ≤ xs.length) : Zz c E L (.slice t x lo hi none) (slv v l h (Rep.sz α)) := fun a w o hf hw ho =>
  Zwl ht (Zi fun _ g => hr.on g) (hr.on hw).2.1 Rep.pos hx hlo hhi h1 h2 a w o hf hw ho

theorem Zj {t u : TypeId} {x y : Operand} {k : Nat} (hx : ev E x = some (.int .i64 ((k : Nat) : Int))) (hy : ev E y = some (.int .i64 1)) (hk : k + 1 ≤ 9223372036854775807) : Zz c E L (.binOp .add t x y u) (.int .i64 ((k + 1 : Nat) : Int)) := by
  have h := Zaf (c := c) (L := L) (t := t) (u := u) hx hy
  rw [ZsK (by omega) (by omega)] at h
  simpa using h
/-! calls, by the number of owned results -/
theorem Zuk {f : Nat} {fn : Func} {cd : Code} {xs : List Operand} {ts : Array TypeId} {vs : List Value} {v : Value} (hf : c.P.funcs[f]? = some fn) (hb : fn.body = some cd) (hn : (fn.name == "runtime.NumGoroutine") = false) (hx : evs E xs = some vs)
    (h : ∀ w, SH c.w0 c.ex L w → Calls c.P f vs.toArray w fun e w' => e = .returned v ∧ SH w [] [] w') :
    ZcG c E L (.call { callee := .value (.func f), args := xs.toArray, argTypes := ts }) (fun _ : Unit => v) (fun _ => L) :=
  ZpW (X := Unit) (v := fun _ => v) (L1 := fun _ => []) hf hb hn hx fun w hw => (h w hw).mono fun _ _ hh => ⟨(), hh⟩
/-! results in a variable -/
theorem ZnD {P : Program} {t : TypeId} {n b : Nat} {cs : List Value} {w : World} (ht : tyk P t = some (true, n)) (hl : Nat.beq cs.length n = true) {T : TypeId} (hb : w.heap[b]? = some (.cells cs.toArray T (0, 0))) : (loadVar t ⟨b, 0, none⟩).run P w = .ok (.agg cs.toArray) w :=
  Zgj ht (Nat.eq_of_beq_eq_true hl) (fun j u hj => by rw [cell_of_row w b _ _ T (0, 0) hb]; simpa using hj)
theorem wqc {fn : Func} {R : Ending → World → Prop} {t b n : Nat} {ty : TypeId} {cs : List Value} (hr : fn.results = #[.cell t ty]) (ht : tyk c.P ty = some (true, n)) (h : lk E t = some (ptr b 0)) (hp : Pick (box b cs) L L') (hl : Nat.beq cs.length n = true) (k : ∀ w, SH c.w0 c.ex L w → R (.returned (.agg cs.toArray)) w) : WQ c E L (bodyPost c.P fn R) .ret := fun a w hf hs => by
  obtain ⟨T, hT⟩ := hs.at_box hp
  exact bodyPost_ret (ZoB hr (hf.look t _ h) (ZnD ht hl hT)) hf.defers (k w hs)
theorem Zx {fn : Func} {R : Ending → World → Prop} {t u b n : Nat} {ty : TypeId} {cs : List Value} {v' : Value} (hr : fn.results = #[.cell t ty, .tmp u]) (ht : tyk c.P ty = some (true, n)) (h : lk E t = some (ptr b 0)) (h' : lk E u = some v') (hp : Pick (box b cs) L L') (hl : Nat.beq cs.length n = true) (k : ∀ w, SH c.w0 c.ex L w → R (.returned (.tuple #[.agg cs.toArray, v'])) w) : WQ c E L (bodyPost c.P fn R) .ret := fun a w hf hs => by
  obtain ⟨T, hT⟩ := hs.at_box hp
  exact bodyPost_ret (Znn hr (hf.look t _ h) (ZnD ht hl hT) (hf.look u _ h')) hf.defers (k w hs)
end
end Go.Proofs.YtjfjbgihojiijacGreatDoor
