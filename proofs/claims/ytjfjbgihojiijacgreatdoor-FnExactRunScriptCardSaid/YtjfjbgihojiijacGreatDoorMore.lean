/-
  More operations: elements of lists whose elements lead on, make and stores for them, variables of a caller, function values.
-/
import Derived.Test.YtjfjbgihojiijacGreatDoorDraw
namespace Go.Proofs.YtjfjbgihojiijacGreatDoor
open Go Go.RowKit

theorem Zrb {x y : Hd} (h : sl x = sl y) : x = y := by
  cases x; cases y; simp [sl] at h; simp [h]
/-- The header of a cut. -/
def slh (x : Hd) (l h sz : Nat) : Hd := ⟨if x.c = l then x.a else x.a.map (·.add (l * sz)), h - l, x.c - l⟩
section
variable {c : Cx} {E : Env} {L L' : List Asn}

theorem Z5 {α : Type} [Rep α] {t : TypeId} {x : Operand} {f k i o : Nat} {v : Value} {us : List Value} {xs : List α} (h : Rds c L v us xs) (hi : i < xs.length) (hf : fldo c.P t f = some k) (hx : ev E x = some (sptr v i o (Rep.sz α))) :
    Zz c E L (.fieldAddr t x f) (sptr v i (o + k) (Rep.sz α)) := fun a w o' hfit hw ho => by
  obtain ⟨⟨a', len, cap, rfl, h2, _, _, h5⟩, hl, _⟩ := h.on hw
  have e : len = xs.length := Nat.eq_of_mul_eq_mul_right (Rep.pos (α := α)) (h2.symm.trans hl)
  obtain ⟨b, off, rfl, _⟩ := h5 (by omega)
  exact Zvg rfl hf hx a w o' hfit hw ho

/-- An element that leads on is opened: what holds of it, and that such a world is. -/
theorem ZdM {α : Type} [Rep α] {v : Value} {us : List Value} {xs : List α} {k : Nat} {ops : Array Oper} {Q : Post} {rest : List Oper} (h : Rds c L v us xs) (hk : k < xs.length)
    (K : (∃ w B, Rep.rd w B (Za4 us k (Rep.sz α)) (gx xs k)) → WL c E L ops Q rest) : WL c E L ops Q rest := fun a w hf hw =>
  K ⟨w, dm w [], (h.on hw).2.2 k _ (ZkP hk)⟩ a w hf hw
theorem ZhZ {α : Type} [Rep α] {v : Value} {us : List Value} {xs : List α} {k : Nat} {S : List Asn} {ops : Array Oper} {Q : Post} {q fuel : Nat} {listed : Array Bool} (h : Rds c L v us xs) (hk : k < xs.length)
    (K : (∃ w B, Rep.rd w B (Za4 us k (Rep.sz α)) (gx xs k)) → WA c E L S ops Q q fuel listed) : WA c E L S ops Q q fuel listed := fun a w hf hw =>
  K ⟨w, dm w [], (h.on hw).2.2 k _ (ZkP hk)⟩ a w hf hw
theorem ZnH {α : Type} [Rep α] {W : World → List Nat → Prop} {v : Value} {us : List Value} {xs : List α} {k : Nat} (h : Rg W v us xs) (hk : k < xs.length) : ∀ w fp, W w fp → Rep.rd w (dm w fp) (Za4 us k (Rep.sz α)) (gx xs k) :=
  fun w fp hw => (h w fp hw).2.2 k _ (ZkP hk)
/-- A list of lists. -/
theorem Zs4 {α : Type} [Flat α] {w : World} {B : Nat → Prop} {us : List Value} {x : List α} : Rep.rd w B us x ↔ ∃ h0 : Hd, us = [sl h0] ∧ rdF w B (sl h0) x := by
  constructor
  · rintro ⟨v, vs, rfl, h⟩
    obtain ⟨h0, rfl⟩ := h.1.hd
    exact ⟨h0, rfl, h.flat⟩
  · rintro ⟨h0, rfl, h⟩
    exact ⟨_, _, rfl, h⟩
theorem ZoE {α : Type} [Flat α] {W : World → List Nat → Prop} {v : Value} {us : List Value} {xs : List (List α)} {k : Nat} {h0 : Hd} (hc : Za4 us k (Rep.sz (List α)) = [sl h0]) (h : Rg W v us xs) (hk : k < xs.length) : Rg W (sl h0) (encs (gx xs k)) (gx xs k) := fun w fp hw => by
  obtain ⟨h1, e, r⟩ := Zs4.1 (ZnH h hk w fp hw)
  rw [hc] at e
  injection e with e _
  rw [Zrb e]; exact r
theorem Zt5 {α : Type} [Flat α] {v : Value} {xs : List α} (hp : Pick (ownF v xs) L L') : Pick (owc [v] xs) L L' := fun w fp h => by
  obtain ⟨fp', ⟨f1, f2, rfl, h1, h2⟩, hperm⟩ := hp w fp h
  exact ⟨f1 ++ f2, ⟨f1, f2, rfl, ⟨v, _, rfl, h1⟩, h2⟩, hperm⟩

/-! make -/
def ZoT (P : Program) (t : TypeId) : Option (Nat × Bool × List Value) := match P.underlying t with
  | some (.slice e) => (P.info? e).bind fun i => i.zero.map fun z => (i.size, decide (i.bytes ≤ 128), z.cells.toList)
  | _ => none
theorem Zse {P : Program} {t : TypeId} {n : Nat} {zs : List Value} (h : ZoT P t = some (n, true, zs)) : ∃ e i z, P.underlying t = some (.slice e) ∧ P.info? e = some i ∧ i.zero = some z ∧ z.cells = zs.toArray ∧ i.size = n ∧ i.bytes ≤ 128 := by
  unfold ZoT at h
  split at h
  · rename_i e he
    simp only [Option.bind_eq_some_iff, Option.map_eq_some_iff, Prod.mk.injEq, decide_eq_true_eq] at h
    obtain ⟨i, hi, z, hz, h1, h2, h3⟩ := h
    exact ⟨e, i, z, he, hi, hz, by rw [← h3], h1, h2⟩
  · cases h
theorem Zlw {α : Type} [Flat α] {t : TypeId} {x y : Operand} {n sz : Nat} (z0 : α) {zs : List Value} (h : ZoT c.P t = some (sz, true, zs)) (hzs : Flat.enc z0 = zs) (hx : ev E x = some (.int .i64 (n : Int))) (hy : ev E y = some (.int .i64 (n : Int))) (hn : n ≤ 1099511627776) (hs : Nat.beq sz (Flat.sz α) = true) :
    Zjo c E L (.makeSlice t x y) (fun h : Hd => sl h) (fun h => ownF (sl h) (List.replicate n z0) :: L) := by
  obtain ⟨e, i, z, h1, h2, h3, h4, h5, h6⟩ := Zse h
  exact Zvf z0 h1 h2 h3 (by rw [h4, hzs]) (h5.trans (Nat.eq_of_beq_eq_true hs)) h6 hx hy hn

/-! a store of a whole element that leads on -/
/-! guards on what was left out -/
theorem ZW {Q : Post} {ops : Array Oper} {rest : List Oper} {d j dj : Nat} {oj : Oper} {b' : Bool} {op : Op} {ty : TypeId} {pos : String} {aft : Array Edge} (ho : ops[j]? = some oj) (hd : oj.dst = some dj) (hv : lk E dj = some undef) (hd' : Nat.blt d c.n = true)
    (k : WL c ((d, undef) :: E) L ops Q rest) : WL c E L ops Q (⟨some d, op, ty, pos, aft, some (j, b')⟩ :: rest) := fun a w hf hs => by
  have h1 := hf.look dj _ hv
  have hy : yielded ops a.tmps j = none := by simp [yielded, ho, hd, h1, undef]
  have hw : Region.wanted (⟨some d, op, ty, pos, aft, some (j, b')⟩ : Oper) (yielded ops a.tmps) = false := by simp [Region.wanted, hy]
  exact wpList_skip hw (k _ _ (hf.put _ hd') hs)
theorem ZuE {S : List Asn} {Q : Post} {q fuel : Nat} {ops : Array Oper} {listed : Array Bool} {d : Nat} {op : Op} {ty : TypeId} {pos : String} {aft : Array Edge} (i : Nat) {j dj : Nat} {oj : Oper} {b' : Bool} (hi : ops[i]? = some ⟨some d, op, ty, pos, aft, some (j, b')⟩) (hj : ops[j]? = some oj) (hdj : oj.dst = some dj) (hv : lk E dj = some undef) (hS : ZaD S L) (hd : Nat.blt d c.n = true) (ht : tk1 ops q listed i = true)
    (hQ : ∀ p a w, Q (.panic p) (a.put (some d) undef) w → Q (.panic p) a w) (k : WA c ((d, undef) :: E) L S ops Q q fuel (listed.setIfInBounds i true)) : WA c E L S ops Q q (fuel + 1) listed := fun a w hf hw => by
  have h1 := hf.look dj _ hv
  have hy : yielded ops a.tmps j = none := by simp [yielded, hj, hdj, h1, undef]
  have hw' : Region.wanted (⟨some d, op, ty, pos, aft, some (j, b')⟩ : Oper) (yielded ops a.tmps) = false := by simp [Region.wanted, hy]
  exact ZmY hi ht hQ (.inr ⟨hw', rfl⟩) (hw.weak hS) (k _ _ (hf.put undef hd) hw)

/-! structures of integers compared -/
def beqs : List Int → List Int → Bool
  | a :: r, b :: s => a == b && beqs r s
  | _, _ => true
def okF (P : Program) : List Field → Nat → Bool
  | [], _ => true
  | f :: fs, k => (f.name != "_") && (f.offset == k) && (match P.underlying f.type with | some (.int .i64) => true | _ => false) && okF P fs (k + 1)
def Zs2 (P : Program) (t : TypeId) (n : Nat) : Bool := match P.underlying t with
  | some (.struct fs) => fs.toList.length == n && okF P fs.toList 0 && !P.stoodInHeld t && !P.eqGuardType P.depth t
  | _ => false
theorem Zss {P : Program} {w : World} (d : Nat) (as bs : List Int) : ∀ (fs : List Field) (k : Nat), okF P fs k = true → as.length = k + fs.length → bs.length = k + fs.length →
    (Op.eqFields (d + 1) (as.map (Value.int .i64)).toArray (bs.map (Value.int .i64)).toArray fs).run P w = .ok (beqs (as.drop k) (bs.drop k)) w
  | [], k, _, h1, h2 => by
    rw [List.drop_of_length_le (by simp at h1; omega), List.drop_of_length_le (by simp at h2; omega)]
    simp [Op.eqFields, beqs]
  | f :: fs, k, h, h1, h2 => by
    simp only [okF, Bool.and_eq_true, bne_iff_ne, beq_iff_eq] at h
    obtain ⟨⟨⟨hn, ho⟩, ht⟩, hr⟩ := h
    have hu : P.underlying f.type = some (.int .i64) := by
      split at ht
      · assumption
      · cases ht
    simp only [List.length_cons] at h1 h2
    have hka : k < as.length := by omega
    have hkb : k < bs.length := by omega
    have ih := Zss (w := w) d as bs fs (k + 1) hr (by omega) (by omega)
    rw [List.drop_eq_getElem_cons hka, List.drop_eq_getElem_cons hkb]
    have pa : (part f.type (as.map (Value.int .i64)).toArray f.offset).run P w = .ok (.int .i64 as[k]) w := by simp [part, isAgg, run_underlying hu, ho, hka]
    have pb : (part f.type (bs.map (Value.int .i64)).toArray f.offset).run P w = .ok (.int .i64 bs[k]) w := by simp [part, isAgg, run_underlying hu, ho, hkb]
    simp only [Op.eqFields, hn, ne_eq, not_false_eq_true, if_true, Sem.run_bind, pa, pb, Result.andThen_ok, run_equalIn_int w d f.type .i64 .i64 _ _ hu, beqs]
    cases as[k] == bs[k]
    · simp
    · simp only [Bool.not_true, Bool.false_eq_true, if_false, Bool.true_and]
      exact ih
theorem ZlO {t u : TypeId} {n : Nat} {x y : Operand} {ps qs : List Int} (h : Zs2 c.P t n = true) (hx : ev E x = some (.agg (ps.map (Value.int .i64)).toArray)) (hy : ev E y = some (.agg (qs.map (Value.int .i64)).toArray)) (ha : Nat.beq ps.length n = true) (hb : Nat.beq qs.length n = true) :
    Zz c E L (.binOp .neq t x y u) (.bool (!(beqs ps qs))) := fun a w o hf _ ho => by
  unfold Zs2 at h
  split at h
  · rename_i fs he
    simp only [Bool.and_eq_true, beq_iff_eq, Bool.not_eq_true'] at h
    obtain ⟨⟨⟨h1, h2⟩, h3⟩, h4⟩ := h
    have hfo : c.P.fieldsOf t = fs := by simp [Program.fieldsOf, he]
    have hr := Zss (P := c.P) (w := w) 9998 ps qs fs.toList 0 h2 (by have := Nat.eq_of_beq_eq_true ha; omega) (by have := Nat.eq_of_beq_eq_true hb; omega)
    have hs := run_equalIn_agg (P := c.P) w 9999 t (ps.map (Value.int .i64)).toArray (qs.map (Value.int .i64)).toArray (by rw [hfo]; exact he) h3
    rw [hfo, hr] at hs
    have hg := run_eqGuard_agg (P := c.P) w .neq t x y (ps.map (Value.int .i64)).toArray (qs.map (Value.int .i64)).toArray h4
    have hb' := run_neq_struct (P := c.P) w t (ps.map (Value.int .i64)).toArray (qs.map (Value.int .i64)).toArray
    rw [hs] at hb'
    simp [execOp, ho, hf.eval hx, hf.eval hy, hg, hb']
  · cases h

/-! variables of a caller's, which the call only reads -/
def Bx (w : World) (b : Nat) (cs : List Value) : Prop := ∃ T, w.heap[b]? = some (.cells cs.toArray T (0, 0))
theorem Bx.keep {w w' : World} {b : Nat} {cs : List Value} (h : Bx w b cs) (hk : Keep [] w w') : Bx w' b cs := by
  obtain ⟨T, h⟩ := h
  exact ⟨T, (hk.block b (Array.getElem?_eq_some_iff.1 h).1 (by simp)).trans h⟩
theorem RdL.later {α : Type} [Rep α] {w w' : World} {v : Value} {us : List Value} {xs : List α} (h : RdL w (dm w []) v us xs) (hk : Keep [] w w') : RdL w' (dm w' []) v us xs := h.keep (fun k hk' => hk.block k hk'.1 (by simp)) (fun k hk' => ⟨Nat.lt_of_lt_of_le hk'.1 hk.size, by simp⟩)
theorem ZgC {P : Program} {nn : Nat} {w0 : World} {t : TypeId} {x : Operand} {b o n : Nat} {cs : List Value} {v : Value} (hb0 : Bx w0 b cs) (ht : tyk P t = some (false, n)) (hx : ev E x = some (ptr b o)) (hv : cs[o]? = some v) :
    Zz ⟨P, nn, w0, []⟩ E L (.load t x) v := fun a w o' hf hw ho => by
  obtain ⟨T, hb⟩ := hb0.keep hw.keep
  have hc : w.cell? ⟨b, o, none⟩ = some v := by rw [cell_of_row w b o _ T (0, 0) hb]; simpa using hv
  simp [execOp, ho, hf.eval hx, ptr, Instr.loadAt, Instr.sureAddr, Zif ht hc]
theorem Zjf {P : Program} {nn : Nat} {w0 : World} {t : TypeId} {x : Operand} {b o n : Nat} {cs vs : List Value} (hb0 : Bx w0 b cs) (ht : tyk P t = some (true, n)) (hx : ev E x = some (ptr b o)) (hv : (cs.drop o).take n = vs) (hl : Nat.beq vs.length n = true) :
    Zz ⟨P, nn, w0, []⟩ E L (.load t x) (.agg vs.toArray) := fun a w o' hf hw ho => by
  obtain ⟨T, hb⟩ := hb0.keep hw.keep
  have hc : Zjk w b o vs := fun j u hj => by
    rw [cell_of_row w b _ _ T (0, 0) hb]
    rw [← hv, List.getElem?_take] at hj
    split at hj
    · simpa using hj
    · cases hj
  simp [execOp, ho, hf.eval hx, ptr, Instr.loadAt, Instr.sureAddr, Zgj ht (Nat.eq_of_beq_eq_true hl) hc]

/-! function values -/
def FnAt (P : Program) (f : Nat) : Prop := ∃ fn cd, P.funcs[f]? = some fn ∧ fn.body = some cd ∧ (fn.name == "runtime.NumGoroutine") = false
theorem ZvA {x : Operand} {f : Nat} {xs : List Operand} {ts : Array TypeId} {vs us : List Value} {v : Value} (hfn : FnAt c.P f) (hv : ev E x = some (.func (.func f) #[] us.toArray)) (hx : evs E xs = some vs)
    (h : ∀ w, SH c.w0 c.ex L w → Calls c.P f (vs ++ us).toArray w fun e w' => e = .returned v ∧ SH w [] [] w') :
    ZcG c E L (.call { callee := .value x, args := xs.toArray, argTypes := ts }) (fun _ : Unit => v) (fun _ => L) := by
  obtain ⟨fn, cd, h1, h2, h3⟩ := hfn
  exact ZvS (X := Unit) (v := fun _ => v) (L1 := fun _ => []) hv h1 h2 h3 hx fun w hw => (h w hw).mono fun _ _ hh => ⟨(), hh⟩
theorem Zi3 {α : Type} [Rep α] {xs : List α} {k : Nat} {e : α} (hk : k < xs.length) : gx (xs.set k e) k = e := by
  simp [gx, List.getD, hk]
end
end Go.Proofs.YtjfjbgihojiijacGreatDoor
