/-
  Slices: literals, make, append, stores into elements.
-/
import Derived.Test.YtjfjbgihojiijacGreatDoorEff
namespace Go.Proofs.YtjfjbgihojiijacGreatDoor
open Go Go.RowKit

theorem ZC {α : Type} [Rep α] {L : List Asn} : Pick (own (.slice none 0 0) [] ([] : List α)) L L := fun _ fp h =>
  ⟨fp, ⟨[], fp, rfl, ⟨[], [], .inl ⟨rfl, rfl, rfl⟩, by simp, rfl, rfl, fun k x hx => by simp at hx⟩, h⟩, List.Perm.refl _⟩

/-- The cells of a literal of a slice. -/
def ZaV (P : Program) (t : TypeId) (n : Nat) (parts : List (Nat × Value)) : Option (List Value) :=
  match P.underlying t with
  | some (.slice e) => match P.info? e with
    | some i => if n * i.size > 2 ^ 24 then none else
        match i.zero with
        | some z => (Instr.fill (fun k => some (k * i.size, i.size)) ((Array.range (n * i.size)).map ((if n * i.size = 0 then #[] else z.cells)[· % (if n * i.size = 0 then #[] else z.cells).size]!)) parts).map (·.toList)
        | none => none
    | none => none
  | _ => none
theorem Zp8 {P : Program} {t : TypeId} {n : Nat} {parts : Array (Nat × Value)} {cs : List Value} (h : ZaV P t n parts.toList = some cs) (w : World) :
    ∃ e, (Instr.buildSlice t n parts).run P w = .ok (.slice (some ⟨w.heap.size, 0, none⟩) n n) (w.alloc (.cells cs.toArray e)) := by
  unfold ZaV at h
  split at h <;> try (cases h; done)
  rename_i e he
  split at h <;> try (cases h; done)
  rename_i i hi
  split at h <;> try (cases h; done)
  rename_i hbig
  split at h <;> try (cases h; done)
  rename_i z hz
  obtain ⟨ar, har, hcs⟩ := Option.map_eq_some_iff.1 h
  refine ⟨e, ?_⟩
  have e1 : ar = cs.toArray := by rw [← hcs]
  subst e1
  have hsz : ∀ w, (sizeOf e).run P w = .ok i.size w := fun w => by simp [sizeOf, typeInfo, hi]
  have hzv : ∀ w, (zeroValue e).run P w = .ok z w := fun w => by simp [zeroValue, typeInfo, hi, hz]
  by_cases h0 : n * i.size = 0
  · simp only [if_pos h0] at har
    simp only [Instr.buildSlice, Sem.run_bind, run_underlying he, Result.andThen_ok, hsz, if_neg hbig, if_pos h0, Sem.run_pure, har, newRow, run_newObj]
    rfl
  · simp only [if_neg h0] at har
    simp only [Instr.buildSlice, Sem.run_bind, run_underlying he, Result.andThen_ok, hsz, hzv, if_neg hbig, if_neg h0, Sem.run_pure, har, newRow, run_newObj]
    rfl

/-- v is the whole of the block that it lies in. -/
def slb (b n : Nat) : Value := .slice (some ⟨b, 0, none⟩) n n

section
variable {c : Cx} {E : Env} {L L' : List Asn}

theorem ebs {t : TypeId} {n : Nat} {ps : List (Nat × Operand)} {qs : List (Nat × Value)} {cs : List Value} (hq : evp E ps = some qs) (h : ZaV c.P t n qs = some cs) :
    Zjo c E L (.buildSlice t n ps.toArray) (fun b => slb b n) (fun b => box b cs :: L) := fun a w o hf hs ho => by
  have e : Array.map (fun x : Nat × Operand => match x with | (i, x) => (i, a.eval x)) ps.toArray = qs.toArray := by
    rw [← hf.evalp hq]; simp
  obtain ⟨et, hr⟩ := Zp8 (P := c.P) (parts := qs.toArray) (by simpa using h) w
  refine ⟨w.heap.size, w.alloc (.cells cs.toArray et), ?_, hs.alloc cs et⟩
  simp [execOp, ho, e, hr, slb]

theorem Zt8 {b n sz : Nat} {cs : List Value} (hp : Pick (box b cs) L L') (hl : Nat.beq cs.length (n * sz) = true) (hn : n ≤ maxLen) : SlIn c L sz (slb b n) cs := fun w hw => by
  obtain ⟨_, fp, ⟨f1, f2, rfl, ⟨rfl, T, hT⟩, _⟩, _, h3⟩ := hw.pick hp
  refine ⟨_, n, n, rfl, Nat.eq_of_beq_eq_true hl, Nat.le_refl _, hn, fun _ => ⟨b, 0, rfl, ⟨(h3 b (by simp)).2, by simp⟩, fun j u hj => ?_⟩⟩
  rw [cell_of_row w b _ _ T (0, 0) hT]
  simpa using hj
/-- A literal is owned. -/
theorem pbo {α : Type} [Flat α] {b n : Nat} {cs : List Value} {xs : List α} (hp : Pick (box b cs) L L') (hc : encs xs = cs) (hl : Nat.beq xs.length n = true) (hn : n ≤ maxLen) : Pick (ownF (slb b n) xs) L L' := fun w fp h => by
  obtain ⟨fp', ⟨f1, f2, rfl, ⟨rfl, T, hT⟩, h2⟩, hperm⟩ := hp w fp h
  have hl' : xs.length = n := Nat.eq_of_beq_eq_true hl
  refine ⟨[b] ++ f2, ⟨[b], f2, rfl, ?_, h2⟩, hperm⟩
  refine OwL.flat.2 (.inr ⟨b, 0, n, n, cs.toArray, T, rfl, rfl, hT, ?_, Nat.le_refl _, hn, ?_, ?_⟩)
  · rw [ZbW, hl']
  · have : cs.length = n * Flat.sz α := by rw [← hc, ZbW, hl']
    simp [this]
  · intro j u hj; rw [hc] at hj; simpa using hj

/-! append -/
theorem ZlM {P : Program} {w : World} {B : Nat → Prop} {sz : Nat} {v : Value} {us : List Value} (h : RdS w B sz v us) {n : Nat} (hn : us.length = n * sz) (hz : 0 < sz) : (Builtin.firstCells sz n v).run P w = .ok us.toArray w ∧ (Builtin.lenOf v).run P w = .ok n w := by
  obtain ⟨a, len, cap, rfl, h2, _, _, h5⟩ := h
  have e : len = n := Nat.eq_of_mul_eq_mul_right hz (h2.symm.trans hn)
  subst e
  refine ⟨?_, by simp [Builtin.lenOf]⟩
  rcases Nat.eq_zero_or_pos len with h0 | h0
  · subst h0
    have hu : us = [] := List.eq_nil_of_length_eq_zero (by simpa using h2)
    subst hu
    cases a <;> simp [Builtin.firstCells, loadCells, loadCellsFrom]
  · obtain ⟨b, off, rfl, _, hr⟩ := h5 h0
    refine run_firstCells_some w sz len _ len cap us h2 (fun j v hj => ?_)
    have := hr j v hj
    unfold Addr.add; split
    · rename_i e; subst e; simpa using this
    · exact this

theorem ZiL {P : Program} {t e ty : TypeId} {i : TypeInfo} {z : Value} (ht : P.underlying t = some (.slice e)) (hi : P.info? e = some i) (hz : i.zero = some z) (hzs : z.cells.size = i.size) (hpos : 0 < i.size) (hby : i.bytes ≤ 128)
    {w : World} {f : List Nat} {v s : Value} {us ys : List Value} {n m : Nat} {B : Nat → Prop} (ho : OwS w f i.size v us) (hn : us.length = n * i.size) (hs : RdS w B i.size s ys) (hm : ys.length = m * i.size) (h1 : ∀ u ∈ ys, u.oneCell' = true) (hlen : n + m ≤ 1099511627776) :
    ∃ v' w' f', (Builtin.append_ #[t, t] ty #[v, s]).run P w = .ok v' w' ∧ OwS w' f' i.size v' (us ++ ys) ∧ Keep f w w' ∧ f'.Nodup ∧ ∀ b ∈ f', (b ∈ f ∨ w.heap.size ≤ b) ∧ b < w'.heap.size := by
  obtain ⟨hfs, hls⟩ := ZlM (P := P) hs hm hpos
  obtain ⟨hfs', _⟩ := ZlM (P := P) (w := w.drew) (B := B) (sz := i.size) (v := s) (us := ys) hs hm hpos
  have hsl : ∃ a l cp, s = .slice a l cp := by obtain ⟨a, l, cp, h, _⟩ := hs; exact ⟨a, l, cp, h⟩
  obtain ⟨sa, sl, sc, rfl⟩ := hsl
  have hsl' : sl = m := by simpa [Builtin.lenOf] using hls
  subst hsl'
  have hbound : ∀ cp, cp < n + sl → Builtin.nextslicecap (n + sl) cp * i.bytes ≤ 281474976710656 := fun cp hcp => growslice_fits hcp (by
    have := Nat.mul_le_mul hlen hby; omega)
  have grow : ∀ (cp : Nat), cp < n + sl →
      OwS (w.drew.alloc (.cells (us.toArray ++ ys.toArray ++ Builtin.zeroCells z.cells (grownCap w (n + sl) cp e - (n + sl))) e)) [w.heap.size] i.size (.slice (some ⟨w.heap.size, 0, none⟩) (n + sl) (grownCap w (n + sl) cp e)) (us ++ ys) := by
    intro cp hcp
    have hge := grownCap_ge w (n + sl) cp e
    have hcm : grownCap w (n + sl) cp e ≤ maxLen := grownCap_le_maxLen w (n + sl) cp e (by unfold maxLen; omega)
    refine .inr ⟨w.heap.size, 0, n + sl, _, _, e, rfl, rfl, heap_alloc_new w.drew _, ?_, hge, hcm, ?_, ?_⟩
    · rw [List.length_append, hn, hm, Nat.add_mul]
    · simp only [Array.size_append, List.size_toArray, size_zeroCells, hzs, hn, hm, ← Nat.add_mul, Nat.zero_add]
      refine Nat.mul_le_mul_right _ ?_
      omega
    · intro j u hj
      have hlt : j < (us ++ ys).length := (List.getElem?_eq_some_iff.1 hj).1
      simp only [Nat.zero_add]
      rw [Array.getElem?_append_left (by simpa using hlt)]
      simpa using hj
  have hk : ∀ (f : List Nat) (o : Obj), Keep f w (w.drew.alloc o) := fun f o => ⟨rfl, rfl, rfl, by simp, fun k hk _ => Below.heap_alloc w.drew o k hk⟩
  rcases ho with ⟨rfl, rfl, rfl⟩ | ⟨b, off, len, cap, cs, T, rfl, rfl, h3, h4, h5, h6, h7, h8⟩
  · have hn0 : n = 0 := by
      have h : n * i.size = 0 := hn.symm
      rcases Nat.mul_eq_zero.1 h with h | h
      · exact h
      · omega
    subst hn0
    rcases Nat.eq_zero_or_pos sl with h0 | h0
    · subst h0
      have hys : ys = [] := List.eq_nil_of_length_eq_zero (by simpa using hm)
      subst hys
      refine ⟨.slice none 0 0, w, [], ?_, .inl ⟨rfl, rfl, rfl⟩, Keep.refl _ _, by simp, by simp⟩
      simp [Builtin.append_, run_underlying ht, sizeOf, typeInfo, hi, Builtin.lenOf, hfs]
    · have hn' : sl ≠ 0 := by omega
      have h63' : ¬ (9223372036854775807 < (sl : Int)) := by omega
      have h48' : ¬ (281474976710656 < Builtin.nextslicecap sl 0 * i.bytes) := by have := hbound 0 (by omega); simp at this; omega
      have hg := grow 0 (by omega)
      simp only [Nat.zero_add] at hg
      refine ⟨_, _, [w.heap.size], ?_, hg, hk _ _, by simp, by simp⟩
      simp [Builtin.append_, run_underlying ht, sizeOf, typeInfo, zeroValue, hi, hz, Builtin.lenOf, hn', h63', h48', Question.forced, run_firstCells_none, hfs', newRow, grownCap]
  · have hln : len = n := Nat.eq_of_mul_eq_mul_right hpos (h4.symm.trans hn)
    subst hln
    by_cases hroom : len + sl ≤ cap
    · have hfit : off + len * i.size + ys.length ≤ cs.size := by
        rw [hm, Nat.add_assoc, ← Nat.add_mul]
        exact Nat.le_trans (Nat.add_le_add_left (Nat.mul_le_mul_right _ hroom) off) h7
      have hadd : (⟨b, off, none⟩ : Addr).add (len * i.size) = ⟨b, off + len * i.size, none⟩ := by unfold Addr.add; split <;> simp_all
      have hst := run_storeCells_at P b (off + len * i.size) T ys 0 cs w h3 (by simpa using hfit) h1
      simp only [Nat.add_zero] at hst
      refine ⟨_, w.setRow b (cs.toList.take (off + len * i.size) ++ ys ++ cs.toList.drop (off + len * i.size + ys.length)).toArray, [b], ?_, .inr ⟨b, off, len + sl, cap, _, T, rfl, rfl, setRow_heap w b cs _ T (0, 0) h3, ?_, hroom, h6, ?_, ?_⟩, Zkv w b _, by simp, ?_⟩
      · simp [Builtin.append_, run_underlying ht, sizeOf, typeInfo, hi, Builtin.lenOf, hroom, hfs, hadd, hst]
      · rw [List.length_append, hn, hm, Nat.add_mul]
      · simp only [List.size_toArray, List.length_append, List.length_take, List.length_drop, Array.length_toList]
        omega
      · intro j u hj
        have hlus : us.length = len * i.size := hn
        simp only [List.getElem?_toArray]
        rcases Nat.lt_or_ge j us.length with hjl | hjl
        · rw [List.getElem?_append_left hjl] at hj
          rw [List.append_assoc, List.getElem?_append_left (by simp; omega), List.getElem?_take, if_pos (by omega)]
          simpa using h8 j u hj
        · rw [List.getElem?_append_right hjl] at hj
          have hjy : j - us.length < ys.length := (List.getElem?_eq_some_iff.1 hj).1
          have hl1 : (List.take (off + len * i.size) cs.toList).length = off + len * i.size := by simp; omega
          rw [List.getElem?_append_left (by rw [List.length_append, hl1]; omega), List.getElem?_append_right (by rw [hl1]; omega), hl1]
          rw [show off + j - (off + len * i.size) = j - us.length by omega]
          exact hj
      · intro q hq
        have : q = b := by simpa using hq
        subst this
        exact ⟨.inl (by simp), by simpa using (Array.getElem?_eq_some_iff.1 h3).1⟩
    · have hold : (Builtin.firstCells i.size len (.slice (some ⟨b, off, none⟩) len cap)).run P w.drew = .ok us.toArray w.drew :=
        run_firstCells_some w.drew i.size len _ len cap us h4 (fun j u hj => by
          have := h8 j u hj
          have hc : w.drew.cell? ⟨b, off + j, none⟩ = some u := by
            rw [cell_of_row w.drew b _ cs T (0, 0) h3]; exact this
          unfold Addr.add; split
          · rename_i e; subst e; simpa using hc
          · exact hc)
      have h63' : ¬ (9223372036854775807 < ((len : Int) + (sl : Int))) := by omega
      have h48' : ¬ (281474976710656 < Builtin.nextslicecap (len + sl) cap * i.bytes) := by have := hbound cap (by omega); omega
      refine ⟨_, _, [w.heap.size], ?_, grow cap (by omega), hk _ _, by simp, by simp⟩
      simp [Builtin.append_, run_underlying ht, sizeOf, typeInfo, zeroValue, hi, hz, Builtin.lenOf, hroom, h63', h48', Question.forced, hold, hfs', newRow, grownCap]
      congr 2
      apply Array.ext'
      simp [List.append_assoc]

/-- A slice type whose elements have sz cells, and no more than 128 bytes. -/
def aok (P : Program) (t : TypeId) (sz : Nat) : Bool :=
  match P.underlying t with
  | some (.slice e) => match P.info? e with
    | some i => i.size == sz && decide (i.bytes ≤ 128) && (match i.zero with | some z => z.cells.size == i.size | none => false)
    | none => false
  | _ => false
theorem Zrr {P : Program} {t : TypeId} {sz : Nat} (h : aok P t sz = true) : ∃ e i z, P.underlying t = some (.slice e) ∧ P.info? e = some i ∧ i.zero = some z ∧ z.cells.size = i.size ∧ i.size = sz ∧ i.bytes ≤ 128 := by
  unfold aok at h
  split at h <;> try (cases h; done)
  rename_i e he
  split at h <;> try (cases h; done)
  rename_i i hi
  simp only [Bool.and_eq_true, beq_iff_eq, decide_eq_true_eq] at h
  obtain ⟨⟨h1, h2⟩, h3⟩ := h
  cases hz : i.zero with
  | none => simp [hz] at h3
  | some z => simp [hz] at h3; exact ⟨e, i, z, he, hi, hz, h3, h1, h2⟩

theorem Zf {α : Type} [Flat α] {t : TypeId} {x y : Operand} {v s : Value} {xs ys : List α} (ht : aok c.P t (Flat.sz α) = true) (hp : Pick (ownF v xs) L L') (hx : ev E x = some v) (hy : ev E y = some s) (hs : SlIn c L (Flat.sz α) s (encs ys)) (hlen : xs.length + ys.length ≤ 1099511627776) :
    Zjo c E L (.call { callee := .builtin .append, args := #[x, y], argTypes := #[t, t] }) (fun h : Hd => sl h) (fun h => ownF (sl h) (xs ++ ys) :: L') := fun a w o hf hw ho => by
  obtain ⟨e, i, z, h1, h2, h3, h4, h5, h6⟩ := Zrr ht
  have hw' := hw.pick hp
  obtain ⟨kk, fp, ⟨f1, f2, rfl, hA, hL⟩, hnd, hb⟩ := hw'
  have hpos : 0 < i.size := by rw [h5]; exact Flat.pos
  obtain ⟨v', w', f', hr, hO, hK, hN, hB⟩ := ZiL (P := c.P) (ty := o.type) h1 h2 h3 h4 hpos h6 (n := xs.length) (m := ys.length) (by rw [h5]; exact OwL.flat.1 hA) (by rw [ZbW, h5]) (by rw [h5]; exact hs w hw) (by rw [ZbW, h5]) (Zrq ys) hlen
  obtain ⟨h', rfl⟩ := hO.hd
  refine ⟨h', w', ?_, ?_⟩
  · simp [execOp, ho, resolve, invoke, builtin, hf.eval hx, hf.eval hy, hr]
  · refine SH.step (L0 := [ownF v xs]) (L1 := [ownF (sl h') (xs ++ ys)]) (hw.pick hp) fun fq hfq _ _ => ?_
    obtain ⟨g1, g2, rfl, hg, hg2⟩ := hfq
    have e2 : g2 = [] := hg2
    subst e2
    have eg : OwS w g1 i.size v (encs xs) := by rw [h5]; exact OwL.flat.1 hg
    obtain ⟨v2, w2, f2', hr2, hO2, hK2, hN2, hB2⟩ := ZiL (P := c.P) (ty := o.type) h1 h2 h3 h4 hpos h6 (n := xs.length) (m := ys.length) eg (by rw [ZbW, h5]) (by rw [h5]; exact hs w hw) (by rw [ZbW, h5]) (Zrq ys) hlen
    rw [hr] at hr2
    injection hr2 with ev ew
    rw [← ev] at hO2
    subst ew
    simp only [List.append_nil]
    refine ⟨hK2, f2', ⟨f2', [], by simp, ?_, rfl⟩, hN2, hB2⟩
    refine OwL.flat.2 ?_
    rw [Zsc, ← h5]; exact hO2

theorem Zdb {α : Type} [Rep α] {t : TypeId} {x y : Operand} {v : Value} {b : Nat} {us cs : List Value} {xs : List α} {e1 : α} {L1 L2 : List Asn} (ht : aok c.P t (Rep.sz α) = true) (hp : Pick (own v us xs) L L1) (hp2 : Pick (owc cs e1) L1 L2) (hbx : Pick (box b cs) L L') (hx : ev E x = some v) (hy : ev E y = some (slb b 1)) (h1c : cs.all (·.oneCell') = true) (hlen : xs.length + 1 ≤ 1099511627776) :
    Zjo c E L (.call { callee := .builtin .append, args := #[x, y], argTypes := #[t, t] }) (fun h : Hd => sl h) (fun h => own (sl h) (us ++ cs) (xs ++ [e1]) :: L2) := fun a w o hf hw ho => by
  obtain ⟨e, i, z, h1, h2, h3, h4, h5, h6⟩ := Zrr ht
  have hpos : 0 < i.size := by rw [h5]; exact Rep.pos
  have pick2 : ∀ {fp}, sat w L fp → ∃ fp', sat w (own v us xs :: owc cs e1 :: L2) fp' ∧ fp'.Perm fp := fun {fp} h => by
    obtain ⟨fp', ⟨f1, f2, rfl, hA, hL⟩, hperm⟩ := hp w fp h
    obtain ⟨fp2, h2', hperm2⟩ := hp2 w f2 hL
    exact ⟨f1 ++ fp2, ⟨f1, fp2, rfl, hA, h2'⟩, (hperm2.append_left f1).trans hperm⟩
  have hw2 : SH c.w0 c.ex (own v us xs :: owc cs e1 :: L2) w := by
    obtain ⟨k, fp, g1, g2, g3⟩ := hw
    obtain ⟨f', g4, hperm⟩ := pick2 g1
    exact ⟨k, f', g4, hperm.nodup_iff.2 g2, fun q hq => g3 q (hperm.mem_iff.1 hq)⟩
  have hcl : cs.length = Rep.sz α := by
    obtain ⟨_, fp, ⟨f1, f2, rfl, _, g1, g2, rfl, hc, _⟩, _⟩ := hw2
    exact Rep.ow_len hc
  have hsl : SlIn c L i.size (slb b 1) cs := Zt8 hbx (by rw [h5, hcl]; simp) (by unfold maxLen; omega)
  have h1' : ∀ u ∈ cs, u.oneCell' = true := by simpa using h1c
  obtain ⟨_, _, ⟨f1, f2, rfl, ⟨q0, qs, hA, hAl, _⟩, _⟩, _, _⟩ := hw2
  obtain ⟨v', w', f', hr, hO1, _⟩ := ZiL (P := c.P) (ty := o.type) h1 h2 h3 h4 hpos h6 (n := xs.length) (m := 1) (by rw [h5]; exact hA) (by rw [h5]; exact hAl) (hsl w hw) (by rw [hcl, h5]; simp) h1' hlen
  have hw2 : SH c.w0 c.ex (own v us xs :: owc cs e1 :: L2) w := by
    obtain ⟨k, fp, g1, g2, g3⟩ := hw
    obtain ⟨f', g4, hperm⟩ := pick2 g1
    exact ⟨k, f', g4, hperm.nodup_iff.2 g2, fun q hq => g3 q (hperm.mem_iff.1 hq)⟩
  obtain ⟨h', rfl⟩ := hO1.hd
  refine ⟨h', w', ?_, ?_⟩
  · simp [execOp, ho, resolve, invoke, builtin, hf.eval hx, hf.eval hy, hr]
  · refine SH.step (L0 := [own v us xs, owc cs e1]) (L1 := [own (sl h') (us ++ cs) (xs ++ [e1])]) (L := L2) (ex := c.ex) (w0 := c.w0) hw2 fun fq hfq hnd hlt => ?_
    obtain ⟨g1, g2, rfl, ⟨f0, fs, k1, k2, rfl, k4, k5⟩, g3, g4, rfl, hc, hg4⟩ := hfq
    have e2 : g4 = [] := hg4
    subst e2
    obtain ⟨v2, w2, f2', hr2, hO2, hK2, hN2, hB2⟩ := ZiL (P := c.P) (ty := o.type) h1 h2 h3 h4 hpos h6 (n := xs.length) (m := 1) (by rw [h5]; exact k1) (by rw [h5]; exact k2) (hsl w hw) (by rw [hcl, h5]; simp) h1' hlen
    rw [hr] at hr2
    injection hr2 with ev ew
    rw [← ev] at hO2
    subst ew
    simp only [List.append_nil]
    have hKq := hK2.block
    have hlx : us.length = xs.length * Rep.sz α := k2
    have hnd1 := List.nodup_append.1 (by simpa using hnd : (f0 ++ (fs.flatten ++ g3)).Nodup)
    have hmem : ∀ q, q ∈ fs.flatten ++ g3 → q < w.heap.size ∧ q ∉ f0 := fun q hq => ⟨hlt q (by
      rcases List.mem_append.1 hq with h | h
      · exact List.mem_append_left _ (List.mem_append_right _ h)
      · exact List.mem_append_right _ (by simpa using h)), fun h => hnd1.2.2 q h q hq rfl⟩
    have hkeep : ∀ q, q ∈ fs.flatten ++ g3 → w'.heap[q]? = w.heap[q]? := fun q hq => hKq q (hmem q hq).1 (hmem q hq).2
    refine ⟨?_, f2' ++ (fs.flatten ++ g3), ⟨f2' ++ (fs.flatten ++ g3), [], by simp, ⟨f2', fs ++ [g3], by rw [← h5]; exact hO2, ?_, by simp, by simp [k4], fun k x hx' => ?_⟩, rfl⟩, ?_, ?_⟩
    · exact ⟨hK2.os, hK2.tape, hK2.output, hK2.size, fun q hq hne => hK2.block q hq (fun h => hne (List.mem_append_left _ (List.mem_append_left _ h)))⟩
    · rw [List.length_append, hlx, hcl, List.length_append, Nat.add_mul]; simp
    · rcases Nat.lt_or_ge k xs.length with hk | hk
      · rw [List.getElem?_append_left hk] at hx'
        obtain ⟨g, hg, ho'⟩ := k5 k x hx'
        refine ⟨g, by rw [List.getElem?_append_left (by rw [k4]; exact hk)]; exact hg, ?_⟩
        have hch : Za4 (us ++ cs) k (Rep.sz α) = Za4 us k (Rep.sz α) := by
          unfold Za4
          have hle : k * Rep.sz α + Rep.sz α ≤ us.length := by rw [hlx, ← Nat.succ_mul]; exact Nat.mul_le_mul_right _ hk
          rw [List.drop_append_of_le_length (by omega), List.take_append_of_le_length (by rw [List.length_drop]; omega)]
        rw [hch]
        exact Rep.ow_keep ho' (fun q hq => hkeep q (List.mem_append_left _ (List.mem_flatten.2 ⟨g, List.mem_of_getElem? hg, hq⟩)))
      · rw [List.getElem?_append_right hk] at hx'
        have hk0 : k = xs.length := by
          have := (List.getElem?_eq_some_iff.1 hx').1
          simp at this; omega
        subst hk0
        simp at hx'
        subst hx'
        refine ⟨g3, by rw [List.getElem?_append_right (by omega)]; simp [k4], ?_⟩
        have hch : Za4 (us ++ cs) xs.length (Rep.sz α) = cs := by
          unfold Za4
          rw [← hlx, List.drop_left, ← hcl, List.take_length]
        rw [hch]
        exact Rep.ow_keep hc (fun q hq => hkeep q (List.mem_append_right _ hq))
    · refine List.nodup_append.2 ⟨hN2, hnd1.2.1, fun a ha q hq e => ?_⟩
      subst e
      rcases (hB2 a ha).1 with h | h
      · exact (hmem a hq).2 h
      · have := (hmem a hq).1; omega
    · intro q hq
      rcases List.mem_append.1 hq with h | h
      · exact ⟨(hB2 q h).1.imp (fun h => List.mem_append_left _ (List.mem_append_left _ h)) id, (hB2 q h).2⟩
      · refine ⟨.inl ?_, Nat.lt_of_lt_of_le (hmem q h).1 hK2.size⟩
        rcases List.mem_append.1 h with h | h
        · exact List.mem_append_left _ (List.mem_append_right _ h)
        · exact List.mem_append_right _ h
end
end Go.Proofs.YtjfjbgihojiijacGreatDoor
