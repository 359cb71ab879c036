/-
  append of a string to bytes.
-/
import Derived.Test.YtkahnmhkfmjomadDoorHole
namespace Go.Proofs.YtkahnmhkfmjomadDoor
open Go Go.RowKit
theorem append_core_s {P : Program} {t u e ty : TypeId} {i : TypeInfo} {z : Value} (ht : P.underlying t = some (.slice e)) (hu : P.underlying u = some .string) (hi : P.info? e = some i) (hz : i.zero = some z) (hzs : z.cells.size = i.size) (hpos : 0 < i.size) (hby : i.bytes ≤ 128)
    (hone : i.size = 1) {w : World} {f : List Nat} {v : Value} {us : List Value} {n : Nat} (ho : OwS w f i.size v us) (hn : us.length = n * i.size) (bytes : List UInt8) (hlen : n + bytes.length ≤ 1099511627776) :
    ∃ v' w' f', (Builtin.append_ #[t, u] ty #[v, .string ⟨bytes.toArray⟩]).run P w = .ok v' w' ∧ OwS w' f' i.size v' (us ++ encs bytes) ∧ Keep f w w' ∧ f'.Nodup ∧ ∀ b ∈ f', (b ∈ f ∨ w.heap.size ≤ b) ∧ b < w'.heap.size := by
  have hm : (encs bytes).length = bytes.length * i.size := by rw [encs_len, hone]; rfl
  have h1 : ∀ u ∈ encs bytes, u.oneCell' = true := encs_one bytes
  have hfc : ∀ w, (Builtin.firstCells i.size bytes.length (.string ⟨bytes.toArray⟩)).run P w = .ok (encs bytes).toArray w := fun w => by
    have e : encs bytes = bytes.map fun b => Value.int .u8 (b.toNat : Int) := by
      induction bytes with
      | nil => rfl
      | cons x r ih =>
        have ih' := ih (by simp only [List.length_cons] at hlen; omega) (by rw [encs_len, hone]; rfl) (encs_one r)
        simp only [encs, List.flatMap_cons, List.map_cons] at ih' ⊢
        rw [ih']; rfl
    rw [e]
    have hx : (⟨bytes.toArray⟩ : ByteArray).extract 0 bytes.length = ⟨bytes.toArray⟩ := by
      apply ByteArray.ext
      simp [ByteArray.data_extract]
    simp [Builtin.firstCells, hx]
  have hfs := hfc w
  have hfs' := hfc w.drew
  have hls : (⟨bytes.toArray⟩ : ByteArray).size = bytes.length := by simp [ByteArray.size]
  generalize hys : encs bytes = ys at hm h1 hfs hfs' ⊢
  generalize hsl : bytes.length = sl at hm hlen hfs hfs' hls ⊢
  have hbound : ∀ cp, cp < n + sl → Builtin.nextslicecap (n + sl) cp * i.bytes ≤ 281474976710656 := fun cp hcp => growslice_fits hcp (by
    have := Nat.mul_le_mul hlen hby; omega)
  have grow : ∀ (cp : Nat), cp < n + sl →
      OwS (w.drew.alloc (.cells (us.toArray ++ ys.toArray ++ Builtin.zeroCells z.cells (grownCap w (n + sl) cp e - (n + sl))) e)) [w.heap.size] i.size (.slice (some ⟨w.heap.size, 0, none⟩) (n + sl) (grownCap w (n + sl) cp e)) (us ++ ys) := by
    intro cp hcp
    have hge := grownCap_ge w (n + sl) cp e
    have hcm : grownCap w (n + sl) cp e ≤ maxLen := grownCap_le_maxLen w (n + sl) cp e (by unfold maxLen; omega)
    refine .inr ⟨w.heap.size, 0, n + sl, _, _, e, rfl, rfl, heap_alloc_new w.drew _, ?_, hge, hcm, ?_, ?_⟩
    · rw [List.length_append, hn, hm, Nat.add_mul]
    · simp only [Array.size_append, List.size_toArray, size_zeroCells, hzs, hn, hm, ← Nat.add_mul, Nat.zero_add]
      refine Nat.mul_le_mul_right _ ?_
      omega
    · intro j u hj
      have hlt : j < (us ++ ys).length := (List.getElem?_eq_some_iff.1 hj).1
      simp only [Nat.zero_add]
      rw [Array.getElem?_append_left (by simpa using hlt)]
      simpa using hj
  have hk : ∀ (f : List Nat) (o : Obj), Keep f w (w.drew.alloc o) := fun f o => ⟨rfl, rfl, rfl, by simp, fun k hk _ => Below.heap_alloc w.drew o k hk⟩
  rcases ho with ⟨rfl, rfl, rfl⟩ | ⟨b, off, len, cap, cs, T, rfl, rfl, h3, h4, h5, h6, h7, h8⟩
  · have hn0 : n = 0 := by
      have h : n * i.size = 0 := hn.symm
      rcases Nat.mul_eq_zero.1 h with h | h
      · exact h
      · omega
    subst hn0
    rcases Nat.eq_zero_or_pos sl with h0 | h0
    · subst h0
      have hys : ys = [] := List.eq_nil_of_length_eq_zero (by simpa using hm)
      subst hys
      refine ⟨.slice none 0 0, w, [], ?_, .inl ⟨rfl, rfl, rfl⟩, Keep.refl _ _, by simp, by simp⟩
      simp [Builtin.append_, run_underlying ht, run_underlying hu, hls, sizeOf, typeInfo, hi, Builtin.lenOf, hfs]
    · have hn' : sl ≠ 0 := by omega
      have h63' : ¬ (9223372036854775807 < (sl : Int)) := by omega
      have h48' : ¬ (281474976710656 < Builtin.nextslicecap sl 0 * i.bytes) := by have := hbound 0 (by omega); simp at this; omega
      have hg := grow 0 (by omega)
      simp only [Nat.zero_add] at hg
      refine ⟨_, _, [w.heap.size], ?_, hg, hk _ _, by simp, by simp⟩
      simp [Builtin.append_, run_underlying ht, run_underlying hu, hls, sizeOf, typeInfo, zeroValue, hi, hz, Builtin.lenOf, hn', h63', h48', Question.forced, run_firstCells_none, hfs', newRow, grownCap]
  · have hln : len = n := Nat.eq_of_mul_eq_mul_right hpos (h4.symm.trans hn)
    subst hln
    by_cases hroom : len + sl ≤ cap
    · have hfit : off + len * i.size + ys.length ≤ cs.size := by
        rw [hm, Nat.add_assoc, ← Nat.add_mul]
        exact Nat.le_trans (Nat.add_le_add_left (Nat.mul_le_mul_right _ hroom) off) h7
      have hadd : (⟨b, off, none⟩ : Addr).add (len * i.size) = ⟨b, off + len * i.size, none⟩ := by unfold Addr.add; split <;> simp_all
      have hst := run_storeCells_at P b (off + len * i.size) T ys 0 cs w h3 (by simpa using hfit) h1
      simp only [Nat.add_zero] at hst
      refine ⟨_, w.setRow b (cs.toList.take (off + len * i.size) ++ ys ++ cs.toList.drop (off + len * i.size + ys.length)).toArray, [b], ?_, .inr ⟨b, off, len + sl, cap, _, T, rfl, rfl, setRow_heap w b cs _ T (0, 0) h3, ?_, hroom, h6, ?_, ?_⟩, keep_setRow w b _, by simp, ?_⟩
      · simp [Builtin.append_, run_underlying ht, run_underlying hu, hls, sizeOf, typeInfo, hi, Builtin.lenOf, hroom, hfs, hadd, hst]
      · rw [List.length_append, hn, hm, Nat.add_mul]
      · simp only [List.size_toArray, List.length_append, List.length_take, List.length_drop, Array.length_toList]
        omega
      · intro j u hj
        have hlus : us.length = len * i.size := hn
        simp only [List.getElem?_toArray]
        rcases Nat.lt_or_ge j us.length with hjl | hjl
        · rw [List.getElem?_append_left hjl] at hj
          rw [List.append_assoc, List.getElem?_append_left (by simp; omega), List.getElem?_take, if_pos (by omega)]
          simpa using h8 j u hj
        · rw [List.getElem?_append_right hjl] at hj
          have hjy : j - us.length < ys.length := (List.getElem?_eq_some_iff.1 hj).1
          have hl1 : (List.take (off + len * i.size) cs.toList).length = off + len * i.size := by simp; omega
          rw [List.getElem?_append_left (by rw [List.length_append, hl1]; omega), List.getElem?_append_right (by rw [hl1]; omega), hl1]
          rw [show off + j - (off + len * i.size) = j - us.length by omega]
          exact hj
      · intro q hq
        have : q = b := by simpa using hq
        subst this
        exact ⟨.inl (by simp), by simpa using (Array.getElem?_eq_some_iff.1 h3).1⟩
    · have hold : (Builtin.firstCells i.size len (.slice (some ⟨b, off, none⟩) len cap)).run P w.drew = .ok us.toArray w.drew :=
        run_firstCells_some w.drew i.size len _ len cap us h4 (fun j u hj => by
          have := h8 j u hj
          have hc : w.drew.cell? ⟨b, off + j, none⟩ = some u := by
            rw [cell_of_row w.drew b _ cs T (0, 0) h3]; exact this
          unfold Addr.add; split
          · rename_i e; subst e; simpa using hc
          · exact hc)
      have h63' : ¬ (9223372036854775807 < ((len : Int) + (sl : Int))) := by omega
      have h48' : ¬ (281474976710656 < Builtin.nextslicecap (len + sl) cap * i.bytes) := by have := hbound cap (by omega); omega
      refine ⟨_, _, [w.heap.size], ?_, grow cap (by omega), hk _ _, by simp, by simp⟩
      simp [Builtin.append_, run_underlying ht, run_underlying hu, hls, sizeOf, typeInfo, zeroValue, hi, hz, Builtin.lenOf, hroom, h63', h48', Question.forced, hold, hfs', newRow, grownCap]
      congr 2
      apply Array.ext'
      simp [List.append_assoc]

section
variable {c : Cx} {E : Env} {L L' : List Asn}
theorem eo_append_str {t u : TypeId} {x y : Operand} {v : Value} {xs : List UInt8} {s : Str} (ht : aok c.P t 1 = true) (hu : c.P.underlying u = some .string) (hp : Pick (ownF v xs) L L') (hx : ev E x = some v) (hy : ev E y = some (bs s)) (hlen : xs.length + s.b.length ≤ 1099511627776) :
    EffOp c E L (.call { callee := .builtin .append, args := #[x, y], argTypes := #[t, u] }) (fun h : Hd => sl h) (fun h => ownF (sl h) (xs ++ s.b) :: L') := fun a w o hf hw ho => by
  obtain ⟨e, i, z, h1, h2, h3, h4, h5, h6⟩ := aok_spec ht
  have hw' := hw.pick hp
  obtain ⟨kk, fp, ⟨f1, f2, rfl, hA, hL⟩, hnd, hb⟩ := hw'
  have hpos : 0 < i.size := by rw [h5]; exact Nat.one_pos
  obtain ⟨v', w', f', hr, hO, hK, hN, hB⟩ := append_core_s (P := c.P) (ty := o.type) h1 hu h2 h3 h4 hpos h6 h5 (n := xs.length) (by rw [h5]; exact OwL.flat.1 hA) (by rw [encs_len, h5]; rfl) s.b hlen
  obtain ⟨h', rfl⟩ := hO.hd
  refine ⟨h', w', ?_, ?_⟩
  · have hr' := hr
    unfold bs at hy
    simp [execOp, ho, resolve, invoke, builtin, hf.eval hx, hf.eval hy, hr']
  · refine SH.step (L0 := [ownF v xs]) (L1 := [ownF (sl h') (xs ++ s.b)]) (hw.pick hp) fun fq hfq _ _ => ?_
    obtain ⟨g1, g2, rfl, hg, hg2⟩ := hfq
    have e2 : g2 = [] := hg2
    subst e2
    have eg : OwS w g1 i.size v (encs xs) := by rw [h5]; exact OwL.flat.1 hg
    obtain ⟨v2, w2, f2', hr2, hO2, hK2, hN2, hB2⟩ := append_core_s (P := c.P) (ty := o.type) h1 hu h2 h3 h4 hpos h6 h5 (n := xs.length) eg (by rw [encs_len, h5]; rfl) s.b hlen
    rw [hr] at hr2
    injection hr2 with ev ew
    rw [← ev] at hO2
    subst ew
    simp only [List.append_nil]
    refine ⟨hK2, f2', ⟨f2', [], by simp, ?_, rfl⟩, hN2, hB2⟩
    refine OwL.flat.2 ?_
    rw [h5] at hO2
    rw [encs_append]; exact hO2
end
end Go.Proofs.YtkahnmhkfmjomadDoor
