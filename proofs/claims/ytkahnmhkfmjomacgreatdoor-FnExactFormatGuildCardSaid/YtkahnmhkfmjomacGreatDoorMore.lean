/-
  More operations: elements of lists whose elements lead on, make and stores for them, variables of a caller, function values.
-/
import Derived.Test.YtkahnmhkfmjomacGreatDoorDraw
namespace Go.Proofs.YtkahnmhkfmjomacGreatDoor
open Go Go.RowKit

theorem sl_inj {x y : Hd} (h : sl x = sl y) : x = y := by
  cases x; cases y; simp [sl] at h; simp [h]
section
variable {c : Cx} {E : Env} {L L' : List Asn}

theorem po_sfldr {α : Type} [Rep α] {t : TypeId} {x : Operand} {f k i o : Nat} {v : Value} {us : List Value} {xs : List α} (h : Rds c L v us xs) (hi : i < xs.length) (hf : fldo c.P t f = some k) (hx : ev E x = some (sptr v i o (Rep.sz α))) :
    PureOp c E L (.fieldAddr t x f) (sptr v i (o + k) (Rep.sz α)) := fun a w o' hfit hw ho => by
  obtain ⟨⟨a', len, cap, rfl, h2, _, _, h5⟩, hl, _⟩ := h.on hw
  have e : len = xs.length := Nat.eq_of_mul_eq_mul_right (Rep.pos (α := α)) (h2.symm.trans hl)
  obtain ⟨b, off, rfl, _⟩ := h5 (by omega)
  exact po_sfld rfl hf hx a w o' hfit hw ho

/-- An element that leads on is opened: what holds of it, and that such a world is. -/
theorem wl_elem {α : Type} [Rep α] {v : Value} {us : List Value} {xs : List α} {k : Nat} {ops : Array Oper} {Q : Post} {rest : List Oper} (h : Rds c L v us xs) (hk : k < xs.length)
    (K : (∃ w B, Rep.rd w B (chunk us k (Rep.sz α)) (gx xs k)) → WL c E L ops Q rest) : WL c E L ops Q rest := fun a w hf hw =>
  K ⟨w, dm w [], (h.on hw).2.2 k _ (gx_some hk)⟩ a w hf hw
theorem wa_elem {α : Type} [Rep α] {v : Value} {us : List Value} {xs : List α} {k : Nat} {S : List Asn} {ops : Array Oper} {Q : Post} {q fuel : Nat} {listed : Array Bool} (h : Rds c L v us xs) (hk : k < xs.length)
    (K : (∃ w B, Rep.rd w B (chunk us k (Rep.sz α)) (gx xs k)) → WA c E L S ops Q q fuel listed) : WA c E L S ops Q q fuel listed := fun a w hf hw =>
  K ⟨w, dm w [], (h.on hw).2.2 k _ (gx_some hk)⟩ a w hf hw
theorem rds_elem {α : Type} [Rep α] {W : World → List Nat → Prop} {v : Value} {us : List Value} {xs : List α} {k : Nat} (h : Rg W v us xs) (hk : k < xs.length) : ∀ w fp, W w fp → Rep.rd w (dm w fp) (chunk us k (Rep.sz α)) (gx xs k) :=
  fun w fp hw => (h w fp hw).2.2 k _ (gx_some hk)
/-! make -/
def mkinfo (P : Program) (t : TypeId) : Option (Nat × Bool × List Value) := match P.underlying t with
  | some (.slice e) => (P.info? e).bind fun i => i.zero.map fun z => (i.size, decide (i.bytes ≤ 128), z.cells.toList)
  | _ => none
theorem mkinfo_some {P : Program} {t : TypeId} {n : Nat} {zs : List Value} (h : mkinfo P t = some (n, true, zs)) : ∃ e i z, P.underlying t = some (.slice e) ∧ P.info? e = some i ∧ i.zero = some z ∧ z.cells = zs.toArray ∧ i.size = n ∧ i.bytes ≤ 128 := by
  unfold mkinfo at h
  split at h
  · rename_i e he
    simp only [Option.bind_eq_some_iff, Option.map_eq_some_iff, Prod.mk.injEq, decide_eq_true_eq] at h
    obtain ⟨i, hi, z, hz, h1, h2, h3⟩ := h
    exact ⟨e, i, z, he, hi, hz, by rw [← h3], h1, h2⟩
  · cases h
theorem eo_make_ {α : Type} [Flat α] {t : TypeId} {x y : Operand} {n sz : Nat} (z0 : α) {zs : List Value} (h : mkinfo c.P t = some (sz, true, zs)) (hzs : Flat.enc z0 = zs) (hx : ev E x = some (.int .i64 (n : Int))) (hy : ev E y = some (.int .i64 (n : Int))) (hn : n ≤ 1099511627776) (hs : Nat.beq sz (Flat.sz α) = true) :
    EffOp c E L (.makeSlice t x y) (fun h : Hd => sl h) (fun h => ownF (sl h) (List.replicate n z0) :: L) := by
  obtain ⟨e, i, z, h1, h2, h3, h4, h5, h6⟩ := mkinfo_some h
  exact eo_make z0 h1 h2 h3 (by rw [h4, hzs]) (h5.trans (Nat.eq_of_beq_eq_true hs)) h6 hx hy hn

def cellsN (n : Nat) (zs : List Value) : List Value := (List.replicate n zs).flatten
theorem cellsN_len (n : Nat) (zs : List Value) : (cellsN n zs).length = n * zs.length := by simp [cellsN]
theorem cellsN_get {n j : Nat} {zs : List Value} {u : Value} (h : (cellsN n zs)[j]? = some u) : zs[j % zs.length]? = some u := by
  induction n generalizing j with
  | zero => simp [cellsN] at h
  | succ n ih =>
    simp only [cellsN, List.replicate_succ, List.flatten_cons] at h ih
    rcases Nat.lt_or_ge j zs.length with hj | hj
    · rw [List.getElem?_append_left hj] at h
      rw [Nat.mod_eq_of_lt hj]; exact h
    · rw [List.getElem?_append_right hj] at h
      have := ih h
      rw [Nat.mod_eq_sub_mod hj]; exact this
theorem cellsN_chunk {zs : List Value} : ∀ {n k : Nat}, k < n → chunk (cellsN n zs) k zs.length = zs
  | n + 1, 0, _ => by simp [chunk, cellsN, List.replicate_succ]
  | n + 1, k + 1, h => by
    have ih := cellsN_chunk (zs := zs) (n := n) (k := k) (by omega)
    simp only [chunk, cellsN, List.replicate_succ, List.flatten_cons] at ih ⊢
    rw [show (k + 1) * zs.length = zs.length + k * zs.length by rw [Nat.add_mul]; omega, ← List.drop_drop, List.drop_left]
    exact ih
theorem eo_maken {α : Type} [Rep α] {t : TypeId} {x y : Operand} {n sz : Nat} (z0 : α) {zs : List Value} (h : mkinfo c.P t = some (sz, true, zs)) (hz : ∀ w, Rep.ow w [] zs z0) (hx : ev E x = some (.int .i64 (n : Int))) (hy : ev E y = some (.int .i64 (n : Int))) (hn : n ≤ 1099511627776) (hsz : Nat.beq sz (Rep.sz α) = true) :
    EffOp c E L (.makeSlice t x y) (fun h : Hd => sl h) (fun h => own (sl h) (cellsN n zs) (List.replicate n z0) :: L) := fun a w o hf hs ho => by
  obtain ⟨e, i, z, h1, h2, h3, h4, h5, h6⟩ := mkinfo_some h
  have hsz' : i.size = Rep.sz α := h5.trans (Nat.eq_of_beq_eq_true hsz)
  have hzl : zs.length = Rep.sz α := Rep.ow_len (hz w)
  have hb : n * i.bytes ≤ 140737488355328 := by have := Nat.mul_le_mul hn h6; omega
  have hr := run_make (P := c.P) w t e i z h1 h2 h3 .i64 .i64 n n (by omega) (by omega) (by rw [← Int.natCast_mul, Nat.mul_comm]; omega) (by omega)
  simp only [Int.toNat_natCast] at hr
  refine ⟨⟨some ⟨w.heap.size, 0, none⟩, n, n⟩, w.alloc (.cells (madeCells z.cells (n * i.size)) e), by simp [execOp, ho, hf.eval hx, hf.eval hy, hr, sl], ?_⟩
  refine SH.step (L0 := []) (L1 := [own (sl ⟨some ⟨w.heap.size, 0, none⟩, n, n⟩) (cellsN n zs) (List.replicate n z0)]) hs fun fp _ _ _ => ⟨keep_alloc w _ fp, [w.heap.size], ⟨[w.heap.size], [], rfl,
    ⟨[w.heap.size], List.replicate n [], .inr ⟨w.heap.size, 0, n, n, _, e, rfl, rfl, heap_alloc_new w _, ?_, Nat.le_refl _, by unfold maxLen; omega, ?_, ?_⟩, ?_, by simp, by simp, ?_⟩, rfl⟩, by simp, by simp⟩
  · rw [cellsN_len, hzl]
  · simp [madeCells, hsz']
  · intro j u hj
    have hlt : j < n * Rep.sz α := by
      have := (List.getElem?_eq_some_iff.1 hj).1
      rw [cellsN_len, hzl] at this; exact this
    have h := cellsN_get hj
    have hpos := Rep.pos (α := α)
    have hzc : z.cells.size = Rep.sz α := by rw [h4]; simp [hzl]
    simp only [Nat.zero_add, madeCells, hsz']
    rw [Array.getElem?_map, Array.getElem?_range, if_pos hlt]
    simp only [Option.map_some, hzc]
    congr 1
    rw [h4]
    rw [hzl] at h
    have hm : j % Rep.sz α < zs.length := by rw [hzl]; exact Nat.mod_lt _ hpos
    rw [List.getElem?_eq_getElem hm] at h
    injection h with h
    simp [hm, h]
  · rw [cellsN_len, hzl]; simp
  · intro k x hk
    have hlt : k < n := by simpa using (List.getElem?_eq_some_iff.1 hk).1
    have hx' : x = z0 := by simp [hlt] at hk; exact hk.symm
    refine ⟨[], by simp [hlt], ?_⟩
    rw [← hzl, cellsN_chunk hlt, hx']
    exact hz _

/-! a store of a whole element that leads on -/
theorem flatten_set {fs : List (List Nat)} {g : List Nat} : ∀ {k : Nat}, (fs.flatten ++ g).Nodup → (fs.set k g).flatten.Nodup ∧ ∀ b ∈ (fs.set k g).flatten, b ∈ fs.flatten ++ g := by
  induction fs with
  | nil => intro k _; simp
  | cons f fs ih =>
    intro k h
    simp only [List.flatten_cons, List.append_assoc] at h
    obtain ⟨h1, h2, h3⟩ := List.nodup_append.1 h
    cases k with
    | zero =>
      simp only [List.set_cons_zero, List.flatten_cons]
      exact ⟨(List.perm_append_comm.nodup_iff).1 h2, fun b hb => by
        rcases List.mem_append.1 hb with hb | hb
        · exact List.mem_append_right _ hb
        · exact List.mem_append_left _ (List.mem_append_right _ hb)⟩
    | succ k =>
      obtain ⟨i1, i2⟩ := ih (k := k) h2
      simp only [List.set_cons_succ, List.flatten_cons]
      refine ⟨List.nodup_append.2 ⟨h1, i1, fun a ha b hb e => h3 a ha b (i2 b hb) e⟩, fun b hb => ?_⟩
      rcases List.mem_append.1 hb with hb | hb
      · exact List.mem_append_left _ (List.mem_append_left _ hb)
      · rw [List.append_assoc]; exact List.mem_append_right _ (i2 b hb)
theorem chunk_get {us : List Value} {k sz i : Nat} : (chunk us k sz)[i]? = if i < sz then us[k * sz + i]? else none := by
  unfold chunk
  rw [List.getElem?_take]
  split
  · rw [List.getElem?_drop]
  · rfl
theorem chunk_put {us vs : List Value} {k j m : Nat} (hu : us.length = m * vs.length) (hk : k < m) : chunk (put_ us (k * vs.length) vs) j vs.length = if j = k then vs else chunk us j vs.length := by
  have hfit : k * vs.length + vs.length ≤ us.length := by rw [hu, ← Nat.succ_mul]; exact Nat.mul_le_mul_right _ hk
  apply List.ext_getElem?
  intro i
  rw [chunk_get]
  split
  · rename_i hi
    rw [put_get hfit]
    by_cases hjk : j = k
    · subst hjk
      rw [if_pos ⟨by omega, by omega⟩, if_pos rfl]
      congr 1; omega
    · rw [if_neg hjk, chunk_get, if_pos hi, if_neg]
      rintro ⟨h1, h2⟩
      rcases Nat.lt_or_gt_of_ne hjk with h | h
      · have := Nat.mul_le_mul_right vs.length (show j + 1 ≤ k from h)
        rw [Nat.add_mul] at this; omega
      · have := Nat.mul_le_mul_right vs.length (show k + 1 ≤ j from h)
        rw [Nat.add_mul] at this; omega
  · rename_i hi
    by_cases hjk : j = k
    · rw [if_pos hjk, List.getElem?_eq_none (by omega)]
    · rw [if_neg hjk, chunk_get, if_neg hi]
theorem so_ownn {α : Type} [Rep α] {L1 L2 : List Asn} {t : TypeId} {x y : Operand} {b : Bool} {n k : Nat} {v u : Value} {us vs : List Value} {xs : List α} {x' : α} (ht : tyk c.P t = some (b, n)) (hp : Pick (own v us xs) L L1) (hp2 : Pick (owc vs x') L1 L2)
    (hx : ev E x = some (sptr v k 0 (Rep.sz α))) (hy : ev E y = some u) (hu : u.cells = vs.toArray) (hl : Nat.beq vs.length n = true) (h1 : vs.all (·.oneCell') = true) (hk : k < xs.length) :
    SkipOp c E L (.store t x y) (own v (put_ us (k * vs.length) vs) (xs.set k x') :: L2) := fun a w o' hf hs ho' => by
  have pick2 : ∀ {fp}, sat w L fp → ∃ fp', sat w (own v us xs :: owc vs x' :: L2) fp' ∧ fp'.Perm fp := fun {fp} h => by
    obtain ⟨fp', ⟨f1, f2, rfl, hA, hL⟩, hperm⟩ := hp w fp h
    obtain ⟨fp2, h2', hperm2⟩ := hp2 w f2 hL
    exact ⟨f1 ++ fp2, ⟨f1, fp2, rfl, hA, h2'⟩, (hperm2.append_left f1).trans hperm⟩
  have hw2 : SH c.w0 c.ex (own v us xs :: owc vs x' :: L2) w := by
    obtain ⟨k, fp, g1, g2, g3⟩ := hs
    obtain ⟨f', g4, hperm⟩ := pick2 g1
    exact ⟨k, f', g4, hperm.nodup_iff.2 g2, fun q hq => g3 q (hperm.mem_iff.1 hq)⟩
  have hl' : vs.length = n := Nat.eq_of_beq_eq_true hl
  have hvl : vs.length = Rep.sz α := by
    obtain ⟨_, fp, ⟨f1, f2, rfl, _, g1, g2, rfl, hc, _⟩, _⟩ := hw2
    exact Rep.ow_len hc
  have key : ∀ f, OwS w f (Rep.sz α) v us → us.length = xs.length * Rep.sz α → ∃ q, f = [q] ∧ ∃ cs : Array Value, (execOp a.eval o').run c.P w = .ok .skip (w.setRow q cs) ∧ OwS (w.setRow q cs) f (Rep.sz α) v (put_ us (k * vs.length) vs) := fun f hO hlu => by
    have hlt : k * vs.length + vs.length ≤ us.length := by rw [hlu, hvl, ← Nat.succ_mul]; exact Nat.mul_le_mul_right _ hk
    rcases hO with ⟨_, h2, _⟩ | ⟨q, off, len, cap, cs, T, rfl, rfl, h3, h4, h5, h6, h7, h8⟩
    · rw [h2] at hlt
      have hps := Rep.pos (α := α)
      have hz : k * vs.length + vs.length ≤ 0 := hlt
      omega
    · have hfit : off + (k * vs.length) + n ≤ cs.toList.length := by
        have : us.length ≤ cap * Rep.sz α := by rw [h4]; exact Nat.mul_le_mul_right _ h5
        simp; omega
      have hr := run_storeVar (P := c.P) ht (o := off + (k * vs.length)) (cs := cs.toList) (by simpa using h3) hu hl' hfit (by simpa using h1)
      have hp2 : (cs.toList.take (off + (k * vs.length)) ++ vs ++ cs.toList.drop (off + (k * vs.length) + n)) = put_ cs.toList (off + (k * vs.length)) vs := by rw [put_, hl']
      refine ⟨q, rfl, (put_ cs.toList (off + (k * vs.length)) vs).toArray, ?_, .inr ⟨q, off, len, cap, _, T, rfl, rfl, setRow_heap w q _ _ T (0, 0) h3, ?_, h5, h6, ?_, ?_⟩⟩
      · rw [hp2] at hr
        rw [hvl] at hr
        simp [execOp, ho', Instr.storeAt, Instr.sureAddr, hf.eval hx, hf.eval hy, sptr, hvl, hr]
      · rw [put_len hlt, h4]
      · rw [List.size_toArray, put_len (by omega)]; simpa using h7
      · intro j z hj
        rw [put_get hlt] at hj
        rw [List.getElem?_toArray, put_get (by omega)]
        split at hj
        · rename_i h
          rw [if_pos (by omega), show off + j - (off + (k * vs.length)) = j - (k * vs.length) by omega]
          exact hj
        · rename_i h
          rw [if_neg (by omega)]
          simpa using h8 j z hj
  obtain ⟨kk, fp, ⟨f1, f2, rfl, ⟨f0, fs, hA, hAl, _⟩, hL⟩, hnd, hb⟩ := hw2
  obtain ⟨q, rfl, cs, hr, hO⟩ := key f0 hA hAl
  refine ⟨w.setRow q cs, hr, ?_⟩
  have hw2 : SH c.w0 c.ex (own v us xs :: owc vs x' :: L2) w := by
    obtain ⟨k, fp, g1, g2, g3⟩ := hs
    obtain ⟨f', g4, hperm⟩ := pick2 g1
    exact ⟨k, f', g4, hperm.nodup_iff.2 g2, fun q hq => g3 q (hperm.mem_iff.1 hq)⟩
  refine SH.step (L0 := [own v us xs, owc vs x']) (L1 := [own v (put_ us (k * vs.length) vs) (xs.set k x')]) (L := L2) (ex := c.ex) (w0 := c.w0) hw2 fun fq hfq hnd hltq => ?_
  obtain ⟨g1, g2, rfl, ⟨f0, fs, k1, k2, rfl, k4, k5⟩, g3, g4, rfl, hc, hg4⟩ := hfq
  have e2 : g4 = [] := hg4
  subst e2
  obtain ⟨q', rfl, cs', hr', hO'⟩ := key f0 k1 k2
  rw [hr] at hr'
  injection hr' with _ ew
  rw [ew]
  have hnd1 := List.nodup_append.1 (by simpa using hnd : ([q'] ++ (fs.flatten ++ g3)).Nodup)
  have hne : ∀ z, z ∈ fs.flatten ++ g3 → z ≠ q' := fun z hz e => hnd1.2.2 q' (by simp) z hz e.symm
  have hkeep : ∀ z, z ∈ fs.flatten ++ g3 → (w.setRow q' cs').heap[z]? = w.heap[z]? := fun z hz => setRow_other w q' z cs' (hne z hz)
  obtain ⟨s1, s2⟩ := flatten_set (k := k) hnd1.2.1
  refine ⟨?_, [q'] ++ (fs.set k g3).flatten, ⟨[q'] ++ (fs.set k g3).flatten, [], by simp, ⟨[q'], fs.set k g3, hO', ?_, rfl, by simp [k4], fun j z hz => ?_⟩, rfl⟩, ?_, fun z hz => ?_⟩
  · have := keep_setRow w q' cs'
    exact ⟨this.os, this.tape, this.output, this.size, fun i hi hni => this.block i hi (fun h => hni (by simp at h; subst h; simp))⟩
  · have hlt : k * vs.length + vs.length ≤ us.length := by rw [k2, hvl, ← Nat.succ_mul]; exact Nat.mul_le_mul_right _ hk
    rw [put_len hlt, k2, List.length_set]
  · rw [← hvl, chunk_put (m := xs.length) (by rw [k2, hvl]) hk]
    by_cases hjk : j = k
    · subst hjk
      rw [if_pos rfl]
      rw [List.getElem?_set_self hk] at hz
      injection hz with hz
      subst hz
      exact ⟨g3, by rw [List.getElem?_set_self (by rw [k4]; exact hk)], Rep.ow_keep hc (fun z hz => hkeep z (List.mem_append_right _ hz))⟩
    · rw [if_neg hjk]
      rw [List.getElem?_set_ne (Ne.symm hjk)] at hz
      obtain ⟨g, hg, ho⟩ := k5 j z hz
      refine ⟨g, by rw [List.getElem?_set_ne (Ne.symm hjk)]; exact hg, ?_⟩
      rw [hvl]
      exact Rep.ow_keep ho (fun z hz => hkeep z (List.mem_append_left _ (List.mem_flatten.2 ⟨g, List.mem_of_getElem? hg, hz⟩)))
  · refine List.nodup_append.2 ⟨by simp, s1, fun a ha z hz e => ?_⟩
    have ha' : a = q' := by simpa using ha
    exact hne z (s2 z hz) (by rw [← e, ha'])
  · have hz' : z ∈ [q'] ++ (fs.flatten ++ g3) := by
      rcases List.mem_append.1 hz with h | h
      · exact List.mem_append_left _ h
      · exact List.mem_append_right _ (s2 z h)
    have hz2 : z ∈ ([q'] ++ fs.flatten) ++ (g3 ++ []) := by simpa using hz'
    exact ⟨.inl hz2, by
      have := hltq z hz2
      simpa [World.setRow] using this⟩

/-! guards on what was left out -/
theorem wa_undef {S : List Asn} {Q : Post} {q fuel : Nat} {ops : Array Oper} {listed : Array Bool} {d : Nat} {op : Op} {ty : TypeId} {pos : String} {aft : Array Edge} (i : Nat) {j dj : Nat} {oj : Oper} {b' : Bool} (hi : ops[i]? = some ⟨some d, op, ty, pos, aft, some (j, b')⟩) (hj : ops[j]? = some oj) (hdj : oj.dst = some dj) (hv : lk E dj = some undef) (hS : Some_ S L) (hd : Nat.blt d c.n = true) (ht : tk1 ops q listed i = true)
    (hQ : ∀ p a w, Q (.panic p) (a.put (some d) undef) w → Q (.panic p) a w) (k : WA c ((d, undef) :: E) L S ops Q q fuel (listed.setIfInBounds i true)) : WA c E L S ops Q q (fuel + 1) listed := fun a w hf hw => by
  have h1 := hf.look dj _ hv
  have hy : yielded ops a.tmps j = none := by simp [yielded, hj, hdj, h1, undef]
  have hw' : Region.wanted (⟨some d, op, ty, pos, aft, some (j, b')⟩ : Oper) (yielded ops a.tmps) = false := by simp [Region.wanted, hy]
  exact wa_take hi ht hQ (.inr ⟨hw', rfl⟩) (hw.weak hS) (k _ _ (hf.put undef hd) hw)

/-! structures of integers compared -/
def beqs : List Int → List Int → Bool
  | a :: r, b :: s => a == b && beqs r s
  | _, _ => true
/-! variables of a caller's, which the call only reads -/
def Bx (w : World) (b : Nat) (cs : List Value) : Prop := ∃ T, w.heap[b]? = some (.cells cs.toArray T (0, 0))
theorem Bx.keep {w w' : World} {b : Nat} {cs : List Value} (h : Bx w b cs) (hk : Keep [] w w') : Bx w' b cs := by
  obtain ⟨T, h⟩ := h
  exact ⟨T, (hk.block b (Array.getElem?_eq_some_iff.1 h).1 (by simp)).trans h⟩
theorem RdL.later {α : Type} [Rep α] {w w' : World} {v : Value} {us : List Value} {xs : List α} (h : RdL w (dm w []) v us xs) (hk : Keep [] w w') : RdL w' (dm w' []) v us xs := h.keep (fun k hk' => hk.block k hk'.1 (by simp)) (fun k hk' => ⟨Nat.lt_of_lt_of_le hk'.1 hk.size, by simp⟩)
/-! function values -/
def FnAt (P : Program) (f : Nat) : Prop := ∃ fn cd, P.funcs[f]? = some fn ∧ fn.body = some cd ∧ (fn.name == "runtime.NumGoroutine") = false
theorem gx_set {α : Type} [Rep α] {xs : List α} {k : Nat} {e : α} (hk : k < xs.length) : gx (xs.set k e) k = e := by
  simp [gx, List.getD, hk]
/-- A second store into one element. -/
theorem so_own2 {α : Type} [Flat α] {t : TypeId} {x y : Operand} {b : Bool} {n k o : Nat} {v u : Value} {vs : List Value} {X : List α} {e x' : α} (ht : tyk c.P t = some (b, n)) (hp : Pick (ownF v (X.set k e)) L L') (hx : ev E x = some (sptr v k o (Flat.sz α))) (hy : ev E y = some u)
    (hu : u.cells = vs.toArray) (hl : Nat.beq vs.length n = true) (ho : Nat.ble (o + n) (Flat.sz α) = true) (h1 : vs.all (·.oneCell') = true) (hk : k < X.length) (hx' : put_ (Flat.enc e) o vs = Flat.enc x') :
    SkipOp c E L (.store t x y) (ownF v (X.set k x') :: L') := by
  have h := so_own (c := c) (xs := X.set k e) (x' := x') ht hp hx hy hu hl ho h1 (by rw [List.length_set]; exact hk) (by rw [gx_set hk]; exact hx')
  rwa [List.set_set] at h
end
end Go.Proofs.YtkahnmhkfmjomacGreatDoor
