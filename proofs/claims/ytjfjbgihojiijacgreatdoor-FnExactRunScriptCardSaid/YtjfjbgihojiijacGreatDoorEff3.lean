/-
  make, stores into elements, cuts of slices, strings, bits, and regions that draw their order.
-/
import Derived.Test.YtjfjbgihojiijacGreatDoorEff2
namespace Go.Proofs.YtjfjbgihojiijacGreatDoor
open Go Go.RowKit

theorem Zsw {us vs : List Value} {p j : Nat} (hp : p + vs.length ≤ us.length) : (put_ us p vs)[j]? = if p ≤ j ∧ j < p + vs.length then vs[j - p]? else us[j]? := by
  unfold put_
  have hl : (us.take p).length = p := by simp; omega
  rcases Nat.lt_or_ge j p with h | h
  · rw [if_neg (by omega), List.append_assoc, List.getElem?_append_left (by rw [hl]; exact h), List.getElem?_take, if_pos h]
  · rcases Nat.lt_or_ge j (p + vs.length) with h2 | h2
    · rw [if_pos ⟨h, h2⟩, List.getElem?_append_left (by rw [List.length_append, hl]; exact h2), List.getElem?_append_right (by rw [hl]; exact h), hl]
    · rw [if_neg (by omega), List.getElem?_append_right (by rw [List.length_append, hl]; exact h2), List.length_append, hl, List.getElem?_drop]
      congr 1; omega
theorem ZsD {us vs : List Value} {p : Nat} (hp : p + vs.length ≤ us.length) : (put_ us p vs).length = us.length := by
  unfold put_; simp; omega
theorem Zq6 {a b vs : List Value} {p : Nat} (hp : p + vs.length ≤ a.length) : put_ (a ++ b) p vs = put_ a p vs ++ b := by
  unfold put_
  rw [List.take_append_of_le_length (by omega), List.drop_append_of_le_length (by omega), List.append_assoc, List.append_assoc, List.append_assoc]
theorem Zqy {a b vs : List Value} {p : Nat} : put_ (a ++ b) (a.length + p) vs = a ++ put_ b p vs := by
  unfold put_
  rw [List.take_length_add_append, Nat.add_assoc, List.drop_length_add_append]
  simp [List.append_assoc]
theorem ZrP {α : Type} [Flat α] {vs : List Value} {o : Nat} {x' : α} (ho : o + vs.length ≤ Flat.sz α) : ∀ {xs : List α} {k : Nat}, k < xs.length → put_ (Flat.enc (gx xs k)) o vs = Flat.enc x' → encs (xs.set k x') = put_ (encs xs) (k * Flat.sz α + o) vs
  | [], k, h, _ => by simp at h
  | y :: ys, 0, _, h => by
    have h' : put_ (Flat.enc y) o vs = Flat.enc x' := h
    simp only [List.set_cons_zero, encs, List.flatMap_cons, Nat.zero_mul, Nat.zero_add]
    rw [Zq6 (by rw [Flat.len]; exact ho), h']
  | y :: ys, k + 1, h, h2 => by
    have ih := ZrP ho (xs := ys) (k := k) (by simpa using h) h2
    simp only [List.set_cons_succ, encs, List.flatMap_cons] at ih ⊢
    rw [ih, show (k + 1) * Flat.sz α + o = (Flat.enc y).length + (k * Flat.sz α + o) by rw [Flat.len, Nat.add_mul]; omega, Zqy]

section
variable {c : Cx} {E : Env} {L L' : List Asn}

theorem Zhx {α : Type} [Flat α] {t : TypeId} {x y : Operand} {b : Bool} {n k o : Nat} {v u : Value} {vs : List Value} {xs : List α} {x' : α} (ht : tyk c.P t = some (b, n)) (hp : Pick (ownF v xs) L L') (hx : ev E x = some (sptr v k o (Flat.sz α))) (hy : ev E y = some u)
    (hu : u.cells = vs.toArray) (hl : Nat.beq vs.length n = true) (ho : Nat.ble (o + n) (Flat.sz α) = true) (h1 : vs.all (·.oneCell') = true) (hk : k < xs.length) (hx' : put_ (Flat.enc (gx xs k)) o vs = Flat.enc x') :
    Zo9 c E L (.store t x y) (ownF v (xs.set k x') :: L') := fun a w o' hf hs ho' => by
  have hs' := hs.pick hp
  have hl' : vs.length = n := Nat.eq_of_beq_eq_true hl
  have ho2 : o + vs.length ≤ Flat.sz α := by rw [hl']; exact Nat.le_of_ble_eq_true ho
  have hset := ZrP ho2 hk hx'
  have hlt : k * Flat.sz α + o + vs.length ≤ (encs xs).length := by
    rw [ZbW]
    have := Nat.mul_le_mul_right (Flat.sz α) (show k + 1 ≤ xs.length from hk)
    rw [Nat.add_mul] at this; omega
  have key : ∀ f, OwS w f (Flat.sz α) v (encs xs) → ∃ q, f = [q] ∧ ∃ cs : Array Value, (execOp a.eval o').run c.P w = .ok .skip (w.setRow q cs) ∧ OwS (w.setRow q cs) f (Flat.sz α) v (encs (xs.set k x')) := fun f hO => by
    rcases hO with ⟨_, h2, _⟩ | ⟨q, off, len, cap, cs, T, rfl, rfl, h3, h4, h5, h6, h7, h8⟩
    · have : xs.length = 0 := by
        have := ZbW xs
        rw [h2] at this
        simp at this
        rcases Nat.mul_eq_zero.1 (by simpa using this.symm : xs.length * Flat.sz α = 0) with h | h
        · exact h
        · have := Flat.pos (α := α); omega
      omega
    · have hfit : off + (k * Flat.sz α + o) + n ≤ cs.toList.length := by
        have h4' := h4
        have : (encs xs).length ≤ cap * Flat.sz α := by rw [h4']; exact Nat.mul_le_mul_right _ h5
        simp; omega
      have hr := Zl6 (P := c.P) ht (o := off + (k * Flat.sz α + o)) (cs := cs.toList) (by simpa using h3) hu hl' hfit (by simpa using h1)
      have hp2 : (cs.toList.take (off + (k * Flat.sz α + o)) ++ vs ++ cs.toList.drop (off + (k * Flat.sz α + o) + n)) = put_ cs.toList (off + (k * Flat.sz α + o)) vs := by rw [put_, hl']
      refine ⟨q, rfl, (put_ cs.toList (off + (k * Flat.sz α + o)) vs).toArray, ?_, .inr ⟨q, off, len, cap, _, T, rfl, rfl, setRow_heap w q _ _ T (0, 0) h3, ?_, h5, h6, ?_, ?_⟩⟩
      · rw [hp2] at hr
        simp [execOp, ho', Instr.storeAt, Instr.sureAddr, hf.eval hx, hf.eval hy, sptr, hr]
      · rw [hset, ZsD hlt, h4]
      · rw [List.size_toArray, ZsD (by rw [hl']; exact hfit)]; simpa using h7
      · intro j z hj
        rw [hset, Zsw hlt] at hj
        rw [List.getElem?_toArray, Zsw (by rw [hl']; exact hfit)]
        split at hj
        · rename_i h
          rw [if_pos (by omega), show off + j - (off + (k * Flat.sz α + o)) = j - (k * Flat.sz α + o) by omega]
          exact hj
        · rename_i h
          rw [if_neg (by omega)]
          simpa using h8 j z hj
  obtain ⟨kk, fp, ⟨f1, f2, rfl, hA, hL⟩, hnd, hb⟩ := hs'
  obtain ⟨q, rfl, cs, hr, hO⟩ := key f1 (OwL.flat.1 hA)
  refine ⟨w.setRow q cs, hr, ?_⟩
  refine SH.step (L0 := [ownF v xs]) (L1 := [ownF v (xs.set k x')]) (hs.pick hp) fun fq hfq hnd hltq => ?_
  obtain ⟨g1, g2, rfl, hg, hg2⟩ := hfq
  have e2 : g2 = [] := hg2
  subst e2
  obtain ⟨q', rfl, cs', hr', hO'⟩ := key g1 (OwL.flat.1 hg)
  rw [hr] at hr'
  injection hr' with _ ew
  rw [ew]
  refine ⟨by simpa using Zkv w q' cs', [q'], ⟨[q'], [], rfl, OwL.flat.2 hO', rfl⟩, by simp, fun z hz => ?_⟩
  have e : z = q' := by simpa using hz
  subst e
  exact ⟨.inl (by simp), by simpa using hltq z (by simp)⟩

theorem ZtD {α : Type} [Flat α] (z0 : α) (n j : Nat) (u : Value) (h : (encs (List.replicate n z0))[j]? = some u) : (Flat.enc z0)[j % Flat.sz α]? = some u := by
  induction n generalizing j with
  | zero => simp [encs] at h
  | succ n ih =>
    simp only [List.replicate_succ, encs, List.flatMap_cons] at h ih
    rcases Nat.lt_or_ge j (Flat.sz α) with hj | hj
    · rw [List.getElem?_append_left (by rw [Flat.len]; exact hj)] at h
      rw [Nat.mod_eq_of_lt hj]; exact h
    · rw [List.getElem?_append_right (by rw [Flat.len]; exact hj), Flat.len] at h
      have := ih (j - Flat.sz α) h
      rw [Nat.mod_eq_sub_mod hj]; exact this
theorem Zvf {α : Type} [Flat α] {t e : TypeId} {i : TypeInfo} {z : Value} {x y : Operand} {n : Nat} (z0 : α) (he : c.P.underlying t = some (.slice e)) (hi : c.P.info? e = some i) (hz : i.zero = some z) (hc : z.cells = (Flat.enc z0).toArray) (hsz : i.size = Flat.sz α) (hby : i.bytes ≤ 128)
    (hx : ev E x = some (.int .i64 (n : Int))) (hy : ev E y = some (.int .i64 (n : Int))) (hn : n ≤ 1099511627776) : Zjo c E L (.makeSlice t x y) (fun h : Hd => sl h) (fun h => ownF (sl h) (List.replicate n z0) :: L) := fun a w o hf hs ho => by
  have hb : n * i.bytes ≤ 140737488355328 := by have := Nat.mul_le_mul hn hby; omega
  have hr := run_make (P := c.P) w t e i z he hi hz .i64 .i64 n n (by omega) (by omega) (by rw [← Int.natCast_mul, Nat.mul_comm]; omega) (by omega)
  simp only [Int.toNat_natCast] at hr
  refine ⟨⟨some ⟨w.heap.size, 0, none⟩, n, n⟩, w.alloc (.cells (madeCells z.cells (n * i.size)) e), by simp [execOp, ho, hf.eval hx, hf.eval hy, hr, sl], ?_⟩
  refine SH.step (L0 := []) (L1 := [ownF (sl ⟨some ⟨w.heap.size, 0, none⟩, n, n⟩) (List.replicate n z0)]) hs fun fp _ _ _ => ⟨Zpu w _ fp, [w.heap.size], ⟨[w.heap.size], [], rfl, OwL.flat.2 (.inr ⟨w.heap.size, 0, n, n, _, e, rfl, rfl, heap_alloc_new w _, ?_, Nat.le_refl _, by unfold maxLen; omega, ?_, ?_⟩), rfl⟩, by simp, by simp⟩
  · rw [ZbW]; simp
  · simp [madeCells, hsz]
  · intro j u hj
    have hlt : j < n * Flat.sz α := by
      have := (List.getElem?_eq_some_iff.1 hj).1
      rw [ZbW] at this; simpa using this
    have h := ZtD z0 n j u hj
    have hpos := Flat.pos (α := α)
    have hzl : z.cells.size = Flat.sz α := by rw [hc]; simp [Flat.len]
    simp only [Nat.zero_add, madeCells, hsz]
    rw [Array.getElem?_map, Array.getElem?_range, if_pos hlt]
    simp only [Option.map_some, hzl]
    congr 1
    rw [hc]
    have hm : j % Flat.sz α < (Flat.enc z0).length := by rw [Flat.len]; exact Nat.mod_lt _ hpos
    rw [List.getElem?_eq_getElem hm] at h
    injection h with h
    simp [hm, h]

/-! cuts -/
def slv (v : Value) (l h sz : Nat) : Value := match v with
  | .slice a _ cap => .slice (if cap = l then a else a.map (·.add (l * sz))) (h - l) (cap - l)
  | _ => undef
theorem RdS.cut {w : World} {B : Nat → Prop} {sz l h n : Nat} {v : Value} {us : List Value} (hs : RdS w B sz v us) (hn : us.length = n * sz) (hz : 0 < sz) (h1 : l ≤ h) (h2 : h ≤ n) : RdS w B sz (slv v l h sz) ((us.drop (l * sz)).take ((h - l) * sz)) := by
  obtain ⟨a, len, cap, rfl, g2, g3, g4, g5⟩ := hs
  have e : len = n := Nat.eq_of_mul_eq_mul_right hz (g2.symm.trans hn)
  subst e
  refine ⟨_, h - l, cap - l, rfl, ?_, by omega, by omega, fun h0 => ?_⟩
  · rw [List.length_take, List.length_drop, hn, ← Nat.sub_mul]
    exact Nat.min_eq_left (Nat.mul_le_mul_right _ (by omega))
  · obtain ⟨b, off, rfl, hb, hr⟩ := g5 (by omega)
    refine ⟨b, off + l * sz, ?_, hb, fun j u hj => ?_⟩
    · rw [if_neg (by omega)]
      simp only [Option.map_some, Addr.add]
      split <;> simp_all
    · rw [List.getElem?_take] at hj
      split at hj
      · rw [List.getElem?_drop] at hj
        have := hr _ u hj
        rw [Nat.add_assoc]; exact this
      · cases hj
theorem Zn1 {α : Type} [Flat α] : ∀ (xs : List α) (l m : Nat), ((encs xs).drop (l * Flat.sz α)).take (m * Flat.sz α) = encs ((xs.drop l).take m)
  | [], l, m => by simp [encs]
  | x :: r, 0, 0 => by simp [encs]
  | x :: r, 0, m + 1 => by
    have ih := Zn1 r 0 m
    simp only [Nat.zero_mul, List.drop_zero, encs, List.flatMap_cons, List.take_succ_cons] at ih ⊢
    rw [show (m + 1) * Flat.sz α = (Flat.enc x).length + m * Flat.sz α by rw [Flat.len, Nat.add_mul]; omega, List.take_length_add_append, ih]
  | x :: r, l + 1, m => by
    have ih := Zn1 r l m
    simp only [encs, List.flatMap_cons, List.drop_succ_cons] at ih ⊢
    rw [show (l + 1) * Flat.sz α = (Flat.enc x).length + l * Flat.sz α by rw [Flat.len, Nat.add_mul]; omega, List.drop_length_add_append, ih]

theorem Zvr {P : Program} {t : TypeId} {sz : Nat} (ht : elo P t = some sz) {w : World} {B : Nat → Prop} {v : Value} {us : List Value} {n : Nat} (hs : RdS w B sz v us) (hn : us.length = n * sz) (hz : 0 < sz) {lo hi : Option Value} {l h : Nat}
    (hlo : (lo = none ∧ l = 0) ∨ lo = some (.int .i64 (l : Int))) (hhi : (hi = none ∧ h = n) ∨ hi = some (.int .i64 (h : Int))) (h1 : l ≤ h) (h2 : h ≤ n) : (Instr.sliceAt t v lo hi none).run P w = .ok (slv v l h sz) w := by
  obtain ⟨a, len, cap, rfl, g2, g3, g4, g5⟩ := hs
  have e : len = n := Nat.eq_of_mul_eq_mul_right hz (g2.symm.trans hn)
  subst e
  unfold elo at ht
  split at ht
  · rename_i e' he
    cases hi' : P.info? e' with
    | none => simp [hi'] at ht
    | some ti =>
      simp [hi'] at ht
      subst ht
      have hhc : h ≤ cap := by omega
      rcases hlo with ⟨rfl, rfl⟩ | rfl <;> rcases hhi with ⟨rfl, rfl⟩ | rfl <;>
        simp [Instr.sliceAt, Instr.slice, Instr.sliceBounds, Instr.sliceBound, asIntOf, run_underlying he, sizeOf, typeInfo, hi', slv, hhc, h1]
  · cases ht
theorem Zwl {t : TypeId} {x : Operand} {lo hi : Option Operand} {sz l h n : Nat} {v : Value} {us : List Value} (ht : elo c.P t = some sz) (hs : SlIn c L sz v us) (hn : us.length = n * sz) (hz : 0 < sz) (hx : ev E x = some v)
    (hlo : (lo = none ∧ l = 0) ∨ ∃ q, lo = some q ∧ ev E q = some (.int .i64 (l : Int))) (hhi : (hi = none ∧ h = n) ∨ ∃ q, hi = some q ∧ ev E q = some (.int .i64 (h : Int))) (h1 : l ≤ h) (h2 : h ≤ n) : Zz c E L (.slice t x lo hi none) (slv v l h sz) := fun a w o hf hw ho => by
  have e1 : (lo.map a.eval = none ∧ l = 0) ∨ lo.map a.eval = some (.int .i64 (l : Int)) := by
    rcases hlo with ⟨rfl, h⟩ | ⟨q, rfl, h⟩
    · exact .inl ⟨rfl, h⟩
    · exact .inr (by simp [hf.eval h])
  have e2 : (hi.map a.eval = none ∧ h = n) ∨ hi.map a.eval = some (.int .i64 (h : Int)) := by
    rcases hhi with ⟨rfl, h⟩ | ⟨q, rfl, h⟩
    · exact .inl ⟨rfl, h⟩
    · exact .inr (by simp [hf.eval h])
  have hr := Zvr ht (hs w hw) hn hz e1 e2 h1 h2
  simp [execOp, ho, hf.eval hx, hr]

/-! numbers -/
theorem Zk2 {t : TypeId} {x y : Operand} {p q : Int} (hx : ev E x = some (.int .i64 p)) (hy : ev E y = some (.int .i64 q)) : Zz c E L (.call { callee := .builtin .max, args := #[x, y], argTypes := #[t, t] }) (.int .i64 (if q > p then q else p)) := fun a w o hf _ ho => by
  simp [execOp, ho, resolve, invoke, builtin, Builtin.max_, Builtin.max2, hf.eval hx, hf.eval hy]
/-! function values -/
theorem ZiR {f : Nat} {ps : List Operand} {vs : List Value} (h : evs E ps = some vs) : Zz c E L (.makeFunc (.func f) #[] ps.toArray) (.func (.func f) #[] vs.toArray) := fun a w o hf _ ho => by
  have e : Array.map a.eval ps.toArray = vs.toArray := by rw [← hf.evals h]; simp
  simp [execOp, ho, Instr.makeFunc, e]
theorem ZvS {x : Operand} {f : Nat} {fn : Func} {cd : Code} {xs : List Operand} {ts : Array TypeId} {vs us : List Value} {X : Type} {v : X → Value} {L1 : X → List Asn} (hv : ev E x = some (.func (.func f) #[] us.toArray)) (hf : c.P.funcs[f]? = some fn) (hb : fn.body = some cd) (hn : (fn.name == "runtime.NumGoroutine") = false) (hx : evs E xs = some vs)
    (h : ∀ w, SH c.w0 c.ex L w → Calls c.P f (vs ++ us).toArray w fun e w' => ∃ x, e = .returned (v x) ∧ SH w [] (L1 x) w') :
    ZcG c E L (.call { callee := .value x, args := xs.toArray, argTypes := ts }) v (fun x => L1 x ++ L) := fun a w o hfit hs ho => by
  refine ⟨f, (vs ++ us).toArray, ?_, (h w hs).mono ?_⟩
  · have e : xs.map a.eval = vs := hfit.evals hx
    have e2 : Array.map a.eval xs.toArray = vs.toArray := by rw [← e]; simp
    simp [execOp, ho, resolve, Deferred.ofValue, hfit.eval hv, invoke, e2, ZjG hf hb hn]
  · rintro e w' ⟨x, he, h2⟩
    exact ⟨x, he, hs.call h2⟩
/-- A call that is handed L0 for its own. -/
theorem Zuc {f : Nat} {fn : Func} {cd : Code} {xs : List Operand} {ts : Array TypeId} {vs : List Value} {X : Type} {v : X → Value} {L0 L2 : List Asn} {L1 : X → List Asn} (hsp : ZaD (L0 ++ L2) L) (hf : c.P.funcs[f]? = some fn) (hb : fn.body = some cd) (hn : (fn.name == "runtime.NumGoroutine") = false) (hx : evs E xs = some vs)
    (h : ∀ w fp, SHo c.w0 c.ex L0 L2 w fp → Calls c.P f vs.toArray w fun e w' => ∃ x, e = .returned (v x) ∧ SH w fp (L1 x) w') :
    ZcG c E L (.call { callee := .value (.func f), args := xs.toArray, argTypes := ts }) v (fun x => L1 x ++ L2) := fun a w o hfit hs ho => by
  have hs2 := hs.weak hsp
  obtain ⟨k, fq, h1, h2, h3⟩ := hs2
  obtain ⟨f0, f1, rfl, hs0, hs1⟩ := Zhe.1 h1
  obtain ⟨hd0, hd1, hdj⟩ := List.nodup_append.1 h2
  refine ⟨f, vs.toArray, ?_, (h w f0 ⟨k, f1, hs0, hs1, h2, h3⟩).mono ?_⟩
  · have e : xs.map a.eval = vs := hfit.evals hx
    have e2 : Array.map a.eval xs.toArray = vs.toArray := by rw [← e]; simp
    simp [execOp, ho, resolve, Deferred.ofValue, Act.eval, invoke, e2, ZjG hf hb hn]
  · rintro e w' ⟨x, he, kk, fp', hs', hn', hb'⟩
    have hf1 : ∀ b ∈ f1, b < w.heap.size ∧ b ∉ f0 := fun b hb => ⟨(h3 b (List.mem_append_right _ hb)).2, fun h => hdj b h b hb rfl⟩
    refine ⟨x, he, ⟨kk.os.trans k.os, kk.tape.trans k.tape, kk.output.trans k.output, Nat.le_trans k.size kk.size, fun i hi hne => ?_⟩, fp' ++ f1, ?_, ?_, ?_⟩
    · refine (kk.block i (Nat.lt_of_lt_of_le hi k.size) (fun hm => ?_)).trans (k.block i hi hne)
      rcases (h3 i (List.mem_append_left _ hm)).1 with h | h
      · omega
      · exact hne h
    · exact Zhe.2 ⟨fp', f1, rfl, hs', ZpT hs1 (fun b hb => kk.block b (hf1 b hb).1 (hf1 b hb).2)⟩
    · refine List.nodup_append.2 ⟨hn', hd1, fun a ha b hb e => ?_⟩
      subst e
      rcases (hb' a ha).1 with h | h
      · have := (hf1 a hb).1; omega
      · exact (hf1 a hb).2 h
    · intro b hb
      rcases List.mem_append.1 hb with h | h
      · refine ⟨?_, (hb' b h).2⟩
        rcases (hb' b h).1 with h' | h'
        · exact .inl (Nat.le_trans k.size h')
        · exact (h3 b (List.mem_append_left _ h')).1
      · exact ⟨(h3 b (List.mem_append_right _ h)).1, Nat.lt_of_lt_of_le (hf1 b h).1 kk.size⟩

end
end Go.Proofs.YtjfjbgihojiijacGreatDoor
