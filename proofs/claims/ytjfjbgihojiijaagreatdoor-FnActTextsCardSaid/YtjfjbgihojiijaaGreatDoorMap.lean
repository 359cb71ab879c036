/-
  Maps of the call's own, whose keys are texts: made, set, counted.
-/
import Derived.Test.YtjfjbgihojiijaaGreatDoorSh
import Derived.ChangeMaps4
namespace Go.Proofs.YtjfjbgihojiijaaGreatDoor
open Go Go.RowKit Go.Instr

/-- Block b is a map of one's own, with the keys ks, in the order in which they came. -/
def mp (b : Nat) (ks : List Str) : Asn where
  P := fun w f => f = [b] ∧ ∃ (es : Array MapEntry) (n : Nat), w.heap[b]? = some (.map es n) ∧ es.toList.map (·.key) = ks.map bs
  loc := fun _ _ _ ⟨h, es, n, h1, h2⟩ hk => ⟨h, es, n, (hk b (by simp [h])).trans h1, h2⟩

/-- The bits of one of the two. -/
def xorI (x y : Int) : Int := wr ((BitVec.ofInt 64 x ^^^ BitVec.ofInt 64 y).toNat : Int)

def putS (ks : List Str) (k : Str) : List Str := bif ks.any (seq k) then ks else ks ++ [k]
def mref (b : Nat) : Value := .map (some b)

theorem same_str (s t : Str) : sameNow .string (bs s) (bs t) = some (seq s t) := by
  simp only [bs, sameNow, seq, Option.some.injEq]
  by_cases h : s.b = t.b
  · rw [(MapKept.bytes_beq _ _).2 (by rw [h])]; simp [h]
  · have h1 : (s.b == t.b) = false := by simpa using h
    rw [h1, Bool.eq_false_iff]
    intro h2
    have h3 := (MapKept.bytes_beq _ _).1 h2
    exact h (by simpa using congrArg (fun x : ByteArray => x.data.toList) h3)

theorem find_str (k : Str) : ∀ (es : List MapEntry) (ks : List Str) (i : Nat), es.map (·.key) = ks.map bs →
    (ks.any (seq k) = false → findNow .string (bs k) es i = some none) ∧
    (ks.any (seq k) = true → ∃ j e, es[j]? = some e ∧ e.key = bs k ∧ findNow .string (bs k) es i = some (some (i + j, e.val)))
  | [], [], i, _ => ⟨fun _ => rfl, fun h => by simp at h⟩
  | [], _ :: _, _, h => by simp at h
  | _ :: _, [], _, h => by simp at h
  | e :: es, q :: ks, i, h => by
    simp only [List.map_cons, List.cons.injEq] at h
    obtain ⟨h1, h2⟩ := find_str k es ks (i + 1) h.2
    have e1 : findNow .string (bs k) (e :: es) i = match some (seq k q) with | some true => some (some (i, e.val)) | some false => findNow .string (bs k) es (i + 1) | none => none := by
      rw [findNow, h.1, same_str]
      cases seq k q <;> rfl
    rw [e1]
    cases hq : seq k q with
    | true =>
      refine ⟨fun h3 => by simp [hq] at h3, fun _ => ⟨0, e, rfl, ?_, by simp⟩⟩
      rw [h.1]
      have : k.b = q.b := by simpa [seq] using hq
      cases k; cases q; cases this; rfl
    | false =>
      simp only [List.any_cons, hq, Bool.false_or]
      refine ⟨h1, fun h3 => ?_⟩
      obtain ⟨j, e', k1, k2, k3⟩ := h2 h3
      exact ⟨j + 1, e', by simpa using k1, k2, by rw [k3]; congr 3; omega⟩

theorem keep_setMap (w : World) (b : Nat) (o : Obj) : Keep [b] w (ChangeMaps.setBlock w b o) :=
  ⟨rfl, rfl, rfl, by simp [ChangeMaps.setBlock], fun k _ hne => by
    have : b ≠ k := fun e => hne (by simp [e])
    simp [ChangeMaps.setBlock, this]⟩

/-- A part of what is one's own. -/
theorem pick_cut {α : Type} [Flat α] {x : Hd} {xs : List α} {l h : Nat} {L L' : List Asn} (hp : Pick (ownF (sl x) xs) L L') (h1 : l ≤ h) (h2 : h ≤ xs.length) : Pick (ownF (sl (slh x l h (Flat.sz α))) ((xs.drop l).take (h - l))) L L' := fun w fp hw => by
  obtain ⟨fp', ⟨f1, f2, rfl, ho, hr⟩, hperm⟩ := hp w fp hw
  refine ⟨f1 ++ f2, ⟨f1, f2, rfl, ?_, hr⟩, hperm⟩
  refine OwL.flat.2 ?_
  rcases OwL.flat.1 ho with ⟨e, hu, hf⟩ | ⟨b, off, len, cap, cs, T, e, hf, hb, hl, hlc, hcm, hsz, hat⟩
  · have hz : xs.length * Flat.sz α = 0 := by rw [← encs_len, hu]; rfl
    have hx : xs.length = 0 := (Nat.mul_eq_zero.1 hz).resolve_right (Nat.pos_iff_ne_zero.1 Flat.pos)
    have hl0 : l = 0 := by omega
    have hh0 : h = 0 := by omega
    subst hl0; subst hh0
    obtain ⟨xa, xl, xc⟩ := x
    simp only [sl, Value.slice.injEq] at e
    obtain ⟨rfl, rfl, rfl⟩ := e
    exact .inl ⟨rfl, rfl, hf⟩
  · obtain ⟨xa, xl, xc⟩ := x
    simp only [sl, Value.slice.injEq] at e
    obtain ⟨rfl, rfl, rfl⟩ := e
    have hxl : xs.length = xl := Nat.eq_of_mul_eq_mul_right (Flat.pos (α := α)) ((encs_len xs).symm.trans hl)
    have hcut := encs_cut xs l (h - l)
    have hle : ((xs.drop l).take (h - l)).length = h - l := by simp; omega
    refine .inr ⟨b, if xc = l then off else off + l * Flat.sz α, h - l, xc - l, cs, T, ?_, hf, hb, by rw [encs_len, hle], by omega, by omega, ?_, fun j u hj => ?_⟩
    · unfold sl slh
      by_cases hc : xc = l
      · simp [hc]
      · simp [hc, Addr.add]
    · have hm : (xc - l) * Flat.sz α + l * Flat.sz α = xc * Flat.sz α := by rw [← Nat.add_mul]; congr 1; omega
      by_cases hc : xc = l
      · simp only [hc, if_true, Nat.sub_self, Nat.zero_mul]; rw [hc] at hsz; omega
      · simp only [hc, if_false]; omega
    · rw [← hcut, List.getElem?_take] at hj
      split at hj
      · rename_i hlt
        rw [List.getElem?_drop] at hj
        have hne : xc ≠ l := fun hc => by
          have : h - l = 0 := by omega
          rw [this] at hlt; omega
        simp only [hne, if_false]
        have := hat _ u hj
        rwa [← Nat.add_assoc] at this
      · cases hj

section
variable {c : Cx} {E : Env} {L L' : List Asn}
theorem SH.at_mp {w0 w : World} {ex : List Nat} (h : SH w0 ex L w) {b : Nat} {ks : List Str} (hp : Pick (mp b ks) L L') : ∃ (es : Array MapEntry) (n : Nat), w.heap[b]? = some (.map es n) ∧ es.toList.map (·.key) = ks.map bs := by
  obtain ⟨_, fp, ⟨f1, f2, rfl, ⟨_, h1⟩, _⟩, _, _⟩ := h.pick hp
  exact h1

theorem po_xor {t u : TypeId} {x y : Operand} {p q : Int} (hx : ev E x = some (.int .i64 p)) (hy : ev E y = some (.int .i64 q)) : PureOp c E L (.binOp .xor t x y u) (.int .i64 (xorI p q)) := fun a w o hf _ ho => by
  have e : Op.intBits .xor .i64 p q = pure (.int .i64 (xorI p q)) := rfl
  simp [execOp, ho, hf.eval hx, hf.eval hy, eqGuard, binOp, e]
theorem eo_map {t : TypeId} : EffOp c E L (.makeMap t none) (fun b => mref b) (fun b => mp b [] :: L) := fun a w o _ hs ho => by
  refine ⟨w.heap.size, w.alloc (.map #[] 0), ?_, ?_⟩
  · simp [execOp, ho, Instr.makeMap, mref]
  · exact SH.step (L0 := []) (L1 := [mp w.heap.size []]) hs fun fp _ _ _ =>
      ⟨keep_alloc w _ fp, [w.heap.size], ⟨[w.heap.size], [], rfl, ⟨rfl, #[], 0, heap_alloc_new w _, rfl⟩, rfl⟩, by simp, by simp⟩

def mapT (P : Program) (t : TypeId) : Bool := match P.underlying t with
  | some (.map k _) => isStr P k
  | _ => false
theorem mapT_spec {P : Program} {t : TypeId} (h : mapT P t = true) : ∃ k e, P.underlying t = some (.map k e) ∧ P.underlying k = some .string := by
  unfold mapT at h
  split at h
  · next k e he => exact ⟨k, e, he, isStr_spec h⟩
  · simp at h

theorem so_put {t : TypeId} {x y z : Operand} {b : Nat} {ks ks' : List Str} {k : Str} {v : Value} (ht : mapT c.P t = true) (hp : Pick (mp b ks) L L') (hx : ev E x = some (mref b)) (hy : ev E y = some (bs k)) (hz : ev E z = some v)
    (hks : putS ks k = ks') : SkipOp c E L (.mapUpdate t x y z) (mp b ks' :: L') := fun a w o hf hs ho => by
  have hs' := hs.pick hp
  obtain ⟨kt, et, hu, hk⟩ := mapT_spec ht
  obtain ⟨es, n, hb, hm⟩ := hs.at_mp hp
  have hlt : b < w.heap.size := (Array.getElem?_eq_some_iff.1 hb).1
  have hkey : MapKept.IsKey .string (bs k) := trivial
  obtain ⟨h1, h2⟩ := find_str k es.toList ks 0 hm
  have fin : ∀ (es' : Array MapEntry) (n' : Nat), es'.toList.map (·.key) = ks'.map bs → SH c.w0 c.ex (mp b ks' :: L') (ChangeMaps.setBlock w b (.map es' n')) := fun es' n' he => by
    refine SH.step (L0 := [mp b ks]) (L1 := [mp b ks']) hs' fun fp hfp _ hlt' => ?_
    obtain ⟨f1, f2, rfl, ⟨rfl, _⟩, h2⟩ := hfp
    have e2 : f2 = [] := h2
    subst e2
    refine ⟨keep_setMap w b _, [b], ⟨[b], [], rfl, ⟨rfl, es', n', by simp [ChangeMaps.setBlock, hlt], he⟩, rfl⟩, by simp, fun q hq => ?_⟩
    have e : q = b := by simpa using hq
    subst e
    exact ⟨.inl (by simp), by simpa [ChangeMaps.setBlock] using hlt' q (by simp)⟩
  cases hc : ks.any (seq k) with
  | false =>
    refine ⟨ChangeMaps.setBlock w b (.map (es.push ⟨bs k, v, n⟩) (n + 1)), ?_, fin _ _ ?_⟩
    · simp [execOp, ho, hf.eval hx, hf.eval hy, hf.eval hz, mref, Instr.mapUpdate, run_underlying hu, MapKept.run_getObj_map hb, MapKept.run_checkKey hk hkey, MapKept.run_findKey hk (h1 hc), MapKept.run_setObj_map _ hb, Result.andThen, ChangeMaps.setBlock]
    · rw [← hks, putS, hc]
      simp [hm]
  | true =>
    obtain ⟨j, e, k1, k2, k3⟩ := h2 hc
    have k1' : es[j]? = some e := by simpa using k1
    refine ⟨ChangeMaps.setBlock w b (.map (es.modify j fun q => { q with key := bs k, val := v }) n), ?_, fin _ _ ?_⟩
    · have hj : ((es[0 + j]?).map (·.key)).getD (bs k) = bs k := by simp [k1', k2]
      simp only [Nat.zero_add] at hj k3
      have hst : (keyThatStays (bs k) (bs k)).run c.P w = .ok (bs k) w := by
        have hb2 : sameBits 10000 (bs k) (bs k) = true := by simp only [bs, sameBits]; exact (MapKept.bytes_beq _ _).2 rfl
        simp [keyThatStays, hb2]
      simp [execOp, ho, hf.eval hx, hf.eval hy, hf.eval hz, mref, Instr.mapUpdate, run_underlying hu, MapKept.run_getObj_map hb, MapKept.run_checkKey hk hkey, MapKept.run_findKey hk k3, hj, hst, MapKept.run_setObj_map _ hb, Result.andThen, ChangeMaps.setBlock]
    · rw [← hks, putS, hc, cond_true, ← hm, Array.toList_modify]
      refine List.ext_getElem? fun q => ?_
      rw [List.getElem?_map, List.getElem?_map, List.getElem?_modify]
      by_cases hq : j = q
      · subst hq; rw [k1]; simp [k2]
      · simp [hq]

theorem po_mlen {t : TypeId} {x : Operand} {b : Nat} {ks : List Str} (ht : mapT c.P t = true) (hp : Pick (mp b ks) L L') (hx : ev E x = some (mref b)) : PureOp c E L (.call { callee := .builtin .len, args := #[x], argTypes := #[t] }) (.int .i64 ((ks.length : Nat) : Int)) := fun a w o hf hs ho => by
  obtain ⟨kt, et, hu, hk⟩ := mapT_spec ht
  obtain ⟨es, n, hb, hm⟩ := hs.at_mp hp
  have hl : es.size = ks.length := by simpa using congrArg List.length hm
  have hb' := MapKept.run_getObj_map (P := c.P) hb
  simp [execOp, ho, resolve, invoke, builtin, Builtin.len_, run_underlying hu, hf.eval hx, mref, hb', goInt, hl, Result.andThen]
theorem run_results_cell2 {P : Program} {fn : Func} {t u : Nat} {ty ty' : TypeId} (hr : fn.results = #[.cell t ty, .cell u ty']) {tmps : Array Value} {w : World} {b o b' o' : Nat} {v v' : Value} (h : tmps[t]? = some (.pointer (some ⟨b, o, none⟩))) (hv : (loadVar ty ⟨b, o, none⟩).run P w = .ok v w)
    (h' : tmps[u]? = some (.pointer (some ⟨b', o', none⟩))) (hv' : (loadVar ty' ⟨b', o', none⟩).run P w = .ok v' w) : (results fn tmps).run P w = .ok (.tuple #[v, v']) w := by
  simp [results, hr, h, hv, h', hv', asAddr]
theorem wq_retcc {L1 L2 : List Asn} {fn : Func} {R : Ending → World → Prop} {t u b b' n n' : Nat} {ty ty' : TypeId} {cs cs' : List Value} (hr : fn.results = #[.cell t ty, .cell u ty']) (ht : tyk c.P ty = some (true, n)) (ht' : tyk c.P ty' = some (true, n')) (h : lk E t = some (ptr b 0)) (h' : lk E u = some (ptr b' 0))
    (hp : Pick (box b cs) L L1) (hp' : Pick (box b' cs') L L2) (hl : Nat.beq cs.length n = true) (hl' : Nat.beq cs'.length n' = true) (k : ∀ w, SH c.w0 c.ex L w → R (.returned (.tuple #[.agg cs.toArray, .agg cs'.toArray])) w) : WQ c E L (bodyPost c.P fn R) .ret := fun a w hf hs => by
  obtain ⟨T, hT⟩ := hs.at_box hp
  obtain ⟨T', hT'⟩ := hs.at_box hp'
  exact bodyPost_ret (run_results_cell2 hr (hf.look t _ h) (loadVar_box ht hl hT) (hf.look u _ h') (loadVar_box ht' hl' hT')) hf.defers (k w hs)
end
end Go.Proofs.YtjfjbgihojiijaaGreatDoor
