/-
  What each operation of a walk yields.
-/
import Derived.Test.YtjfjbgihojiijacGreatDoorRules
namespace Go.Proofs.YtjfjbgihojiijacGreatDoor
open Go Go.RowKit

def wr (n : Int) : Int := IntKind.i64.wrap n
theorem ZuO (n : Int) : wr n = (n + 9223372036854775808) % 18446744073709551616 - 9223372036854775808 := by
  unfold wr; rw [IntKind.wrap_i64]
theorem ZsK {n : Int} (h1 : -9223372036854775808 ≤ n) (h2 : n ≤ 9223372036854775807) : wr n = n := by rw [ZuO]; omega

def tyk (P : Program) (t : TypeId) : Option (Bool × Nat) :=
  match P.info? t, P.underlying t with
  | some i, some (.struct _) => some (true, i.size)
  | some i, some (.array _ _) => some (true, i.size)
  | some i, some _ => some (false, i.size)
  | _, _ => none
def fldo (P : Program) (t : TypeId) (f : Nat) : Option Nat :=
  match P.underlying t with
  | some (.struct fs) => match fs[f]? with
    | some fd => match P.info? fd.type with
      | some i => if i.size = 0 then none else some fd.offset
      | none => none
    | none => none
  | _ => none
def elo (P : Program) (t : TypeId) : Option Nat :=
  match P.underlying t with
  | some (.slice e) => (P.info? e).map (·.size)
  | _ => none

section
variable {c : Cx} {E : Env} {L : List Asn}

theorem pom {x : Operand} {v : Value} (h : ev E x = some v) : Zz c E L (.move x) v := fun a w o hf _ ho => by
  simp [execOp, ho, hf.eval h]
theorem Zp {x : Operand} {v : Value} (h : ev E x = some v) : Zz c E L (.assign x) v := fun a w o hf _ ho => by
  simp [execOp, ho, hf.eval h]
theorem pit {q x y : Operand} {v : Value} (hq : ev E q = some (.bool true)) (h : ev E x = some v) : Zz c E L (.pick q x y) v := fun a w o hf _ ho => by
  simp [execOp, ho, hf.eval hq, hf.eval h, asBool]
theorem pif {q x y : Operand} {v : Value} (hq : ev E q = some (.bool false)) (h : ev E y = some v) : Zz c E L (.pick q x y) v := fun a w o hf _ ho => by
  simp [execOp, ho, hf.eval hq, hf.eval h, asBool]

theorem Zaf {t u : TypeId} {x y : Operand} {p q : Int} (hx : ev E x = some (.int .i64 p)) (hy : ev E y = some (.int .i64 q)) : Zz c E L (.binOp .add t x y u) (.int .i64 (wr (p + q))) := fun a w o hf _ ho => by
  simp [execOp, ho, hf.eval hx, hf.eval hy, eqGuard, binOp, Op.intArith, wr]
theorem Zaa {t u : TypeId} {x y : Operand} {p q : Int} (hx : ev E x = some (.int .i64 p)) (hy : ev E y = some (.int .i64 q)) : Zz c E L (.binOp .sub t x y u) (.int .i64 (wr (p - q))) := fun a w o hf _ ho => by
  simp [execOp, ho, hf.eval hx, hf.eval hy, eqGuard, binOp, Op.intArith, wr]
theorem Zex {t u : TypeId} {x y : Operand} {p q : Int} (hx : ev E x = some (.int .i64 p)) (hy : ev E y = some (.int .i64 q)) : Zz c E L (.binOp .mul t x y u) (.int .i64 (wr (p * q))) := fun a w o hf _ ho => by
  simp [execOp, ho, hf.eval hx, hf.eval hy, eqGuard, binOp, Op.intArith, wr]
theorem Zi1 {t u : TypeId} {x y : Operand} {p q : Int} (hx : ev E x = some (.int .i64 p)) (hy : ev E y = some (.int .i64 q)) (hq : q ≠ 0) : Zz c E L (.binOp .quo t x y u) (.int .i64 (wr (p.tdiv q))) := fun a w o hf _ ho => by
  simp [execOp, ho, hf.eval hx, hf.eval hy, eqGuard, binOp, Op.intDiv, wr, hq]
theorem ZhA {t u : TypeId} {x y : Operand} {p q : Int} (hx : ev E x = some (.int .i64 p)) (hy : ev E y = some (.int .i64 q)) (hq : q ≠ 0) : Zz c E L (.binOp .rem t x y u) (.int .i64 (p.tmod q)) := fun a w o hf _ ho => by
  simp [execOp, ho, hf.eval hx, hf.eval hy, eqGuard, binOp, Op.intDiv, hq]
theorem pls {t u : TypeId} {k : IntKind} {x y : Operand} {p q : Int} (hx : ev E x = some (.int k p)) (hy : ev E y = some (.int k q)) : Zz c E L (.binOp .lss t x y u) (.bool (decide (p < q))) := fun a w o hf _ ho => by
  simp [execOp, ho, hf.eval hx, hf.eval hy, eqGuard, binOp, Op.intCmp]
theorem ZbQ {t u : TypeId} {k : IntKind} {x y : Operand} {p q : Int} (hx : ev E x = some (.int k p)) (hy : ev E y = some (.int k q)) : Zz c E L (.binOp .leq t x y u) (.bool (decide (p ≤ q))) := fun a w o hf _ ho => by
  simp [execOp, ho, hf.eval hx, hf.eval hy, eqGuard, binOp, Op.intCmp]
theorem Zad {t u : TypeId} {k : IntKind} {x y : Operand} {p q : Int} (hx : ev E x = some (.int k p)) (hy : ev E y = some (.int k q)) : Zz c E L (.binOp .gtr t x y u) (.bool (decide (p > q))) := fun a w o hf _ ho => by
  simp [execOp, ho, hf.eval hx, hf.eval hy, eqGuard, binOp, Op.intCmp]
theorem ZeS {t u : TypeId} {k : IntKind} {x y : Operand} {p q : Int} (hx : ev E x = some (.int k p)) (hy : ev E y = some (.int k q)) : Zz c E L (.binOp .geq t x y u) (.bool (decide (p ≥ q))) := fun a w o hf _ ho => by
  simp [execOp, ho, hf.eval hx, hf.eval hy, eqGuard, binOp, Op.intCmp]
theorem pol {t u : TypeId} {k : IntKind} {x y : Operand} {p q : Int} (hx : ev E x = some (.int k p)) (hy : ev E y = some (.int k q)) : Zz c E L (.binOp .eql t x y u) (.bool (p == q)) := fun a w o hf _ ho => by
  simp [execOp, ho, hf.eval hx, hf.eval hy, eqGuard, binOp, Op.intCmp]
theorem ZcD {t u : TypeId} {k : IntKind} {x y : Operand} {p q : Int} (hx : ev E x = some (.int k p)) (hy : ev E y = some (.int k q)) : Zz c E L (.binOp .neq t x y u) (.bool (p != q)) := fun a w o hf _ ho => by
  simp [execOp, ho, hf.eval hx, hf.eval hy, eqGuard, binOp, Op.intCmp]
theorem ZkH {P : Program} {t : TypeId} {p q : Bool} (ht : P.underlying t = some .bool) (w : World) : (Op.equal t (.bool p) (.bool q)).run P w = .ok (p == q) w := by
  have h : ∀ d : Nat, (Op.equalIn (d + 1) t (.bool p) (.bool q)).run P w = .ok (p == q) w := fun d => by simp [Op.equalIn, run_underlying ht]
  exact h 9999
theorem Zny {t u : TypeId} {x y : Operand} {p q : Bool} (ht : c.P.underlying t = some .bool) (hx : ev E x = some (.bool p)) (hy : ev E y = some (.bool q)) : Zz c E L (.binOp .eql t x y u) (.bool (p == q)) := fun a w o hf _ ho => by
  simp [execOp, ho, hf.eval hx, hf.eval hy, eqGuard, binOp, ZkH ht]
theorem ZnF {t u : TypeId} {x y : Operand} {p q : Bool} (ht : c.P.underlying t = some .bool) (hx : ev E x = some (.bool p)) (hy : ev E y = some (.bool q)) : Zz c E L (.binOp .neq t x y u) (.bool (!(p == q))) := fun a w o hf _ ho => by
  simp [execOp, ho, hf.eval hx, hf.eval hy, eqGuard, binOp, ZkH ht]
theorem Zd {t : TypeId} {x : Operand} {p : Bool} (hx : ev E x = some (.bool p)) : Zz c E L (.unOp .not t x) (.bool (!p)) := fun a w o hf _ ho => by
  simp [execOp, ho, hf.eval hx, Op.unary]
theorem Ztf {t : TypeId} {x : Operand} {p : Int} (hx : ev E x = some (.int .i64 p)) : Zz c E L (.unOp .neg t x) (.int .i64 (wr (0 - p))) := fun a w o hf _ ho => by
  simp [execOp, ho, hf.eval hx, Op.unary, Op.intArith, wr]

/-! pointers -/
def ptr (b o : Nat) : Value := .pointer (some ⟨b, o, none⟩)
def sptr (v : Value) (i o sz : Nat) : Value := match v with
  | .slice (some a) _ _ => .pointer (some ⟨a.block, a.off + (i * sz + o), none⟩)
  | _ => undef

theorem Znv {P : Program} {t : TypeId} {f k : Nat} {b o : Nat} (h : fldo P t f = some k) (w : World) : (Instr.fieldAt t (.pointer (some ⟨b, o, none⟩)) f).run P w = .ok (.pointer (some ⟨b, o + k, none⟩)) w := by
  unfold fldo at h
  split at h
  · rename_i fs hfs
    split at h
    · rename_i fd hfd
      split at h
      · rename_i i hi
        split at h
        · cases h
        · rename_i hz
          injection h with h
          subst h
          simp [Instr.fieldAt, run_underlying hfs, hfd, Instr.sureAddr, fieldPlace, sizeOf, typeInfo, hi, hz]
          unfold Addr.add
          split <;> simp_all
      · cases h
    · cases h
  · cases h
theorem pof {t : TypeId} {x : Operand} {f k b o : Nat} (h : fldo c.P t f = some k) (hx : ev E x = some (ptr b o)) : Zz c E L (.fieldAddr t x f) (ptr b (o + k)) := fun a w o' hf _ ho => by
  simp [execOp, ho, hf.eval hx, ptr, Znv h]
theorem Zvg {t : TypeId} {x : Operand} {f k i o sz : Nat} {v : Value} {b off len cap : Nat} (hv : v = .slice (some ⟨b, off, none⟩) len cap) (h : fldo c.P t f = some k) (hx : ev E x = some (sptr v i o sz)) : Zz c E L (.fieldAddr t x f) (sptr v i (o + k) sz) := fun a w o' hf _ ho => by
  subst hv
  simp [execOp, ho, hf.eval hx, sptr, Znv h, Nat.add_assoc]
/-! slices -/
/-- In every such state v reads as the cells us. -/
def SlIn (c : Cx) (L : List Asn) (sz : Nat) (v : Value) (us : List Value) : Prop := ∀ w, SH c.w0 c.ex L w → RdS w (dm w []) sz v us

theorem Zwg {t : TypeId} {x : Operand} {sz : Nat} {v : Value} {us : List Value} {n : Nat} (ht : elo c.P t = some sz) (hs : SlIn c L sz v us) (hn : us.length = n * sz) (hz : 0 < sz) (hx : ev E x = some v) :
    Zz c E L (.call { callee := .builtin .len, args := #[x], argTypes := #[t] }) (.int .i64 (n : Int)) := fun a w o hf hw ho => by
  obtain ⟨a', len, cap, rfl, h2, _⟩ := hs w hw
  have e : len = n := Nat.eq_of_mul_eq_mul_right hz (h2.symm.trans hn)
  subst e
  unfold elo at ht
  split at ht
  · rename_i e' he
    simp [execOp, ho, resolve, invoke, builtin, Builtin.len_, run_underlying he, hf.eval hx, goInt]
  · cases ht
theorem ZuH {t : TypeId} {x ix : Operand} {sz : Nat} {v : Value} {us : List Value} {i : Int} {n : Nat} (ht : elo c.P t = some sz) (hs : SlIn c L sz v us) (hn : us.length = n * sz) (hz : 0 < sz) (hx : ev E x = some v) (hi : ev E ix = some (.int .i64 i)) (h0 : 0 ≤ i) (h1 : i < n) :
    Zz c E L (.indexAddr t x ix) (sptr v i.toNat 0 sz) := fun a w o hf hw ho => by
  obtain ⟨a', len, cap, rfl, h2, _, _, h5⟩ := hs w hw
  have e : len = n := Nat.eq_of_mul_eq_mul_right hz (h2.symm.trans hn)
  subst e
  obtain ⟨b, off, rfl, _, _⟩ := h5 (by omega)
  unfold elo at ht
  split at ht
  · rename_i e' he
    cases hi' : c.P.info? e' with
    | none => simp [hi'] at ht
    | some ti =>
      simp [hi'] at ht
      simp [execOp, ho, Instr.indexAt, hf.eval hx, hf.eval hi, asIntOf, run_underlying he, h0, h1, sizeOf, typeInfo, hi', ht, sptr]
      unfold Addr.add
      split <;> simp_all
  · cases ht

theorem Zqu {P : Program} {t : TypeId} {b : Bool} {n : Nat} (h : tyk P t = some (b, n)) (w : World) : (isAgg t).run P w = .ok b w := by
  unfold tyk at h
  split at h <;> first | (cases h; done) | skip
  all_goals
    rename_i i d hi hu
    simp only [Option.some.injEq, Prod.mk.injEq] at h
    simp [isAgg, run_underlying hu]
  all_goals exact h.1.symm
theorem Zpw {P : Program} {t : TypeId} {b : Bool} {n : Nat} (h : tyk P t = some (b, n)) (w : World) : (sizeOf t).run P w = .ok n w := by
  unfold tyk at h
  split at h <;> first | (cases h; done) | skip
  all_goals
    rename_i i d hi hu
    simp only [Option.some.injEq, Prod.mk.injEq] at h
    simp [sizeOf, typeInfo, hi, h.2]

theorem Zif {P : Program} {t : TypeId} {n : Nat} (ht : tyk P t = some (false, n)) {w : World} {ad : Addr} {v : Value} (h : w.cell? ad = some v) : (loadVar t ad).run P w = .ok v w := by
  simp [loadVar, Zqu ht, h]
theorem Zgj {P : Program} {t : TypeId} {n : Nat} (ht : tyk P t = some (true, n)) {w : World} {b o : Nat} {vs : List Value} (hl : vs.length = n) (h : Zjk w b o vs) : (loadVar t ⟨b, o, none⟩).run P w = .ok (.agg vs.toArray) w := by
  subst hl
  simp [loadVar, Zqu ht, Zpw ht]
  rw [run_loadCells_list w ⟨b, o, none⟩ vs (fun j v hj => by
    have := h j v hj
    unfold Addr.add; split
    · rename_i e; subst e; simpa using this
    · exact this)]
  simp

theorem plx {t : TypeId} {x : Operand} {b o n : Nat} {cs : List Value} {L' : List Asn} {v : Value} (ht : tyk c.P t = some (false, n)) (hp : Pick (box b cs) L L') (hx : ev E x = some (ptr b o)) (hv : cs[o]? = some v) :
    Zz c E L (.load t x) v := fun a w o' hf hw ho => by
  obtain ⟨T, hb⟩ := hw.at_box hp
  have hc : w.cell? ⟨b, o, none⟩ = some v := by rw [cell_of_row w b o _ T (0, 0) hb]; simpa using hv
  simp [execOp, ho, hf.eval hx, ptr, Instr.loadAt, Instr.sureAddr, Zif ht hc]
theorem plb {t : TypeId} {x : Operand} {b o n : Nat} {cs vs : List Value} {L' : List Asn} (ht : tyk c.P t = some (true, n)) (hp : Pick (box b cs) L L') (hx : ev E x = some (ptr b o)) (hv : (cs.drop o).take n = vs) (hl : Nat.beq vs.length n = true) :
    Zz c E L (.load t x) (.agg vs.toArray) := fun a w o' hf hw ho => by
  obtain ⟨T, hb⟩ := hw.at_box hp
  have hc : Zjk w b o vs := fun j u hj => by
    rw [cell_of_row w b _ _ T (0, 0) hb]
    rw [← hv, List.getElem?_take] at hj
    split at hj
    · simpa using hj
    · cases hj
  simp [execOp, ho, hf.eval hx, ptr, Instr.loadAt, Instr.sureAddr, Zgj ht (Nat.eq_of_beq_eq_true hl) hc]

theorem Zrp {sz : Nat} {v : Value} {us : List Value} {k : Nat} {w : World} {B : Nat → Prop} (hs : RdS w B sz v us) (hk : k * sz < us.length) :
    ∃ b off len cap, v = .slice (some ⟨b, off, none⟩) len cap ∧ Zjk w b off us := by
  obtain ⟨a', len, cap, rfl, h2, _, _, h5⟩ := hs
  have h0 : 0 < len := by
    rcases Nat.eq_zero_or_pos len with e | e
    · rw [e, Nat.zero_mul] at h2; omega
    · exact e
  obtain ⟨b, off, rfl, _, hr⟩ := h5 h0
  exact ⟨b, off, len, cap, rfl, hr⟩
theorem ZrA {us cs : List Value} {k sz o : Nat} {u : Value} (h : Za4 us k sz = cs) (ho : cs[o]? = some u) : us[k * sz + o]? = some u := by
  subst h
  unfold Za4 at ho
  rw [List.getElem?_take] at ho
  split at ho
  · rwa [List.getElem?_drop] at ho
  · cases ho
theorem ZoF {t : TypeId} {x : Operand} {sz k o n : Nat} {v u : Value} {us cs : List Value} (ht : tyk c.P t = some (false, n)) (hs : SlIn c L sz v us) (hx : ev E x = some (sptr v k o sz)) (hc : Za4 us k sz = cs) (hu : cs[o]? = some u) :
    Zz c E L (.load t x) u := fun a w o' hf hw ho => by
  have h1 := ZrA hc hu
  have hlt := (List.getElem?_eq_some_iff.1 h1).1
  obtain ⟨b, off, len, cap, rfl, hr⟩ := Zrp (k := k) (hs w hw) (by omega)
  simp [execOp, ho, hf.eval hx, sptr, Instr.loadAt, Instr.sureAddr, Zif ht (hr _ _ h1)]
theorem Znu {t : TypeId} {x : Operand} {sz k o n : Nat} {v : Value} {us cs vs : List Value} (ht : tyk c.P t = some (true, n)) (hs : SlIn c L sz v us) (hx : ev E x = some (sptr v k o sz)) (hc : Za4 us k sz = cs) (hv : (cs.drop o).take n = vs) (hl : Nat.beq vs.length n = true) (hn : Nat.blt 0 n = true) :
    Zz c E L (.load t x) (.agg vs.toArray) := fun a w o' hf hw ho => by
  have hl' := Nat.eq_of_beq_eq_true hl
  have hn' : 0 < n := by simpa using hn
  have hat : ∀ j u, vs[j]? = some u → us[k * sz + o + j]? = some u := fun j u hj => by
    rw [← hv, List.getElem?_take] at hj
    split at hj
    · rw [List.getElem?_drop] at hj
      have := ZrA hc hj
      rwa [← Nat.add_assoc] at this
    · cases hj
  have h0 : 0 < vs.length := by omega
  have h1 := hat 0 _ (List.getElem?_eq_getElem h0)
  have hlt := (List.getElem?_eq_some_iff.1 h1).1
  obtain ⟨b, off, len, cap, rfl, hr⟩ := Zrp (k := k) (hs w hw) (by omega)
  have hraw : Zjk w b (off + (k * sz + o)) vs := fun j u hj => by
    have := hr _ _ (hat j u hj)
    simpa [Nat.add_assoc] using this
  simp [execOp, ho, hf.eval hx, sptr, Instr.loadAt, Instr.sureAddr, Zgj ht hl' hraw]
theorem Zpo {α : Type} [Flat α] {xs : List α} {k : Nat} (h : k < xs.length) : Za4 (encs xs) k (Flat.sz α) = Flat.enc (gx xs k) := Zjq xs k _ (ZkP h)

theorem pex {x : Operand} {vs : List Value} {i : Nat} {v : Value} (hx : ev E x = some (.tuple vs.toArray)) (hv : vs[i]? = some v) : Zz c E L (.extract x i) v := fun a w o hf _ ho => by
  simp [execOp, ho, hf.eval hx, Instr.extract, hv]
theorem Zl {t : TypeId} {ps : List (Nat × Operand)} {qs : List (Nat × Value)} {cs : Array Value} (hq : evp E ps = some qs) (h : c.P.built t qs = some cs) : Zz c E L (.build t ps.toArray) (.agg cs) := fun a w o hf _ ho => by
  have e : Array.map (fun x : Nat × Operand => match x with | (i, x) => (i, a.eval x)) ps.toArray = qs.toArray := by
    rw [← hf.evalp hq]; simp
  have hr := run_build (P := c.P) w t qs.toArray cs (by simpa using h)
  simp [execOp, ho, e, hr]
end
end Go.Proofs.YtjfjbgihojiijacGreatDoor
