/-
  Strings, bytes and the bits of integers.
-/
import Derived.Test.YtjfjbgihojiijacGreatDoorOpt
import Derived.Laws.BytesString
import Derived.Laws.Concat
namespace Go.Proofs.YtjfjbgihojiijacGreatDoor
open Go Go.RowKit

def sadd (s t : Str) : Str := ⟨s.b ++ t.b⟩
def seq (s t : Str) : Bool := s.b == t.b
def slt (s t : Str) : Bool := Op.bytesLess s.b t.b
def ssub (s : Str) (l h : Nat) : Str := ⟨(s.b.drop l).take (h - l)⟩
def sat_ (s : Str) (k : Nat) : UInt8 := s.b.getD k 0
def u8of (n : Int) : UInt8 := UInt8.ofNat (n % 256).toNat
def shrI (x n : Int) : Int := x.fdiv (2 ^ (min n.toNat 64))
def shlI (x n : Int) : Int := wr (x * 2 ^ (min n.toNat 64))
def andI (x y : Int) : Int := wr ((BitVec.ofInt 64 x &&& BitVec.ofInt 64 y).toNat : Int)
def orI (x y : Int) : Int := wr ((BitVec.ofInt 64 x ||| BitVec.ofInt 64 y).toNat : Int)
def isU8 (P : Program) (t : TypeId) : Bool := match P.underlying t with | some (.int .u8) => true | _ => false
def Zo3 (P : Program) (t : TypeId) : Bool := match P.underlying t with | some (.int .i64) => true | _ => false
def Zli (P : Program) (t : TypeId) : Bool := match P.underlying t with | some .string => true | _ => false
/-- The element type of a slice of bytes. -/
def ZmX (P : Program) (t : TypeId) : Bool := match P.underlying t with | some (.slice e) => isU8 P e | _ => false
theorem Zmy {P : Program} {t : TypeId} (h : isU8 P t = true) : P.underlying t = some (.int .u8) := by
  unfold isU8 at h; split at h <;> simp_all
theorem Zpf {P : Program} {t : TypeId} (h : Zo3 P t = true) : P.underlying t = some (.int .i64) := by
  unfold Zo3 at h; split at h <;> simp_all
theorem Zju {P : Program} {t : TypeId} (h : Zli P t = true) : P.underlying t = some .string := by
  unfold Zli at h; split at h <;> simp_all
theorem Zre {P : Program} {t : TypeId} (h : ZmX P t = true) : ∃ e, P.underlying t = some (.slice e) ∧ P.underlying e = some (.int .u8) := by
  unfold ZmX at h
  split at h
  · exact ⟨_, by assumption, Zmy h⟩
  · cases h

theorem Zsu (l : List UInt8) : (⟨l.toArray⟩ : ByteArray).size = l.length := rfl

section
variable {c : Cx} {E : Env} {L L' : List Asn}
theorem ZbM {t : TypeId} {x : Operand} {s : Str} (ht : Zli c.P t = true) (hx : ev E x = some (bs s)) :
    Zz c E L (.call { callee := .builtin .len, args := #[x], argTypes := #[t] }) (.int .i64 ((s.b.length : Nat) : Int)) := fun a w o hf _ ho => by
  simp [execOp, ho, resolve, invoke, builtin, Builtin.len_, run_underlying (Zju ht), hf.eval hx, goInt, bs, Zsu]
theorem ZO {t u : TypeId} {x y : Operand} {s q : Str} (hx : ev E x = some (bs s)) (hy : ev E y = some (bs q)) (h : s.b.length + q.b.length ≤ 1099511627776) : Zz c E L (.binOp .add t x y u) (bs (sadd s q)) := fun a w o hf _ ho => by
  have hr := run_string_add_sum (P := c.P) w ⟨s.b.toArray⟩ ⟨q.b.toArray⟩ (by simp [ByteArray.size]; omega)
  have e : (⟨s.b.toArray⟩ ++ ⟨q.b.toArray⟩ : ByteArray) = ⟨(s.b ++ q.b).toArray⟩ := by
    apply ByteArray.ext; simp [ByteArray.data_append]
  rw [e] at hr
  simp [execOp, ho, hf.eval hx, hf.eval hy, eqGuard, binOp, bs, sadd, hr]
theorem ZpJ {t u : TypeId} {x y : Operand} {s q : Str} (hx : ev E x = some (bs s)) (hy : ev E y = some (bs q)) : Zz c E L (.binOp .eql t x y u) (.bool (seq s q)) := fun a w o hf _ ho => by
  simp [execOp, ho, hf.eval hx, hf.eval hy, eqGuard, binOp, bs, seq, Op.stringOp]
theorem ZkU {t u : TypeId} {x y : Operand} {s q : Str} (hx : ev E x = some (bs s)) (hy : ev E y = some (bs q)) : Zz c E L (.binOp .neq t x y u) (.bool (!(seq s q))) := fun a w o hf _ ho => by
  simp [execOp, ho, hf.eval hx, hf.eval hy, eqGuard, binOp, bs, seq, Op.stringOp]
theorem ZsA {t u : TypeId} {x y : Operand} {s q : Str} (hx : ev E x = some (bs s)) (hy : ev E y = some (bs q)) : Zz c E L (.binOp .lss t x y u) (.bool (slt s q)) := fun a w o hf _ ho => by
  simp [execOp, ho, hf.eval hx, hf.eval hy, eqGuard, binOp, bs, slt, Op.stringOp]
theorem Ze2 {t : TypeId} {x ix : Operand} {s : Str} {k : Nat} (ht : Zli c.P t = true) (hx : ev E x = some (bs s)) (hi : ev E ix = some (.int .i64 ((k : Nat) : Int))) (hk : k < s.b.length) :
    Zz c E L (.index t x ix) (.int .u8 ((sat_ s k).toNat : Int)) := fun a w o hf _ ho => by
  have e : (⟨s.b.toArray⟩ : ByteArray)[k]? = some (sat_ s k) := by
    rw [getElem?_pos _ _ (by simpa [ByteArray.size] using hk)]
    simp [sat_, ByteArray.getElem_eq_getElem_data, List.getD, hk]
  simp [execOp, ho, Instr.index, run_underlying (Zju ht), hf.eval hx, hf.eval hi, asIntOf, bs, e]
theorem Zug {t d : TypeId} {x : Operand} {b : UInt8} (ht : isU8 c.P t = true) (hd : Zo3 c.P d = true) (hx : ev E x = some (.int .u8 (b.toNat : Int))) : Zz c E L (.convert t d x) (.int .i64 (b.toNat : Int)) := fun a w o hf _ ho => by
  have hb := b.toNat_lt
  have e : IntKind.i64.wrap (b.toNat : Int) = (b.toNat : Int) := ZsK (n := (b.toNat : Int)) (by omega) (by omega)
  simp [execOp, ho, hf.eval hx, convert, run_underlying (Zmy ht), run_underlying (Zpf hd), Conv.intToInt, e]
theorem ZtC (n : Int) : ((u8of n).toNat : Int) = IntKind.u8.wrap n := by
  have h : IntKind.u8.wrap n = n % 256 := by simp [IntKind.wrap, IntKind.bits, IntKind.signed]
  rw [h]
  have h0 : 0 ≤ n % 256 := Int.emod_nonneg _ (by decide)
  have h1 : n % 256 < 256 := Int.emod_lt_of_pos _ (by decide)
  simp [u8of]
  omega
theorem Zox {t d : TypeId} {x : Operand} {n : Int} (ht : Zo3 c.P t = true) (hd : isU8 c.P d = true) (hx : ev E x = some (.int .i64 n)) : Zz c E L (.convert t d x) (.int .u8 ((u8of n).toNat : Int)) := fun a w o hf _ ho => by
  simp [execOp, ho, hf.eval hx, convert, run_underlying (Zpf ht), run_underlying (Zmy hd), Conv.intToInt, ZtC]
theorem Zk5 {t : TypeId} {x : Operand} {lo hi : Option Operand} {s : Str} {l h : Nat} (ht : Zli c.P t = true) (hx : ev E x = some (bs s))
    (hlo : (lo = none ∧ l = 0) ∨ ∃ q, lo = some q ∧ ev E q = some (.int .i64 (l : Int))) (hhi : (hi = none ∧ h = s.b.length) ∨ ∃ q, hi = some q ∧ ev E q = some (.int .i64 (h : Int))) (h1 : l ≤ h) (h2 : h ≤ s.b.length) : Zz c E L (.slice t x lo hi none) (bs (ssub s l h)) := fun a w o hf hw ho => by
  have e1 : (lo.map a.eval = none ∧ l = 0) ∨ lo.map a.eval = some (.int .i64 (l : Int)) := by
    rcases hlo with ⟨rfl, h⟩ | ⟨q, rfl, h⟩
    · exact .inl ⟨rfl, h⟩
    · exact .inr (by simp [hf.eval h])
  have e2 : (hi.map a.eval = none ∧ h = s.b.length) ∨ hi.map a.eval = some (.int .i64 (h : Int)) := by
    rcases hhi with ⟨rfl, h⟩ | ⟨q, rfl, h⟩
    · exact .inl ⟨rfl, h⟩
    · exact .inr (by simp [hf.eval h])
  have ex : (⟨s.b.toArray⟩ : ByteArray).extract l h = ⟨((s.b.drop l).take (h - l)).toArray⟩ := by
    apply ByteArray.ext
    rw [ByteArray.data_extract]
    apply Array.ext'
    simp [List.take_drop]
  have h1' : (l : Int) ≤ (h : Int) := by omega
  have h2' : (h : Int) ≤ (s.b.length : Int) := by omega
  rcases e1 with ⟨e1, rfl⟩ | e1 <;> rcases e2 with ⟨e2, rfl⟩ | e2 <;>
    simp [execOp, ho, hf.eval hx, Instr.sliceAt, Instr.slice, e1, e2, run_underlying (Zju ht), bs, Instr.sliceBounds, Instr.sliceBound, asIntOf, Zsu, ssub, ex, h1, h2]
theorem Zsg : ∀ xs : List UInt8, encs xs = xs.map fun b => Value.int .u8 (b.toNat : Int)
  | [] => rfl
  | x :: r => by
    have := Zsg r
    simp only [encs, List.flatMap_cons, List.map_cons] at this ⊢
    rw [this]; rfl
theorem Zta {t d : TypeId} {x : Operand} {v : Value} {xs : List UInt8} (h : Rds c L v (encs xs) xs) (ht : ZmX c.P t = true) (hd : Zli c.P d = true) (hx : ev E x = some v) : Zz c E L (.convert t d x) (bs ⟨xs⟩) := fun a w o hf hw ho => by
  obtain ⟨e, he1, he2⟩ := Zre ht
  obtain ⟨⟨ad, len, cap, rfl, h2, _, _, h5⟩, hl, _⟩ := h.on hw
  have hlen : len = xs.length := by
    have : Rep.sz UInt8 = 1 := rfl
    rw [this] at h2 hl; omega
  subst hlen
  have hc := run_convert_bytes_string (P := c.P) w t d e ad xs.length cap he1 he2 (Zju hd)
  have key : (Conv.bytesToString (.slice ad xs.length cap)).run c.P w = .ok (bs ⟨xs⟩) w := by
    cases hxs : xs with
    | nil =>
      subst hxs
      cases ad with
      | none => simp [Conv.bytesToString, bs]; rfl
      | some ad =>
        exact run_bytesToString (P := c.P) w ad 0 cap [] (by simp [loadCells, loadCellsFrom])
    | cons y ys =>
      rw [← hxs]
      obtain ⟨b, off, rfl, _, hr⟩ := h5 (by rw [hxs]; simp)
      have hcells := run_loadCells_list (P := c.P) w ⟨b, off, none⟩ (encs xs) (fun j u hj => by
        have := hr j u hj
        unfold Addr.add; split
        · rename_i e0; subst e0; simpa using this
        · exact this)
      have el : (encs xs).length = xs.length := by rw [ZbW]; exact Nat.mul_one _
      rw [el] at hcells
      have em : encs xs = (xs.map fun b => (b.toNat : Int)).map (Value.int .u8) := by
        rw [List.map_map]; exact Zsg xs
      have := run_bytesToString (P := c.P) w ⟨b, off, none⟩ xs.length cap (xs.map fun b => (b.toNat : Int)) (by rw [hcells, em])
      rw [this]
      congr 1
      unfold bs
      congr 1
      have hf : ∀ (ys : List UInt8) (r : ByteArray), (ys.map fun b => (b.toNat : Int)).foldl (fun r n => r.push (UInt8.ofNat n.toNat)) r = ⟨(r.data.toList ++ ys).toArray⟩ := by
        intro ys
        induction ys with
        | nil => intro r; simp
        | cons y ys ih => intro r; rw [List.map_cons, List.foldl_cons, ih]; simp [ByteArray.push]
      rw [hf]; simp
  simp [execOp, ho, hf.eval hx, hc, key]
theorem ZvD {t u : TypeId} {k : IntKind} {x y : Operand} {p q : Int} (hx : ev E x = some (.int .i64 p)) (hy : ev E y = some (.int k q)) (h : 0 ≤ q) : Zz c E L (.binOp .shr t x y u) (.int .i64 (shrI p q)) := fun a w o hf _ ho => by
  have hn : ¬ q < 0 := by omega
  simp [execOp, ho, hf.eval hx, hf.eval hy, eqGuard, binOp, Op.shift, hn, shrI, IntKind.bits]
theorem ZwB {t u : TypeId} {k : IntKind} {x y : Operand} {p q : Int} (hx : ev E x = some (.int .i64 p)) (hy : ev E y = some (.int k q)) (h : 0 ≤ q) : Zz c E L (.binOp .shl t x y u) (.int .i64 (shlI p q)) := fun a w o hf _ ho => by
  have hn : ¬ q < 0 := by omega
  simp [execOp, ho, hf.eval hx, hf.eval hy, eqGuard, binOp, Op.shift, hn, shlI, wr, IntKind.bits]
theorem Zwa {t u : TypeId} {x y : Operand} {p q : Int} (hx : ev E x = some (.int .i64 p)) (hy : ev E y = some (.int .i64 q)) : Zz c E L (.binOp .and t x y u) (.int .i64 (andI p q)) := fun a w o hf _ ho => by
  have e : Op.intBits .and .i64 p q = pure (.int .i64 (andI p q)) := rfl
  simp [execOp, ho, hf.eval hx, hf.eval hy, eqGuard, binOp, e]
theorem Zxd {t u : TypeId} {x y : Operand} {p q : Int} (hx : ev E x = some (.int .i64 p)) (hy : ev E y = some (.int .i64 q)) : Zz c E L (.binOp .or t x y u) (.int .i64 (orI p q)) := fun a w o hf _ ho => by
  have e : Op.intBits .or .i64 p q = pure (.int .i64 (orI p q)) := rfl
  simp [execOp, ho, hf.eval hx, hf.eval hy, eqGuard, binOp, e]
end
end Go.Proofs.YtjfjbgihojiijacGreatDoor
