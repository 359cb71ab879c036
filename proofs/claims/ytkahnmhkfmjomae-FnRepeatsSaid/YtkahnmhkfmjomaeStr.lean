/-
  Strings, bytes and the bits of integers.
-/
import Derived.Test.YtkahnmhkfmjomaeOpt
import Derived.Laws.BytesString
import Derived.Laws.Concat
namespace Go.Proofs.Ytkahnmhkfmjomae
open Go Go.RowKit

def seq (s t : Str) : Bool := s.b == t.b
def slt (s t : Str) : Bool := Op.bytesLess s.b t.b
def shrI (x n : Int) : Int := x.fdiv (2 ^ (min n.toNat 64))
def andI (x y : Int) : Int := wr ((BitVec.ofInt 64 x &&& BitVec.ofInt 64 y).toNat : Int)
def isU8 (P : Program) (t : TypeId) : Bool := match P.underlying t with | some (.int .u8) => true | _ => false
def isInt (P : Program) (t : TypeId) : Bool := match P.underlying t with | some (.int .i64) => true | _ => false
def isStr (P : Program) (t : TypeId) : Bool := match P.underlying t with | some .string => true | _ => false
theorem isU8_spec {P : Program} {t : TypeId} (h : isU8 P t = true) : P.underlying t = some (.int .u8) := by
  unfold isU8 at h; split at h <;> simp_all
theorem isInt_spec {P : Program} {t : TypeId} (h : isInt P t = true) : P.underlying t = some (.int .i64) := by
  unfold isInt at h; split at h <;> simp_all
theorem isStr_spec {P : Program} {t : TypeId} (h : isStr P t = true) : P.underlying t = some .string := by
  unfold isStr at h; split at h <;> simp_all
section
variable {c : Cx} {E : Env} {L L' : List Asn}
theorem po_u8int {t d : TypeId} {x : Operand} {b : UInt8} (ht : isU8 c.P t = true) (hd : isInt c.P d = true) (hx : ev E x = some (.int .u8 (b.toNat : Int))) : PureOp c E L (.convert t d x) (.int .i64 (b.toNat : Int)) := fun a w o hf _ ho => by
  have hb := b.toNat_lt
  have e : IntKind.i64.wrap (b.toNat : Int) = (b.toNat : Int) := wr_id (n := (b.toNat : Int)) (by omega) (by omega)
  simp [execOp, ho, hf.eval hx, convert, run_underlying (isU8_spec ht), run_underlying (isInt_spec hd), Conv.intToInt, e]
theorem po_shr {t u : TypeId} {k : IntKind} {x y : Operand} {p q : Int} (hx : ev E x = some (.int .i64 p)) (hy : ev E y = some (.int k q)) (h : 0 ≤ q) : PureOp c E L (.binOp .shr t x y u) (.int .i64 (shrI p q)) := fun a w o hf _ ho => by
  have hn : ¬ q < 0 := by omega
  simp [execOp, ho, hf.eval hx, hf.eval hy, eqGuard, binOp, Op.shift, hn, shrI, IntKind.bits]
theorem po_and {t u : TypeId} {x y : Operand} {p q : Int} (hx : ev E x = some (.int .i64 p)) (hy : ev E y = some (.int .i64 q)) : PureOp c E L (.binOp .and t x y u) (.int .i64 (andI p q)) := fun a w o hf _ ho => by
  have e : Op.intBits .and .i64 p q = pure (.int .i64 (andI p q)) := rfl
  simp [execOp, ho, hf.eval hx, hf.eval hy, eqGuard, binOp, e]
end
end Go.Proofs.Ytkahnmhkfmjomae
