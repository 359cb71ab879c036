/-
  Operations that make or write memory, and calls.
-/
import Derived.Test.YtjfjbgihojiijacGreatDoorOps
namespace Go.Proofs.YtjfjbgihojiijacGreatDoor
open Go Go.RowKit

theorem Zpu (w : World) (o : Obj) (fp : List Nat) : Keep fp w (w.alloc o) :=
  ⟨rfl, rfl, rfl, by simp, fun k hk _ => Below.heap_alloc w o k hk⟩
theorem SH.alloc {w0 w : World} {ex : List Nat} {L : List Asn} (h : SH w0 ex L w) (cs : List Value) (t : TypeId) : SH w0 ex (box w.heap.size cs :: L) (w.alloc (.cells cs.toArray t)) :=
  SH.step (L0 := []) (L1 := [box w.heap.size cs]) h fun fp _ _ _ =>
    ⟨Zpu w _ fp, [w.heap.size], ⟨[w.heap.size], [], rfl, ⟨rfl, t, heap_alloc_new w _⟩, rfl⟩, by simp, by simp⟩

theorem Zkv (w : World) (b : Nat) (cs : Array Value) : Keep [b] w (w.setRow b cs) :=
  ⟨rfl, rfl, rfl, by simp [World.setRow], fun k _ hne => setRow_other w b k cs (by simpa using hne)⟩

section
variable {c : Cx} {E : Env} {L L' : List Asn}

theorem eal {t : TypeId} {cs : List Value} (h : (c.P.info? t).map (fun i => i.zero.map (·.cells.toList)) = some (some cs)) : Zjo c E L (.alloc t) (fun b => ptr b 0) (fun b => box b cs :: L) := fun a w o _ hs ho => by
  cases hi : c.P.info? t with
  | none => simp [hi] at h
  | some i =>
    cases hz : i.zero with
    | none => simp [hi, hz] at h
    | some z =>
      simp [hi, hz] at h
      have e : z.cells = cs.toArray := by rw [← h]
      refine ⟨w.heap.size, w.alloc (.cells cs.toArray t), ?_, hs.alloc cs t⟩
      simp [execOp, ho, Instr.alloc, zeroValue, typeInfo, hi, hz, newVar, newRow, e, ptr]
theorem Zg {t : TypeId} {x : Operand} {v : Value} {cs : List Value} (hx : ev E x = some v) (hv : v.cells = cs.toArray) : Zjo c E L (.box t x) (fun b => ptr b 0) (fun b => box b cs :: L) := fun a w o hf hs ho => by
  refine ⟨w.heap.size, w.alloc (.cells cs.toArray t), ?_, hs.alloc cs t⟩
  simp [execOp, ho, Instr.box, newVar, newRow, hf.eval hx, hv, ptr]

theorem Zl6 {P : Program} {t : TypeId} {k : Bool} {n : Nat} (ht : tyk P t = some (k, n)) {w : World} {b o : Nat} {cs vs : List Value} {v : Value} {T : TypeId} (hb : w.heap[b]? = some (.cells cs.toArray T (0, 0)))
    (hv : v.cells = vs.toArray) (hl : vs.length = n) (ho : o + n ≤ cs.length) (h1 : ∀ u ∈ vs, u.oneCell' = true) :
    (storeVar t ⟨b, o, none⟩ v).run P w = .ok () (w.setRow b (cs.take o ++ vs ++ cs.drop (o + n)).toArray) := by
  have hst := run_storeCells_at P b o T vs 0 cs.toArray w hb (by simp; omega) h1
  simp only [Nat.add_zero] at hst
  simp [storeVar, Zpw ht, hv, hl, hst]

def put_ (cs : List Value) (o : Nat) (vs : List Value) : List Value := cs.take o ++ vs ++ cs.drop (o + vs.length)

theorem sbx {t : TypeId} {x y : Operand} {k : Bool} {n b o : Nat} {cs vs cs' : List Value} {v : Value} (ht : tyk c.P t = some (k, n)) (hp : Pick (box b cs) L L') (hx : ev E x = some (ptr b o)) (hy : ev E y = some v)
    (hv : v.cells = vs.toArray) (hl : Nat.beq vs.length n = true) (hb : Nat.ble (o + n) cs.length = true) (h1 : vs.all (·.oneCell') = true) (hcs : put_ cs o vs = cs') : Zo9 c E L (.store t x y) (box b cs' :: L') := fun a w o' hf hs ho => by
  have hs' := hs.pick hp
  obtain ⟨T, hT⟩ := hs.at_box hp
  have hl' := Nat.eq_of_beq_eq_true hl
  have hr := Zl6 ht (o := o) hT hv hl' (Nat.le_of_ble_eq_true hb) (by simpa using h1)
  refine ⟨w.setRow b cs'.toArray, ?_, ?_⟩
  · rw [← hcs, put_, hl']
    simp [execOp, ho, Instr.storeAt, Instr.sureAddr, hf.eval hx, hf.eval hy, ptr, hr]
  · refine SH.step (L0 := [box b cs]) (L1 := [box b cs']) hs' fun fp hfp _ hlt => ?_
    obtain ⟨f1, f2, rfl, ⟨rfl, _⟩, h2⟩ := hfp
    have e2 : f2 = [] := h2
    subst e2
    refine ⟨Zkv w b _, [b], ⟨[b], [], rfl, ⟨rfl, T, setRow_heap w b _ _ T (0, 0) hT⟩, rfl⟩, by simp, fun q hq => ?_⟩
    have e : q = b := by simpa using hq
    subst e
    exact ⟨.inl (by simp), by simpa [World.setRow] using hlt q (by simp)⟩

/-- A call of a named function. -/
theorem ZjG {P : Program} {f : Nat} {fn : Func} {cd : Code} (hf : P.funcs[f]? = some fn) (hb : fn.body = some cd) (hn : (fn.name == "runtime.NumGoroutine") = false) (args : Array Value) (w : World) : (callFunc f args).run P w = .ok (.enter f args) w := by
  have hn' : ¬ fn.name = "runtime.NumGoroutine" := by simpa using hn
  simp [callFunc, program, Sem.run, hf, hb, hn']
theorem ZpW {f : Nat} {fn : Func} {cd : Code} {xs : List Operand} {ts : Array TypeId} {vs : List Value} {X : Type} {v : X → Value} {L1 : X → List Asn} (hf : c.P.funcs[f]? = some fn) (hb : fn.body = some cd) (hn : (fn.name == "runtime.NumGoroutine") = false) (hx : evs E xs = some vs)
    (h : ∀ w, SH c.w0 c.ex L w → Calls c.P f vs.toArray w fun e w' => ∃ x, e = .returned (v x) ∧ SH w [] (L1 x) w') :
    ZcG c E L (.call { callee := .value (.func f), args := xs.toArray, argTypes := ts }) v (fun x => L1 x ++ L) := fun a w o hfit hs ho => by
  refine ⟨f, vs.toArray, ?_, (h w hs).mono ?_⟩
  · have e : xs.map a.eval = vs := hfit.evals hx
    have e2 : Array.map a.eval xs.toArray = vs.toArray := by rw [← e]; simp
    simp [execOp, ho, resolve, Deferred.ofValue, Act.eval, invoke, e2, ZjG hf hb hn]
  · rintro e w' ⟨x, he, h2⟩
    exact ⟨x, he, hs.call h2⟩
end
end Go.Proofs.YtjfjbgihojiijacGreatDoor
