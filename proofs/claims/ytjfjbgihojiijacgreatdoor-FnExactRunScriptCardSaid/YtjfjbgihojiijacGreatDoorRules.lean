/-
  The rules of a walk: goals over a symbolic state (slots E, owned memory L).
-/
import Derived.Test.YtjfjbgihojiijacGreatDoorMem
namespace Go.Proofs.YtjfjbgihojiijacGreatDoor
open Go Go.RowKit

structure Cx where
  P : Program
  n : Nat
  w0 : World
  ex : List Nat

abbrev Env := List (Nat × Value)
abbrev Post := Exit → Act → World → Prop

def WL (c : Cx) (E : Env) (L : List Asn) (ops : Array Oper) (Q : Post) (rest : List Oper) : Prop := ∀ a w, Fits c.n E a → SH c.w0 c.ex L w → wpList c.P ops Q rest a w
def WC (c : Cx) (E : Env) (L : List Asn) (code : Code) (Q : Post) : Prop := ∀ a w, Fits c.n E a → SH c.w0 c.ex L w → code.wp c.P Q a w
def WQ (c : Cx) (E : Env) (L : List Asn) (Q : Post) (e : Exit) : Prop := ∀ a w, Fits c.n E a → SH c.w0 c.ex L w → Q e a w

/-- The operation yields v and leaves memory alone. -/
def Zz (c : Cx) (E : Env) (L : List Asn) (op : Op) (v : Value) : Prop :=
  ∀ (a : Act) (w : World) (o : Oper), Fits c.n E a → SH c.w0 c.ex L w → o.op = op → (execOp a.eval o).run c.P w = .ok (.value v) w
/-- The operation yields 'v x' for some x, and leaves 'L' x' owned. -/
def Zjo (c : Cx) (E : Env) (L : List Asn) (op : Op) {X : Type} (v : X → Value) (L' : X → List Asn) : Prop :=
  ∀ (a : Act) (w : World) (o : Oper), Fits c.n E a → SH c.w0 c.ex L w → o.op = op → ∃ x w', (execOp a.eval o).run c.P w = .ok (.value (v x)) w' ∧ SH c.w0 c.ex (L' x) w'
/-- The operation yields nothing. -/
def Zo9 (c : Cx) (E : Env) (L : List Asn) (op : Op) (L' : List Asn) : Prop :=
  ∀ (a : Act) (w : World) (o : Oper), Fits c.n E a → SH c.w0 c.ex L w → o.op = op → ∃ w', (execOp a.eval o).run c.P w = .ok .skip w' ∧ SH c.w0 c.ex L' w'
/-- The operation calls f; it returns 'v x' for some x and leaves 'L' x' owned. -/
def ZcG (c : Cx) (E : Env) (L : List Asn) (op : Op) {X : Type} (v : X → Value) (L' : X → List Asn) : Prop :=
  ∀ (a : Act) (w : World) (o : Oper), Fits c.n E a → SH c.w0 c.ex L w → o.op = op → ∃ f args, (execOp a.eval o).run c.P w = .ok (.enter f args) w ∧
    Calls c.P f args w fun e w' => ∃ x, e = .returned (v x) ∧ SH c.w0 c.ex (L' x) w'

section
variable {c : Cx} {E E' : Env} {L L' S : List Asn} {ops : Array Oper} {Q : Post} {rest : List Oper} {d : Nat} {v : Value} {op : Op} {ty : TypeId} {pos : String} {aft : Array Edge}

theorem Zjr {o : Oper} (hg : o.guard = none) (h : ∀ K : Act → World → Prop, (∀ a w, wpList c.P ops Q rest a w → K a w) → ∀ a w, Fits c.n E a → SH c.w0 c.ex L w → o.wp c.P a w K Q) : WL c E L ops Q (o :: rest) :=
  fun a w hf hs => wpList_plain hg fun K hK => h K hK a w hf hs

theorem Zqn {K : Act → World → Prop} {g : Option (Nat × Bool)} {a : Act} {w : World} (hp : Zz c E L op v) (hf : Fits c.n E a) (hs : SH c.w0 c.ex L w) (hk : K (a.put (some d) v) w) :
    (⟨some d, op, ty, pos, aft, g⟩ : Oper).wp c.P a w K Q := by
  unfold Oper.wp; rw [hp a w _ hf hs rfl]; exact hk

theorem wlq (hp : Zz c E L op v) (hd : Nat.blt d c.n = true) (k : WL c ((d, v) :: E) L ops Q rest) : WL c E L ops Q (⟨some d, op, ty, pos, aft, none⟩ :: rest) :=
  Zjr rfl fun _ hK _ _ hf hs => Zqn hp hf hs (hK _ _ (k _ _ (hf.put v hd) hs))
theorem wle {X : Type} {v : X → Value} {L' : X → List Asn} (hp : Zjo c E L op v L') (hd : Nat.blt d c.n = true) (k : ∀ x, WL c ((d, v x) :: E) (L' x) ops Q rest) : WL c E L ops Q (⟨some d, op, ty, pos, aft, none⟩ :: rest) :=
  Zjr rfl fun _ hK a w hf hs => by
    obtain ⟨x, w', h1, h2⟩ := hp a w ⟨some d, op, ty, pos, aft, none⟩ hf hs rfl
    unfold Oper.wp; rw [h1]
    exact hK _ _ (k x _ _ (hf.put _ hd) h2)
theorem wlc {X : Type} {v : X → Value} {L' : X → List Asn} (hp : ZcG c E L op v L') (hd : Nat.blt d c.n = true) (k : ∀ x, WL c ((d, v x) :: E) (L' x) ops Q rest) : WL c E L ops Q (⟨some d, op, ty, pos, aft, none⟩ :: rest) :=
  Zjr rfl fun _ hK a w hf hs => by
    obtain ⟨f, args, h1, h2⟩ := hp a w ⟨some d, op, ty, pos, aft, none⟩ hf hs rfl
    unfold Oper.wp; rw [h1]
    refine h2.mono ?_
    rintro e w' ⟨x, rfl, h3⟩
    exact hK _ _ (k x _ _ (hf.put _ hd) h3)
theorem wls (hp : Zo9 c E L op L') (k : WL c E L' ops Q rest) : WL c E L ops Q (⟨none, op, ty, pos, aft, none⟩ :: rest) :=
  Zjr rfl fun _ hK a w hf hs => by
    obtain ⟨w', h1, h2⟩ := hp a w ⟨none, op, ty, pos, aft, none⟩ hf hs rfl
    unfold Oper.wp; rw [h1]
    exact hK _ _ (k _ _ (hf.put_none _) h2)
theorem wln (k : WQ c E L Q .normal) : WL c E L ops Q [] := fun a w hf hs => wpList_nil (k a w hf hs)

/-- What a guard looks at. -/
theorem Zh5 {a : Act} {j dj : Nat} {oj : Oper} {b : Bool} (hf : Fits c.n E a) (ho : ops[j]? = some oj) (hd : oj.dst = some dj) (hv : lk E dj = some (.bool b)) : yielded ops a.tmps j = some b := by
  have h1 := hf.look dj _ hv
  simp [yielded, ho, hd, h1]
theorem wgn {dst : Option Tmp} {j dj : Nat} {oj : Oper} {b : Bool} (ho : ops[j]? = some oj) (hd : oj.dst = some dj) (hv : lk E dj = some (.bool b))
    (k : WL c E L ops Q (⟨dst, op, ty, pos, aft, none⟩ :: rest)) : WL c E L ops Q (⟨dst, op, ty, pos, aft, some (j, b)⟩ :: rest) := fun a w hf hs => by
  have hy := Zh5 hf ho hd hv
  have hw : Region.wanted (⟨dst, op, ty, pos, aft, some (j, b)⟩ : Oper) (yielded ops a.tmps) = true := by simp [Region.wanted, hy]
  have := k a w hf hs
  simp only [wpList] at this ⊢
  simp only [hw, if_true]
  simp only [Region.wanted, if_true] at this
  exact this
theorem wgf {j dj : Nat} {oj : Oper} {b b' : Bool} (ho : ops[j]? = some oj) (hd : oj.dst = some dj) (hv : lk E dj = some (.bool b)) (hb : (b == b') = false) (hd' : Nat.blt d c.n = true)
    (k : WL c ((d, undef) :: E) L ops Q rest) : WL c E L ops Q (⟨some d, op, ty, pos, aft, some (j, b')⟩ :: rest) := fun a w hf hs => by
  have hy := Zh5 hf ho hd hv
  have hw : Region.wanted (⟨some d, op, ty, pos, aft, some (j, b')⟩ : Oper) (yielded ops a.tmps) = false := by
    simp [Region.wanted, hy]; simpa using hb
  exact wpList_skip hw (k _ _ (hf.put _ hd') hs)

/-- Two ways: the Bool in a slot is true, or it is not. -/
theorem Zae {t : Nat} {b : Bool} (h : lk E t = some (.bool b)) (h1 : b = true → WL c ((t, .bool true) :: E) L ops Q rest) (h2 : b = false → WL c ((t, .bool false) :: E) L ops Q rest) : WL c E L ops Q rest := fun a w hf hs => by
  cases b
  · exact h2 rfl a w (hf.add (hf.look t _ h)) hs
  · exact h1 rfl a w (hf.add (hf.look t _ h)) hs
/-! ### Code -/
theorem wcs {x y : Code} (k : WC c E L x (Exit.then (y.wp c.P Q) Q)) : WC c E L (.seq x y) Q := fun a w hf hs => wp_seq (k a w hf hs)
theorem wcg {id : Nat} {l : List Oper} (k : WL c E L l.toArray Q l) : WC c E L (.region id l.toArray false) Q := fun a w hf hs => wp_region_lit (k a w hf hs)
theorem wck (k : WQ c E L Q .normal) : WC c E L .skip Q := fun a w hf hs => wp_skip (k a w hf hs)
theorem wct (k : WQ c E L Q .ret) : WC c E L .ret Q := fun a w hf hs => wp_ret (k a w hf hs)
theorem wcx {id : Nat} (k : WQ c E L Q (.exit id)) : WC c E L (.exit id) Q := fun a w hf hs => wp_exit (k a w hf hs)
theorem wcb {id : Nat} {x : Code} (k : WC c E L x (Exit.inBlock id Q)) : WC c E L (.block id x) Q := fun a w hf hs => wp_block (k a w hf hs)
theorem Zbn {t : Nat} {b : Bool} {x y : Code} (h : lk E t = some (.bool b)) (h1 : b = true → WC c E L x Q) (h2 : b = false → WC c E L y Q) : WC c E L (.cond (.tmp t) x y) Q := fun a w hf hs => by
  have he : a.eval (.tmp t) = .bool b := hf.eval (x := .tmp t) h
  exact wp_cond_split he (fun e => h1 e a w hf hs) (fun e => h2 e a w hf hs)
theorem wft {t : Nat} {b : Bool} {x y : Code} (h : lk E t = some (.bool b)) (hb : b = true) (h1 : WC c E L x Q) : WC c E L (.cond (.tmp t) x y) Q := Zbn h (fun _ => h1) (fun e => by rw [hb] at e; cases e)
theorem wff {t : Nat} {b : Bool} {x y : Code} (h : lk E t = some (.bool b)) (hb : b = false) (h2 : WC c E L y Q) : WC c E L (.cond (.tmp t) x y) Q := Zbn h (fun e => by rw [hb] at e; cases e) (fun _ => h2)

theorem wqt {y : Code} (k : WC c E L y Q) : WQ c E L (Exit.then (y.wp c.P Q) Q) .normal := k
theorem wqe {K : Act → World → Prop} {id : Nat} (k : WQ c E L Q (.exit id)) : WQ c E L (Exit.then K Q) (.exit id) := k
theorem wqr {K : Act → World → Prop} (k : WQ c E L Q .ret) : WQ c E L (Exit.then K Q) .ret := k
theorem wqb {id : Nat} (k : WQ c E L Q .normal) : WQ c E L (Exit.inBlock id Q) .normal := k
theorem wbr {id : Nat} (k : WQ c E L Q .ret) : WQ c E L (Exit.inBlock id Q) .ret := k
theorem wbx {id : Nat} (k : WQ c E L Q .normal) : WQ c E L (Exit.inBlock id Q) (.exit id) := fun a w hf hs => by
  simp only [Exit.inBlock, if_true]; exact k a w hf hs
/-! ### A function -/
theorem cwc {P : Program} {f : FuncId} {fn : Func} {code : Code} {n : Nat} {args : List Value} {w : World} {R : Ending → World → Prop} (hf : P.funcs[f]? = some fn) (hb : fn.body = some code) (hn : fn.ntmps = n)
    (hl : Nat.ble args.length n = true) (h : WC ⟨P, n, w, []⟩ (argE 0 args) [] code (bodyPost P fn R)) : Calls P f args.toArray w R :=
  calls_of_wp hf hb (h _ _ (Fits.start hn args hl) (SH.start w))
theorem SH.start_own (w : World) (L : List Asn) (fp : List Nat) (h : sat w L fp) (hn : fp.Nodup) (hb : ∀ b ∈ fp, b < w.heap.size) : SH w fp L w :=
  ⟨Keep.refl _ _, fp, h, hn, fun b hm => ⟨.inr hm, hb b hm⟩⟩
/-- L is owned: the blocks fp. -/
def Ow (w : World) (L : List Asn) (fp : List Nat) : Prop := sat w L fp ∧ fp.Nodup ∧ ∀ b ∈ fp, b < w.heap.size
theorem SHo.ow {w0 w : World} {ex fp : List Nat} {L0 L : List Asn} (h : SHo w0 ex L0 L w fp) : Ow w L0 fp := by
  obtain ⟨_, f2, h1, _, hn, hb⟩ := h
  exact ⟨h1, (List.nodup_append.1 hn).1, fun b hm => (hb b (List.mem_append_left _ hm)).2⟩
theorem Zh1 {P : Program} {f : FuncId} {fn : Func} {code : Code} {n : Nat} {args : List Value} {w : World} {fp : List Nat} {L : List Asn} {R : Ending → World → Prop} (ho : Ow w L fp)
    (hf : P.funcs[f]? = some fn) (hb : fn.body = some code) (hn : fn.ntmps = n)
    (hl : Nat.ble args.length n = true) (h : WC ⟨P, n, w, fp⟩ (argE 0 args) L code (bodyPost P fn R)) : Calls P f args.toArray w R :=
  calls_of_wp hf hb (h _ _ (Fits.start hn args hl) (SH.start_own w L fp ho.1 ho.2.1 ho.2.2))

/-- The end: the results lie in slots. -/
theorem wq1 {fn : Func} {R : Ending → World → Prop} {t : Nat} {v : Value} (hr : fn.results = #[.tmp t]) (h : lk E t = some v) (k : ∀ w, SH c.w0 c.ex L w → R (.returned v) w) : WQ c E L (bodyPost c.P fn R) .ret := fun a w hf hs =>
  bodyPost_ret (results_tmp hr _ _ _) hf.defers (by
    have := hf.look t v h
    rw [show a.tmps.getD t undef = v by simp [this]]
    exact k w hs)
theorem ZJ {fn : Func} {R : Ending → World → Prop} {t u : Nat} {v v' : Value} (hr : fn.results = #[.tmp t, .tmp u]) (h : lk E t = some v) (h' : lk E u = some v') (k : ∀ w, SH c.w0 c.ex L w → R (.returned (.tuple #[v, v'])) w) :
    WQ c E L (bodyPost c.P fn R) .ret := fun a w hf hs =>
  bodyPost_ret (results_tmp2 hr _ _ _) hf.defers (by
    have h1 := hf.look t v h
    have h2 := hf.look u v' h'
    rw [show a.tmps.getD t undef = v by simp [h1], show a.tmps.getD u undef = v' by simp [h2]]
    exact k w hs)

/-- Ways meet again: in one of the states 'E' x', 'L' x'. -/
def ZuM {X : Type} (c : Cx) (p : X → Prop) (E1 : X → Env) (L1 : X → List Asn) : Act → World → Prop := fun a w => ∃ x, p x ∧ Fits c.n (E1 x) a ∧ SH c.w0 c.ex (L1 x) w
theorem wcj {X : Type} {code : Code} (p : X → Prop) (E1 : X → Env) (L1 : X → List Asn) (h : WC c E L code (Exit.then (ZuM c p E1 L1) Q)) (k : ∀ x, p x → WQ c (E1 x) (L1 x) Q .normal) : WC c E L code Q := fun a w hf hs => by
  refine Code.wp_mono ?_ (h a w hf hs)
  intro e a w h
  cases e with
  | normal =>
    obtain ⟨x, h1, h2, h3⟩ := h
    exact k x h1 a w h2 h3
  | _ => exact h
theorem wqm {X : Type} {p : X → Prop} {E1 : X → Env} {L1 : X → List Asn} (x : X) (hp : p x) (hE : Sub (E1 x) E) (hL : ZaD (L1 x) L) : WQ c E L (Exit.then (ZuM c p E1 L1) Q) .normal := fun _ _ hf hs => ⟨x, hp, hf.sub hE, hs.weak hL⟩

/-! ### Loops -/
inductive Res (S R : Type) where
  | next (s : S)
  | brk (s : S)
  | ret (r : R)

def forI {S R : Type} (f : Nat → S → Res S R) : Nat → Nat → S → S ⊕ R
  | 0, _, s => .inl s
  | n + 1, k, s => match f k s with
    | .next s' => forI f n (k + 1) s'
    | .brk s' => .inl s'
    | .ret r => .inr r
/-- A loop that never returns: its end. -/
def lp {S : Type} (f : Nat → S → Res S Empty) (N : Nat) (s0 : S) : S := match forI f N 0 s0 with
  | .inl s => s
  | .inr r => nomatch r
theorem Zqk {P : Program} {c : Code} {Q : Post} (N : Nat) (J : Nat → Act → World → Prop) {a : Act} {w : World} (h0 : J 0 a w)
    (round : ∀ k, k ≤ N → ∀ a w, J k a w → c.wp P (Exit.then (fun a' w' => k < N ∧ J (k + 1) a' w') Q) a w) : (Code.loop c).wp P Q a w := by
  refine wp_loop_rounds (N + 1) ?_
  have key : ∀ m k, k + m = N + 1 → k ≤ N → ∀ a w, J k a w → Code.rounds P c Q m a w := by
    intro m
    induction m with
    | zero => intro k h1 h2; omega
    | succ m ih =>
      intro k h1 h2 a w hJ
      rw [rounds_succ]
      refine Code.wp_mono ?_ (round k h2 a w hJ)
      intro e a w h
      cases e with
      | normal => exact ih (k + 1) (by omega) h.1 a w h.2
      | _ => exact h
  exact key (N + 1) 0 (by omega) (Nat.zero_le _) a w h0
/-! results -/
theorem ZoB {P : Program} {fn : Func} {t : Nat} {ty : TypeId} (hr : fn.results = #[.cell t ty]) {tmps : Array Value} {w : World} {b o : Nat} {v : Value} (h : tmps[t]? = some (.pointer (some ⟨b, o, none⟩))) (hv : (loadVar ty ⟨b, o, none⟩).run P w = .ok v w) : (results fn tmps).run P w = .ok v w := by
  simp [results, hr, h, hv, asAddr]
theorem Znn {P : Program} {fn : Func} {t u : Nat} {ty : TypeId} (hr : fn.results = #[.cell t ty, .tmp u]) {tmps : Array Value} {w : World} {b o : Nat} {v v' : Value} (h : tmps[t]? = some (.pointer (some ⟨b, o, none⟩))) (hv : (loadVar ty ⟨b, o, none⟩).run P w = .ok v w) (h' : tmps[u]? = some v') : (results fn tmps).run P w = .ok (.tuple #[v, v']) w := by
  simp [results, hr, h, hv, h', asAddr]
end
end Go.Proofs.YtjfjbgihojiijacGreatDoor
