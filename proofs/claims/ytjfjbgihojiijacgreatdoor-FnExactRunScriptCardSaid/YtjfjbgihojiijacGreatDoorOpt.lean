/-
  Functions that may fail: guards, calls, meetings, loops; and the rules of a walk that goes along with such a function.
-/
import Derived.Test.YtjfjbgihojiijacGreatDoorMore
namespace Go.Proofs.YtjfjbgihojiijacGreatDoor
open Go Go.RowKit

/-- t, where p holds; else nothing. -/
def gd {α : Type} (p : Prop) [Decidable p] (t : Option α) : Option α := if p then t else none
/-- Behind a meeting or a loop that may end early. -/
def sqk {J C : Type} (k : J → Option C) : J ⊕ C → Option C
  | .inl j => k j
  | .inr c => some c
def sq {J C : Type} (o : Option (J ⊕ C)) (k : J → Option C) : Option C := o.bind (sqk k)
/-- A loop of at most N rounds. -/
def forO {S C : Type} (f : Nat → S → Option (Res S C)) : Nat → Nat → S → Option (S ⊕ C)
  | 0, _, s => some (.inl s)
  | n + 1, k, s => (f k s).bind fun
    | .next s' => forO f n (k + 1) s'
    | .brk s' => some (.inl s')
    | .ret c => some (.inr c)
def lpk {S : Type} : S ⊕ Empty → S
  | .inl s => s
def lpO {S : Type} (f : Nat → S → Option (Res S Empty)) (N : Nat) (s : S) : Option S := (forO f N 0 s).map lpk
/-- A loop of fewer than n rounds. -/
def whO {S C : Type} (f : S → Option (Res S C)) : Nat → S → Option (S ⊕ C)
  | 0, _ => none
  | n + 1, s => (f s).bind fun
    | .next s' => whO f n s'
    | .brk s' => some (.inl s')
    | .ret c => some (.inr c)
def wlO {S : Type} (f : S → Option (Res S Empty)) (N : Nat) (s : S) : Option S := (whO f N s).map lpk

section
variable {G : Prop} {α β J C S : Type} {r : β}
theorem gdO {p : Prop} [Decidable p] {t : Option β} (ho : gd p t = some r) (k : p → t = some r → G) : G := by
  unfold gd at ho
  split at ho
  · exact k (by assumption) ho
  · cases ho
theorem bdO {o : Option α} {k : α → Option β} (ho : o.bind k = some r) (K : ∀ v, o = some v → k v = some r → G) : G := by
  cases o with
  | none => cases ho
  | some v => exact K v rfl ho
theorem sqO {o : Option (J ⊕ C)} {k : J → Option C} {c : C} (ho : sq o k = some c) (K : ∀ y, o = some y → sqk k y = some c → G) : G := bdO ho K
theorem Zn {f : Nat → S → Option (Res S Empty)} {N : Nat} {s : S} {k : S → Option β} (ho : (lpO f N s).bind k = some r) (K : ∀ y : S, forO f N 0 s = some (.inl y) → k y = some r → G) : G := by
  unfold lpO at ho
  cases h : forO f N 0 s with
  | none => rw [h] at ho; cases ho
  | some y =>
    cases y with
    | inl y => rw [h] at ho; exact K y h ho
    | inr e => exact nomatch e
theorem ZmU {f : S → Option (Res S Empty)} {N : Nat} {s : S} {k : S → Option β} (ho : (wlO f N s).bind k = some r) (K : ∀ y : S, whO f N s = some (.inl y) → k y = some r → G) : G := by
  unfold wlO at ho
  cases h : whO f N s with
  | none => rw [h] at ho; cases ho
  | some y =>
    cases y with
    | inl y => rw [h] at ho; exact K y h ho
    | inr e => exact nomatch e
theorem cdt {b : Bool} {x y : Option β} (ho : (bif b then x else y) = some r) (h : b = true) : x = some r := by rw [h] at ho; exact ho
theorem cdf {b : Bool} {x y : Option β} (ho : (bif b then x else y) = some r) (h : b = false) : y = some r := by rw [h] at ho; exact ho

/-- What a round that comes to q means for the loop's end z. -/
def stp (f : Nat → S → Option (Res S C)) (m k : Nat) (z : S ⊕ C) : Res S C → Prop
  | .next s' => forO f m (k + 1) s' = some z
  | .brk s' => z = .inl s'
  | .ret c => z = .inr c
theorem fos {f : Nat → S → Option (Res S C)} {N k : Nat} {s : S} {z : S ⊕ C} (h : forO f (N - k) k s = some z) (hk : k < N) (K : ∀ q, f k s = some q → stp f (N - (k + 1)) k z q → G) : G := by
  rw [show N - k = (N - (k + 1)) + 1 by omega, forO] at h
  refine bdO h fun q hq hz => K q hq ?_
  cases q with
  | next s' => exact hz
  | brk s' => exact (Option.some.inj hz).symm
  | ret c => exact (Option.some.inj hz).symm
theorem foe {f : Nat → S → Option (Res S C)} {N k : Nat} {s : S} {z : S ⊕ C} (h : forO f (N - k) k s = some z) (hk : ¬ k < N) : z = .inl s := by
  rw [show N - k = 0 by omega] at h
  exact (Option.some.inj h).symm
def stw (f : S → Option (Res S C)) (m : Nat) (z : S ⊕ C) : Res S C → Prop
  | .next s' => whO f m s' = some z
  | .brk s' => z = .inl s'
  | .ret c => z = .inr c
theorem Zlv {f : S → Option (Res S C)} {m : Nat} {s : S} {z : S ⊕ C} (h : whO f (m + 1) s = some z) (K : ∀ q, f s = some q → stw f m z q → G) : G := by
  rw [whO] at h
  refine bdO h fun q hq hz => K q hq ?_
  cases q with
  | next s' => exact hz
  | brk s' => exact (Option.some.inj hz).symm
  | ret c => exact (Option.some.inj hz).symm
end

section
variable {c : Cx} {E E' : Env} {L L' S : List Asn} {ops : Array Oper} {Q : Post} {rest : List Oper} {d : Nat} {v : Value} {op : Op} {ty : TypeId} {pos : String} {aft : Array Edge}
variable {β : Type} {r : β}

/-- What holds where a round has come to its end. -/
def RndP {T C X : Type} (c : Cx) (f : Nat → T → Option (Res T C)) (N : Nat) (z : T ⊕ C) (E0 : Nat → T → X → Env) (L0 : Nat → T → X → List Asn) (k : Nat) : Act → World → Prop :=
  fun a w => k < N ∧ ∃ s' x'', forO f (N - (k + 1)) (k + 1) s' = some z ∧ Fits c.n (E0 (k + 1) s' x'') a ∧ SH c.w0 c.ex (L0 (k + 1) s' x'') w
/-- A loop that counts up to N. -/
theorem wcf {T C X : Type} {x : Code} {f : Nat → T → Option (Res T C)} {N : Nat} {s0 : T} {z : T ⊕ C} (hl : forO f N 0 s0 = some z) (E0 : Nat → T → X → Env) (L0 : Nat → T → X → List Asn) (x0 : X) (hE : Sub (E0 0 s0 x0) E) (hL : ZaD (L0 0 s0 x0) L)
    (round : ∀ k s x', k ≤ N → forO f (N - k) k s = some z → WC c (E0 k s x') (L0 k s x') x (Exit.then (RndP c f N z E0 L0 k) Q)) : WC c E L (.loop x) Q := fun a w hf hs => by
  refine Zqk (c := x) (P := c.P) (Q := Q) N (fun k a w => ∃ s x', forO f (N - k) k s = some z ∧ Fits c.n (E0 k s x') a ∧ SH c.w0 c.ex (L0 k s x') w) ⟨s0, x0, hl, hf.sub hE, hs.weak hL⟩ ?_
  rintro k hk a w ⟨s, x', hF, hf', hs'⟩
  refine Code.wp_mono ?_ (round k s x' hk hF a w hf' hs')
  intro e a w h
  cases e with
  | normal => exact h
  | _ => exact h
theorem Zk {T C X : Type} {f : Nat → T → Option (Res T C)} {N : Nat} {z : T ⊕ C} {E0 : Nat → T → X → Env} {L0 : Nat → T → X → List Asn} {k : Nat} {s' : T} (hk : k < N) (hz : forO f (N - (k + 1)) (k + 1) s' = some z) (x : X) (hE : Sub (E0 (k + 1) s' x) E) (hL : ZaD (L0 (k + 1) s' x) L) :
    WQ c E L (Exit.then (RndP c f N z E0 L0 k) Q) .normal := fun _ _ hf' hs => ⟨hk, s', x, hz, hf'.sub hE, hs.weak hL⟩

def RndW {T C X : Type} (c : Cx) (f : T → Option (Res T C)) (z : T ⊕ C) (E0 : T → X → Env) (L0 : T → X → List Asn) (m : Nat) : Act → World → Prop :=
  fun a w => ∃ s' x'', whO f m s' = some z ∧ Fits c.n (E0 s' x'') a ∧ SH c.w0 c.ex (L0 s' x'') w
/-- A loop that goes on while it does. -/
theorem ZoL {T C X : Type} {x : Code} {f : T → Option (Res T C)} {N : Nat} {s0 : T} {z : T ⊕ C} (hl : whO f N s0 = some z) (E0 : T → X → Env) (L0 : T → X → List Asn) (x0 : X) (hE : Sub (E0 s0 x0) E) (hL : ZaD (L0 s0 x0) L)
    (round : ∀ m s x', whO f (m + 1) s = some z → WC c (E0 s x') (L0 s x') x (Exit.then (RndW c f z E0 L0 m) Q)) : WC c E L (.loop x) Q := fun a w hf hs => by
  refine Zqk (c := x) (P := c.P) (Q := Q) N (fun k a w => ∃ s x', whO f (N - k) s = some z ∧ Fits c.n (E0 s x') a ∧ SH c.w0 c.ex (L0 s x') w) ⟨s0, x0, hl, hf.sub hE, hs.weak hL⟩ ?_
  rintro k hk a w ⟨s, x', hF, hf', hs'⟩
  have hlt : k < N := by
    rcases Nat.lt_or_ge k N with h | h
    · exact h
    · rw [show N - k = 0 by omega] at hF; cases hF
  rw [show N - k = (N - (k + 1)) + 1 by omega] at hF
  refine Code.wp_mono ?_ (round _ s x' hF a w hf' hs')
  intro e a w h
  cases e with
  | normal => exact ⟨hlt, h⟩
  | _ => exact h
theorem ZmR {T C X : Type} {f : T → Option (Res T C)} {z : T ⊕ C} {E0 : T → X → Env} {L0 : T → X → List Asn} {m : Nat} {s' : T} (hz : whO f m s' = some z) (x : X) (hE : Sub (E0 s' x) E) (hL : ZaD (L0 s' x) L) :
    WQ c E L (Exit.then (RndW c f z E0 L0 m) Q) .normal := fun _ _ hf' hs => ⟨s', x, hz, hf'.sub hE, hs.weak hL⟩

/-! Two ways, one of them along with the function. -/
theorem wcO {t : Nat} {b : Bool} {x y : Code} {A B : Option β} (ho : (bif b then A else B) = some r) (h : lk E t = some (.bool b)) (h1 : b = true → A = some r → WC c E L x Q) (h2 : b = false → B = some r → WC c E L y Q) : WC c E L (.cond (.tmp t) x y) Q :=
  Zbn h (fun e => h1 e (cdt ho e)) (fun e => h2 e (cdf ho e))
theorem wlo {t : Nat} {b : Bool} {A B : Option β} (ho : (bif b then A else B) = some r) (h : lk E t = some (.bool b)) (h1 : b = true → A = some r → WL c ((t, .bool true) :: E) L ops Q rest) (h2 : b = false → B = some r → WL c ((t, .bool false) :: E) L ops Q rest) : WL c E L ops Q rest :=
  Zae h (fun e => h1 e (cdt ho e)) (fun e => h2 e (cdf ho e))
theorem waO_ {q fuel : Nat} {listed : Array Bool} {t : Nat} {b : Bool} {A B : Option β} (ho : (bif b then A else B) = some r) (h : lk E t = some (.bool b)) (h1 : b = true → A = some r → WA c ((t, .bool true) :: E) L S ops Q q fuel listed) (h2 : b = false → B = some r → WA c ((t, .bool false) :: E) L S ops Q q fuel listed) : WA c E L S ops Q q fuel listed :=
  Zvk h (fun e => h1 e (cdt ho e)) (fun e => h2 e (cdf ho e))
theorem Zef {t : Nat} {b b' : Bool} (h : lk E t = some (.bool b)) (hb : b = b') (k : WL c ((t, .bool b') :: E) L ops Q rest) : WL c E L ops Q rest := fun a w hf hs => k a w (hf.add (by rw [← hb]; exact hf.look t _ h)) hs
/-- Ways meet again: in one of the states 'E' j x', 'L' j x'. -/
def ZuU {J X : Type} (c : Cx) (p : J → Prop) (E1 : J → X → Env) (L1 : J → X → List Asn) : Act → World → Prop := fun a w => ∃ j x, p j ∧ Fits c.n (E1 j x) a ∧ SH c.w0 c.ex (L1 j x) w
theorem wj {J X : Type} {code : Code} (p : J → Prop) (E1 : J → X → Env) (L1 : J → X → List Asn) (h : WC c E L code (Exit.then (ZuU c p E1 L1) Q)) (k : ∀ j x, p j → WQ c (E1 j x) (L1 j x) Q .normal) : WC c E L code Q := fun a w hf hs => by
  refine Code.wp_mono ?_ (h a w hf hs)
  intro e a w h
  cases e with
  | normal =>
    obtain ⟨j, x, h1, h2, h3⟩ := h
    exact k j x h1 a w h2 h3
  | _ => exact h
theorem wjm {J X : Type} {p : J → Prop} {E1 : J → X → Env} {L1 : J → X → List Asn} (j : J) (x : X) (hp : p j) (hE : Sub (E1 j x) E) (hL : ZaD (L1 j x) L) : WQ c E L (Exit.then (ZuU c p E1 L1) Q) .normal := fun _ _ hf hs => ⟨j, x, hp, hf.sub hE, hs.weak hL⟩

/-! Short words. -/
theorem wcr {id : Nat} {l : List Oper} {y : Code} (k : WL c E L l.toArray (Exit.then (y.wp c.P Q) Q) l) : WC c E L (.seq (.region id l.toArray false) y) Q := wcs (wcg k)
theorem wnt {y : Code} (k : WC c E L y Q) : WL c E L ops (Exit.then (y.wp c.P Q) Q) [] := wln (wqt k)
theorem mv {x : Operand} {v : Value} (h : ev E x = some v) (hd : Nat.blt d c.n = true) (k : WL c ((d, v) :: E) L ops Q rest) : WL c E L ops Q (⟨some d, .move x, ty, pos, aft, none⟩ :: rest) := wlq (pom h) hd k
theorem asg {x : Operand} {v : Value} (h : ev E x = some v) (hd : Nat.blt d c.n = true) (k : WL c ((d, v) :: E) L ops Q rest) : WL c E L ops Q (⟨some d, .assign x, ty, pos, aft, none⟩ :: rest) := wlq (Zp h) hd k
end

section
variable {J C S : Type} {β : Type} {r : β}
/-! Out of a meeting, out of a loop. -/
theorem sqR {k : J → Option C} {y : J ⊕ C} {z c : C} (t : sqk k y = some z) (h : some (Sum.inr c) = some y) : some c = some z := by rw [← Option.some.inj h] at t; exact t
theorem sqE {k : J → Option C} {y : J ⊕ C} {z : C} {j : J} (t : sqk k y = some z) (h : y = .inl j) : k j = some z := by rw [h] at t; exact t
theorem mtE {y j : J} (t : some j = some y) : y = j := (Option.some.inj t).symm
theorem lpR {f : Nat → S → Option (Res S C)} {m k : Nat} {z : S ⊕ C} {q : Res S C} {kk : S → Option C} {zz c : C} (tp : sqk kk z = some zz) (l : stp f m k z q) (t : some (Res.ret c) = some q) : some c = some zz := by
  rw [← Option.some.inj t] at l
  have l' : z = .inr c := l
  rw [l'] at tp; exact tp
theorem stpN {f : Nat → S → Option (Res S C)} {m k : Nat} {z : S ⊕ C} {q : Res S C} {s' : S} (l : stp f m k z q) (t : some (Res.next s') = some q) : forO f m (k + 1) s' = some z := by
  rw [← Option.some.inj t] at l; exact l
theorem stpB {f : Nat → S → Option (Res S C)} {m k : Nat} {z : S ⊕ C} {q : Res S C} {s' : S} (l : stp f m k z q) (t : some (Res.brk s') = some q) : z = .inl s' := by
  rw [← Option.some.inj t] at l; exact l
theorem stwN {f : S → Option (Res S C)} {m : Nat} {z : S ⊕ C} {q : Res S C} {s' : S} (l : stw f m z q) (t : some (Res.next s') = some q) : whO f m s' = some z := by
  rw [← Option.some.inj t] at l; exact l
theorem stwB {f : S → Option (Res S C)} {m : Nat} {z : S ⊕ C} {q : Res S C} {s' : S} (l : stw f m z q) (t : some (Res.brk s') = some q) : z = .inl s' := by
  rw [← Option.some.inj t] at l; exact l
end

/-- A function of the program, which has a body. -/
theorem cz0 {c : Cx} {E : Env} {L : List Asn} {f : Nat} {xs : List Operand} {ts : Array TypeId} {vs : List Value} {v : Value} (hfn : FnAt c.P f) (hx : evs E xs = some vs)
    (h : ∀ w, SH c.w0 c.ex L w → Calls c.P f vs.toArray w fun e w' => e = .returned v ∧ SH w [] [] w') :
    ZcG c E L (.call { callee := .value (.func f), args := xs.toArray, argTypes := ts }) (fun _ : Unit => v) (fun _ => L) := by
  obtain ⟨fn, cd, h1, h2, h3⟩ := hfn
  exact Zuk h1 h2 h3 hx h
theorem ZjO {α : Type} [Rep α] {L L' : List Asn} {b : Nat} (hp : Pick (box b []) L L') : Pick (own (sl ⟨some ⟨b, 0, none⟩, 0, 0⟩) [] ([] : List α)) L L' := fun w fp h => by
  obtain ⟨fp', ⟨f1, f2, rfl, ⟨rfl, T, hT⟩, h2⟩, hperm⟩ := hp w fp h
  exact ⟨[b] ++ f2, ⟨[b], f2, rfl, ⟨[b], [], .inr ⟨b, 0, 0, 0, _, T, rfl, rfl, hT, by simp, Nat.le_refl _, Nat.zero_le _, by simp, fun j u hu => by simp at hu⟩, by simp, by simp, by simp, fun k x hx => by simp at hx⟩, h2⟩, hperm⟩
theorem ixn {n : Int} (h : 0 ≤ n) {k : IntKind} : some (Value.int k n) = some (Value.int k ((n.toNat : Nat) : Int)) := by rw [Int.toNat_of_nonneg h]
theorem ZD {i : Int} {n : Nat} (h : 0 ≤ i ∧ i < (n : Int)) : i.toNat < n := by omega
theorem co_c {c : Cx} {E : Env} {L : List Asn} {f : Nat} {xs : List Operand} {ts : Array TypeId} {vs : List Value} {X : Type} {v : X → Value} {L1 : X → List Asn} (hfn : FnAt c.P f) (hx : evs E xs = some vs)
    (h : ∀ w, SH c.w0 c.ex L w → Calls c.P f vs.toArray w fun e w' => ∃ x, e = .returned (v x) ∧ SH w [] (L1 x) w') :
    ZcG c E L (.call { callee := .value (.func f), args := xs.toArray, argTypes := ts }) v (fun x => L1 x ++ L) := by
  obtain ⟨fn, cd, h1, h2, h3⟩ := hfn
  exact ZpW h1 h2 h3 hx h
theorem co_d {c : Cx} {E : Env} {L : List Asn} {x : Operand} {f : Nat} {xs : List Operand} {ts : Array TypeId} {vs us : List Value} {v : Value} (hfn : FnAt c.P f) (hv : ev E x = some (.func (.func f) #[] us.toArray)) (hx : evs E xs = some vs)
    (h : ∀ w, SH c.w0 c.ex L w → Calls c.P f (vs ++ us).toArray w fun e w' => e = .returned v ∧ SH w [] [] w') :
    ZcG c E L (.call { callee := .value x, args := xs.toArray, argTypes := ts }) (fun _ : Unit => v) (fun _ => L) := ZvA hfn hv hx h
theorem co_o {c : Cx} {E : Env} {L L0 L2 : List Asn} {f : Nat} {xs : List Operand} {ts : Array TypeId} {vs : List Value} {X : Type} {v : X → Value} {L1 : X → List Asn} (hfn : FnAt c.P f) (hsp : ZaD (L0 ++ L2) L) (hx : evs E xs = some vs)
    (h : ∀ w fp, SHo c.w0 c.ex L0 L2 w fp → Calls c.P f vs.toArray w fun e w' => ∃ x, e = .returned (v x) ∧ SH w fp (L1 x) w') :
    ZcG c E L (.call { callee := .value (.func f), args := xs.toArray, argTypes := ts }) v (fun x => L1 x ++ L2) := by
  obtain ⟨fn, cd, h1, h2, h3⟩ := hfn
  exact Zuc hsp h1 h2 h3 hx h
theorem cz1 {c : Cx} {E : Env} {L : List Asn} {f : Nat} {xs : List Operand} {ts : Array TypeId} {vs : List Value} {X : Type} {v : X → Value} {A0 : X → Asn} (hfn : FnAt c.P f) (hx : evs E xs = some vs)
    (h : ∀ w, SH c.w0 c.ex L w → Calls c.P f vs.toArray w fun e w' => ∃ x, e = .returned (v x) ∧ SH w [] [A0 x] w') :
    ZcG c E L (.call { callee := .value (.func f), args := xs.toArray, argTypes := ts }) v (fun x => A0 x :: L) := co_c (L1 := fun x => [A0 x]) hfn hx h
theorem Zu1 {c : Cx} {E : Env} {L L2 : List Asn} (L0 : List Asn) {f : Nat} {xs : List Operand} {ts : Array TypeId} {vs : List Value} {X : Type} {v : X → Value} {A0 : X → Asn} (hfn : FnAt c.P f) (hsp : ZaD (L0 ++ L2) L) (hx : evs E xs = some vs)
    (h : ∀ w fp, SHo c.w0 c.ex L0 L2 w fp → Calls c.P f vs.toArray w fun e w' => ∃ x, e = .returned (v x) ∧ SH w fp [A0 x] w') :
    ZcG c E L (.call { callee := .value (.func f), args := xs.toArray, argTypes := ts }) v (fun x => A0 x :: L2) := co_o (L1 := fun x => [A0 x]) hfn hsp hx h
theorem Zan {c : Cx} {E : Env} {L : List Asn} {f : Nat} {xs : List Operand} {ts : Array TypeId} {vs : List Value} {X : Type} {v : X → Value} {A0 A1 A2 A3 : X → Asn} (hfn : FnAt c.P f) (hx : evs E xs = some vs)
    (h : ∀ w, SH c.w0 c.ex L w → Calls c.P f vs.toArray w fun e w' => ∃ x, e = .returned (v x) ∧ SH w [] [A0 x, A1 x, A2 x, A3 x] w') :
    ZcG c E L (.call { callee := .value (.func f), args := xs.toArray, argTypes := ts }) v (fun x => A0 x :: A1 x :: A2 x :: A3 x :: L) := co_c (L1 := fun x => [A0 x, A1 x, A2 x, A3 x]) hfn hx h
theorem Zkl {c : Cx} {E : Env} {L L2 : List Asn} (L0 : List Asn) {f : Nat} {xs : List Operand} {ts : Array TypeId} {vs : List Value} {X : Type} {v : X → Value} {A0 A1 A2 A3 : X → Asn} (hfn : FnAt c.P f) (hsp : ZaD (L0 ++ L2) L) (hx : evs E xs = some vs)
    (h : ∀ w fp, SHo c.w0 c.ex L0 L2 w fp → Calls c.P f vs.toArray w fun e w' => ∃ x, e = .returned (v x) ∧ SH w fp [A0 x, A1 x, A2 x, A3 x] w') :
    ZcG c E L (.call { callee := .value (.func f), args := xs.toArray, argTypes := ts }) v (fun x => A0 x :: A1 x :: A2 x :: A3 x :: L2) := co_o (L1 := fun x => [A0 x, A1 x, A2 x, A3 x]) hfn hsp hx h
theorem Zu0 {c : Cx} {E : Env} {L : List Asn} {f : Nat} {xs : List Operand} {ts : Array TypeId} {vs : List Value} {X : Type} {v : X → Value} {A0 A1 A2 A3 A4 : X → Asn} (hfn : FnAt c.P f) (hx : evs E xs = some vs)
    (h : ∀ w, SH c.w0 c.ex L w → Calls c.P f vs.toArray w fun e w' => ∃ x, e = .returned (v x) ∧ SH w [] [A0 x, A1 x, A2 x, A3 x, A4 x] w') :
    ZcG c E L (.call { callee := .value (.func f), args := xs.toArray, argTypes := ts }) v (fun x => A0 x :: A1 x :: A2 x :: A3 x :: A4 x :: L) := co_c (L1 := fun x => [A0 x, A1 x, A2 x, A3 x, A4 x]) hfn hx h
end Go.Proofs.YtjfjbgihojiijacGreatDoor
