/-
  Words for the walks of this seat: slots, owned memory, and the rules by which a walk goes on. No program is named here.
-/
import Derived.WalkKit
import Derived.OrdersHeld
namespace Go.Proofs.YtjfjbgihojiijacGreatDoor
open Go Go.RowKit

/-! ### Slots -/
def lk : List (Nat × Value) → Nat → Option Value
  | [], _ => none
  | p :: E, t => bif Nat.beq p.1 t then some p.2 else lk E t

theorem Zml {d t : Nat} (e : ¬d = t) : Nat.beq d t = false := by
  rw [Bool.eq_false_iff]; intro h; exact e (Nat.eq_of_beq_eq_true h)

def ev (E : List (Nat × Value)) : Operand → Option Value
  | .tmp t => lk E t
  | .const v => some v
  | .global g => some (.pointer (some ⟨g, 0, none⟩))
  | .func f => some (.func (.func f) #[] #[])

def evs (E : List (Nat × Value)) : List Operand → Option (List Value)
  | [] => some []
  | x :: r => match ev E x, evs E r with
    | some v, some vs => some (v :: vs)
    | _, _ => none

def evp (E : List (Nat × Value)) : List (Nat × Operand) → Option (List (Nat × Value))
  | [] => some []
  | p :: r => match ev E p.2, evp E r with
    | some v, some vs => some ((p.1, v) :: vs)
    | _, _ => none

structure Fits (n : Nat) (E : List (Nat × Value)) (a : Act) : Prop where
  size : a.tmps.size = n
  defers : a.defers = []
  look : ∀ t v, lk E t = some v → a.tmps[t]? = some v

theorem Fits.put {n : Nat} {E : List (Nat × Value)} {a : Act} (h : Fits n E a) {d : Nat} (v : Value) (hd : Nat.blt d n = true) :
    Fits n ((d, v) :: E) (a.put (some d) v) := by
  have hlt : d < a.tmps.size := by rw [h.size]; simpa [Nat.blt_eq] using hd
  refine ⟨by simp [Act.put, h.size], h.defers, fun t u ht => ?_⟩
  simp only [lk] at ht
  by_cases e : d = t
  · subst e
    simp at ht
    simp [Act.put, hlt, ht]
  · have hb : Nat.beq d t = false := Zml e
    simp only [hb, cond_false] at ht
    simp only [Act.put]
    rw [Array.getElem?_setIfInBounds_ne e]
    exact h.look t u ht

theorem Fits.put_none {n : Nat} {E : List (Nat × Value)} {a : Act} (h : Fits n E a) (v : Value) : Fits n E (a.put none v) := h

theorem Fits.eval {n : Nat} {E : List (Nat × Value)} {a : Act} (h : Fits n E a) {x : Operand} {v : Value} (hx : ev E x = some v) : a.eval x = v := by
  cases x with
  | tmp t =>
    have := h.look t v hx
    simp [Act.eval, this]
  | const u => simpa [ev, Act.eval] using hx
  | global g => simpa [ev, Act.eval] using hx
  | func f => simpa [ev, Act.eval] using hx

theorem Fits.evals {n : Nat} {E : List (Nat × Value)} {a : Act} (h : Fits n E a) : ∀ {xs : List Operand} {vs : List Value}, evs E xs = some vs → xs.map a.eval = vs
  | [], _, hx => by simpa [evs] using hx
  | x :: r, vs, hx => by
    simp only [evs] at hx
    cases h1 : ev E x with
    | none => simp [h1] at hx
    | some v =>
      cases h2 : evs E r with
      | none => simp [h1, h2] at hx
      | some us =>
        simp only [h1, h2, Option.some.injEq] at hx
        rw [← hx, List.map_cons, h.eval h1, h.evals h2]

theorem Fits.evalp {n : Nat} {E : List (Nat × Value)} {a : Act} (h : Fits n E a) : ∀ {xs : List (Nat × Operand)} {vs : List (Nat × Value)}, evp E xs = some vs → xs.map (fun p => (p.1, a.eval p.2)) = vs
  | [], _, hx => by simpa [evp] using hx
  | x :: r, vs, hx => by
    simp only [evp] at hx
    cases h1 : ev E x.2 with
    | none => simp [h1] at hx
    | some v =>
      cases h2 : evp E r with
      | none => simp [h1, h2] at hx
      | some us =>
        simp only [h1, h2, Option.some.injEq] at hx
        rw [← hx, List.map_cons, h.eval h1, h.evalp h2]

/-- E' says no more than E. -/
def Sub (E' E : List (Nat × Value)) : Prop := ∀ t v, lk E' t = some v → lk E t = some v
theorem yn {E : List (Nat × Value)} : Sub [] E := fun t v h => by simp [lk] at h
theorem Zqq {E' E : List (Nat × Value)} {d : Nat} {v v' : Value} (h : lk E d = some v) (e : v = v') (hs : Sub E' E) : Sub ((d, v') :: E') E := fun t u ht => by
  simp only [lk] at ht
  by_cases e' : d = t
  · subst e'; simp at ht; rw [h, e, ht]
  · have hb : Nat.beq d t = false := Zml e'
    simp only [hb, cond_false] at ht
    exact hs t u ht
theorem ZS {E' E : List (Nat × Value)} {d : Nat} {v v' : Bool} (h : lk E d = some (.bool v)) (e : v = v') (hs : Sub E' E) : Sub ((d, .bool v') :: E') E := Zqq h (by rw [e]) hs
theorem Zee {E' E : List (Nat × Value)} {d : Nat} {v v' : Int} (h : lk E d = some (.int .i64 v)) (e : v = v') (hs : Sub E' E) : Sub ((d, .int .i64 v') :: E') E := Zqq h (by rw [e]) hs
theorem yc {E' E : List (Nat × Value)} {d : Nat} {v : Value} (h : lk E d = some v) (hs : Sub E' E) : Sub ((d, v) :: E') E := fun t u ht => by
  simp only [lk] at ht
  by_cases e : d = t
  · subst e; simp at ht; rw [h, ht]
  · have hb : Nat.beq d t = false := Zml e
    simp only [hb, cond_false] at ht
    exact hs t u ht
theorem Fits.sub {n : Nat} {E E' : List (Nat × Value)} {a : Act} (h : Fits n E a) (hs : Sub E' E) : Fits n E' a := ⟨h.size, h.defers, fun t v ht => h.look t v (hs t v ht)⟩
theorem Fits.add {n : Nat} {E : List (Nat × Value)} {a : Act} (h : Fits n E a) {d : Nat} {v : Value} (hd : a.tmps[d]? = some v) : Fits n ((d, v) :: E) a := by
  refine ⟨h.size, h.defers, fun t u ht => ?_⟩
  simp only [lk] at ht
  by_cases e : d = t
  · subst e; simp at ht; rw [hd, ht]
  · have hb : Nat.beq d t = false := Zml e
    simp only [hb, cond_false] at ht
    exact h.look t u ht

def argE : Nat → List Value → List (Nat × Value)
  | _, [] => []
  | k, v :: vs => (k, v) :: argE (k + 1) vs
theorem Zsj : ∀ (vs : List Value) (k t : Nat) (v : Value), lk (argE k vs) t = some v → k ≤ t ∧ vs[t - k]? = some v
  | [], _, _, _, h => by simp [argE, lk] at h
  | u :: us, k, t, v, h => by
    simp only [argE, lk] at h
    by_cases e : k = t
    · subst e; simp at h; exact ⟨Nat.le_refl _, by simp [h]⟩
    · have hb : Nat.beq k t = false := Zml e
      simp only [hb, cond_false] at h
      obtain ⟨h1, h2⟩ := Zsj us (k + 1) t v h
      refine ⟨by omega, ?_⟩
      have : t - k = (t - (k + 1)) + 1 := by omega
      rw [this, List.getElem?_cons_succ]; exact h2
theorem Fits.start {fn : Func} {n : Nat} (hn : fn.ntmps = n) (args : List Value) (hl : Nat.ble args.length n = true) :
    Fits n (argE 0 args) { tmps := args.toArray ++ Array.replicate (fn.ntmps - args.toArray.size) undef, defers := [] } := by
  have hl' : args.length ≤ n := Nat.le_of_ble_eq_true hl
  refine ⟨by simp [hn]; omega, rfl, fun t v h => ?_⟩
  obtain ⟨_, h2⟩ := Zsj args 0 t v h
  simp at h2
  have hlt : t < args.length := (List.getElem?_eq_some_iff.1 h2).1
  rw [Array.getElem?_append_left (by simpa using hlt)]
  simpa using h2

/-! ### Assertions on memory, each with the blocks that it speaks of -/
structure Asn where
  P : World → List Nat → Prop
  loc : ∀ (w w' : World) (fp : List Nat), P w fp → (∀ b ∈ fp, w'.heap[b]? = w.heap[b]?) → P w' fp

def sat (w : World) : List Asn → List Nat → Prop
  | [], fp => fp = []
  | A :: L, fp => ∃ f1 f2, fp = f1 ++ f2 ∧ A.P w f1 ∧ sat w L f2

theorem ZpT {w w' : World} : ∀ {L : List Asn} {fp : List Nat}, sat w L fp → (∀ b ∈ fp, w'.heap[b]? = w.heap[b]?) → sat w' L fp
  | [], _, h, _ => h
  | A :: L, fp, ⟨f1, f2, e, h1, h2⟩, hk => ⟨f1, f2, e, A.loc w w' f1 h1 (fun b hb => hk b (by rw [e]; exact List.mem_append_left _ hb)),
      ZpT h2 (fun b hb => hk b (by rw [e]; exact List.mem_append_right _ hb))⟩

theorem Zhe {w : World} : ∀ {L1 L2 : List Asn} {fp : List Nat}, sat w (L1 ++ L2) fp ↔ ∃ f1 f2, fp = f1 ++ f2 ∧ sat w L1 f1 ∧ sat w L2 f2
  | [], L2, fp => ⟨fun h => ⟨[], fp, rfl, rfl, h⟩, fun ⟨f1, f2, e, h1, h2⟩ => by
      have h1' : f1 = [] := h1
      subst h1'; rw [e]; exact h2⟩
  | A :: L1, L2, fp => by
    simp only [List.cons_append, sat, Zhe]
    constructor
    · rintro ⟨f1, f2, rfl, h1, g1, g2, rfl, h2, h3⟩
      exact ⟨f1 ++ g1, g2, by simp, ⟨f1, g1, rfl, h1, h2⟩, h3⟩
    · rintro ⟨f1, f2, rfl, ⟨g1, g2, rfl, h1, h2⟩, h3⟩
      exact ⟨g1, g2 ++ f2, by simp, h1, g2, f2, rfl, h2, h3⟩

/-- A is one of L; L' are the others. -/
def Pick (A : Asn) (L L' : List Asn) : Prop := ∀ (w : World) (fp : List Nat), sat w L fp → ∃ fp', sat w (A :: L') fp' ∧ fp'.Perm fp
theorem pz {A : Asn} {L : List Asn} : Pick A (A :: L) L := fun _ fp h => ⟨fp, h, List.Perm.refl _⟩
theorem ZaI {A C : Asn} {L L' : List Asn} (h : Pick A L L') : Pick A (C :: L) (C :: L') := by
  rintro w fp ⟨f1, f2, rfl, h1, h2⟩
  obtain ⟨fp', ⟨g1, g2, rfl, k1, k2⟩, hp⟩ := h w f2 h2
  refine ⟨g1 ++ (f1 ++ g2), ⟨g1, f1 ++ g2, rfl, k1, f1, g2, rfl, h1, k2⟩, ?_⟩
  rw [← List.append_assoc]
  exact ((List.perm_append_comm).append_right g2).trans (by rw [List.append_assoc]; exact hp.append_left f1)
/-- L' are some of L. -/
def ZaD (L' L : List Asn) : Prop := ∀ (w : World) (fp : List Nat), sat w L fp → ∃ f' fr, sat w L' f' ∧ (f' ++ fr).Perm fp
theorem zn {L : List Asn} : ZaD [] L := fun _ fp _ => ⟨[], fp, rfl, List.Perm.refl _⟩
theorem zc {A : Asn} {L L' L'' : List Asn} (h : Pick A L L') (hs : ZaD L'' L') : ZaD (A :: L'') L := fun w fp hw => by
  obtain ⟨fp', ⟨g1, g2, rfl, k1, k2⟩, hp⟩ := h w fp hw
  obtain ⟨f', fr, k3, hp2⟩ := hs w g2 k2
  exact ⟨g1 ++ f', fr, ⟨g1, f', rfl, k1, k3⟩, by rw [List.append_assoc]; exact (hp2.append_left g1).trans hp⟩
theorem ZdD {L : List Asn} : ZaD L L := fun _ fp h => ⟨fp, [], h, by simp⟩

/-- What was there is as it was, but for the blocks ex. -/
structure Keep (ex : List Nat) (w w' : World) : Prop where
  os : w'.os = w.os
  tape : w'.tape = w.tape
  output : w'.output = w.output
  size : w.heap.size ≤ w'.heap.size
  block : ∀ k, k < w.heap.size → k ∉ ex → w'.heap[k]? = w.heap[k]?
theorem Keep.refl (ex : List Nat) (w : World) : Keep ex w w := ⟨rfl, rfl, rfl, Nat.le_refl _, fun _ _ _ => rfl⟩
theorem Keep.below {w w' : World} (h : Keep [] w w') : Below w.heap.size w w' := ⟨h.os, h.tape, h.output, h.size, fun k hk => h.block k hk (by simp)⟩
theorem Keep.of_below {w w' : World} (h : Below w.heap.size w w') : Keep [] w w' := ⟨h.os, h.tape, h.output, h.size, fun k hk _ => h.block k hk⟩

/-- The state of memory in a walk that began in w0: old memory stands (but for ex), and L is owned. -/
structure SH (w0 : World) (ex : List Nat) (L : List Asn) (w : World) : Prop where
  keep : Keep ex w0 w
  owns : ∃ fp, sat w L fp ∧ fp.Nodup ∧ ∀ b ∈ fp, (w0.heap.size ≤ b ∨ b ∈ ex) ∧ b < w.heap.size

theorem SH.start (w : World) : SH w [] [] w := ⟨Keep.refl _ _, [], rfl, by simp, by simp⟩

theorem SH.weak {w0 w : World} {ex : List Nat} {L L' : List Asn} (h : SH w0 ex L w) (hs : ZaD L' L) : SH w0 ex L' w := by
  obtain ⟨k, fp, h1, h2, h3⟩ := h
  obtain ⟨f', fr, h4, hp⟩ := hs w fp h1
  have hn := (List.nodup_append.1 (hp.nodup_iff.2 h2)).1
  exact ⟨k, f', h4, hn, fun b hb => h3 b (hp.mem_iff.1 (List.mem_append_left _ hb))⟩

theorem SH.pick {w0 w : World} {ex : List Nat} {A : Asn} {L L' : List Asn} (h : SH w0 ex L w) (hs : Pick A L L') : SH w0 ex (A :: L') w := by
  obtain ⟨k, fp, h1, h2, h3⟩ := h
  obtain ⟨f', h4, hp⟩ := hs w fp h1
  exact ⟨k, f', h4, hp.nodup_iff.2 h2, fun b hb => h3 b (hp.mem_iff.1 hb)⟩

/-- A step that leaves all old blocks as they are, but for those owned by A; behind it A' stands in A's place. -/
theorem SH.step {w0 w w' : World} {ex : List Nat} {L0 L1 L : List Asn} (h : SH w0 ex (L0 ++ L) w)
    (hst : ∀ fp, sat w L0 fp → fp.Nodup → (∀ b ∈ fp, b < w.heap.size) → Keep fp w w' ∧ ∃ fp', sat w' L1 fp' ∧ fp'.Nodup ∧ ∀ b ∈ fp', (b ∈ fp ∨ w.heap.size ≤ b) ∧ b < w'.heap.size) :
    SH w0 ex (L1 ++ L) w' := by
  obtain ⟨k, fp, h1, h2, h3⟩ := h
  obtain ⟨f0, f1, rfl, hs0, hs1⟩ := Zhe.1 h1
  obtain ⟨hd0, hd1, hdj⟩ := List.nodup_append.1 h2
  obtain ⟨kk, fp', hs', hn', hb'⟩ := hst f0 hs0 hd0 (fun b hb => (h3 b (List.mem_append_left _ hb)).2)
  have hf1 : ∀ b ∈ f1, b < w.heap.size ∧ b ∉ f0 := fun b hb => ⟨(h3 b (List.mem_append_right _ hb)).2, fun h => hdj b h b hb rfl⟩
  refine ⟨⟨kk.os.trans k.os, kk.tape.trans k.tape, kk.output.trans k.output, Nat.le_trans k.size kk.size, fun i hi hne => ?_⟩, fp' ++ f1, ?_, ?_, ?_⟩
  · refine (kk.block i (Nat.lt_of_lt_of_le hi k.size) (fun hm => ?_)).trans (k.block i hi hne)
    rcases (h3 i (List.mem_append_left _ hm)).1 with h | h
    · omega
    · exact hne h
  · exact Zhe.2 ⟨fp', f1, rfl, hs', ZpT hs1 (fun b hb => kk.block b (hf1 b hb).1 (hf1 b hb).2)⟩
  · refine List.nodup_append.2 ⟨hn', hd1, fun a ha b hb e => ?_⟩
    subst e
    rcases (hb' a ha).1 with h | h
    · exact (hf1 a hb).2 h
    · have := (hf1 a hb).1; omega
  · intro b hb
    rcases List.mem_append.1 hb with h | h
    · refine ⟨?_, (hb' b h).2⟩
      rcases (hb' b h).1 with h' | h'
      · exact (h3 b (List.mem_append_left _ h')).1
      · exact .inl (Nat.le_trans k.size h')
    · exact ⟨(h3 b (List.mem_append_right _ h)).1, Nat.lt_of_lt_of_le (hf1 b h).1 kk.size⟩

theorem SH.drew {w0 w : World} {ex : List Nat} {L : List Asn} (h : SH w0 ex L w) : SH w0 ex L w.drew :=
  SH.step (L0 := []) (L1 := []) h fun fp hfp _ _ => by
    have e : fp = [] := hfp
    subst e
    exact ⟨⟨rfl, rfl, rfl, Nat.le_refl _, fun _ _ _ => rfl⟩, [], rfl, by simp, by simp⟩

/-- A call's outcome, put into the caller's state. -/
theorem SH.call {w0 w w' : World} {ex : List Nat} {L L1 : List Asn} (h : SH w0 ex L w) (hc : SH w [] L1 w') : SH w0 ex (L1 ++ L) w' :=
  SH.step (L0 := []) (L := L) h fun fp hfp _ _ => by
    have e : fp = [] := hfp
    subst e
    obtain ⟨k, fp', h1, h2, h3⟩ := hc
    exact ⟨k, fp', h1, h2, fun b hb => ⟨.inr ((h3 b hb).1.resolve_right (by simp)), (h3 b hb).2⟩⟩

end Go.Proofs.YtjfjbgihojiijacGreatDoor
