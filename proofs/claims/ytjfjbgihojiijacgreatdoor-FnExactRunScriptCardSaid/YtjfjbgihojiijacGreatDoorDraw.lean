/-
  Regions that draw their order: the operations that only read are taken first; what they read stands till operation q.
-/
import Derived.Test.YtjfjbgihojiijacGreatDoorRd
namespace Go.Proofs.YtjfjbgihojiijacGreatDoor
open Go Go.RowKit

section
variable {P : Program} {ops : Array Oper} {Q : Post} {q : Nat} {S : World → Prop}
/-- In whatever order; till operation q has come up, S holds behind each operation. -/
def Zib (P : Program) (ops : Array Oper) (Q : Post) (q : Nat) (S : World → Prop) : Nat → Array Bool → Act → World → Prop
  | 0, l, a, w => Region.ready .any ops l = [] ∧ Q .normal a w
  | m + 1, l, a, w => (Region.ready .any ops l = [] → Q .normal a w) ∧ ∀ i ∈ Region.ready .any ops l, wpOp P ops Q i (fun a' w' => ((l.setIfInBounds i true).getD q false = true ∨ S w') ∧ Zib P ops Q q S m (l.setIfInBounds i true) a' w') a w
theorem ZoH : ∀ (m : Nat) (l : Array Bool) (a : Act) (w : World), Zib P ops Q q S m l a w → wpAny P .any ops Q m l a w
  | 0, _, _, _, h => h
  | m + 1, _, _, _, h => ⟨h.1, fun i hi => wpOp_mono (fun a' w' hh => ZoH m _ a' w' hh.2) (h.2 i hi)⟩
/-- Operation q ZoI for operation i (or there is no operation q). -/
def ZoI (ops : Array Oper) (q i : Nat) : Bool := match ops[q]? with
  | some o => o.after.any fun e => Region.binds .any e && e.on == i
  | none => true
theorem Zs9 {l : Array Bool} {i : Nat} (hw : ZoI ops q i = true) (hi : l.getD i true = false) : ¬ q ∈ Region.ready .any ops l := fun h => by
  obtain ⟨_, o, ho, hall⟩ := mem_ready.1 h
  simp only [ZoI, ho, Array.any_eq_true', Bool.and_eq_true, beq_iff_eq] at hw
  obtain ⟨e, he, hb, heq⟩ := hw
  have h2 := hall e he hb
  rw [heq] at h2
  rcases Nat.lt_or_ge i l.size with h' | h'
  · simp [h'] at hi h2; rw [hi] at h2; cases h2
  · simp [Array.getElem?_eq_none h'] at hi
theorem Zq8 {i : Nat} {oi : Oper} {v : Value} (hi : ops[i]? = some oi) (hsel : ∀ (j : Nat) (o : Oper) cs b, ops[j]? = some o → o.op ≠ .select cs b)
    (hQ : ∀ c a w, Q (.panic c) (a.put oi.dst v) w → Q (.panic c) a w) (hwt : ZoI ops q i = true) (m : Nat) : ∀ (l : Array Bool) (a : Act) (w : World),
      (∀ j oj, ops[j]? = some oj → j ≠ i → l.getD j true = false → (∀ e ∈ oj.after, Region.binds .any e = true → e.on ≠ i) → oi.apart ops oj = true) →
      i ∈ Region.ready .any ops l → l.getD q false = false → i ≠ q → YieldsIf P ops S oi v a → S w → Zib P ops Q q S m (l.setIfInBounds i true) (a.put oi.dst v) w → Zib P ops Q q S (m + 1) l a w := by
  induction m with
  | zero =>
    intro l a w _ hr _ _ hy hS H
    refine ⟨fun e => absurd hr (by rw [e]; simp), fun j hj => ?_⟩
    rcases Nat.decEq j i with hji | rfl
    · exact absurd (ready_mono hj hji) (by rw [H.1]; simp)
    · exact hy.wpOp hi hS ⟨.inr hS, H⟩
  | succ m ih =>
    intro l a w hfree hr hlq hiq hy hS H
    refine ⟨fun e => absurd hr (by rw [e]; simp), fun j hj => ?_⟩
    rcases Nat.decEq j i with hji | rfl
    · have hjq : j ≠ q := fun e => Zs9 hwt (mem_ready.1 hr).1 (e ▸ hj)
      obtain ⟨hjun, oj, hoj, hall⟩ := mem_ready.1 hj
      have hapart : oi.apart ops oj = true := hfree j oj hoj hji hjun fun e he hb heq => by
        have h1 := hall e he hb
        rw [heq] at h1
        have h0 := (mem_ready.1 hr).1
        rcases Nat.lt_or_ge i l.size with h' | h'
        · simp [h'] at h0 h1; rw [h0] at h1; cases h1
        · simp [Array.getElem?_eq_none h'] at h0
      have h2 := wpOp_putIf hoj hapart (fun cs b => hsel i oi cs b hi) (fun cs b => hsel j oj cs b hoj) hQ hy (H.2 j (ready_mono hj hji))
      refine wpOp_mono (fun a' w' h3 => ?_) h2
      have hq1 : ((l.setIfInBounds i true).setIfInBounds j true).getD q false = false := by
        rw [getD_set_ne false hjq, getD_set_ne false hiq]; exact hlq
      have hS' : S w' := h3.2.1.resolve_left (by rw [hq1]; simp)
      refine ⟨.inr hS', ih (l.setIfInBounds j true) a' w' ?_ (ready_mono hr (Ne.symm hji)) (by rw [getD_set_ne false hjq]; exact hlq) hiq h3.1 hS' ?_⟩
      · intro k ok hk hki hun hno
        refine hfree k ok hk hki ?_ hno
        rcases Nat.decEq j k with hjk | rfl
        · rwa [getD_set_ne true hjk] at hun
        · exact hjun
      · rw [Array.setIfInBounds_comm _ _ hji]; exact h3.2.2
    · exact hy.wpOp hi hS ⟨.inr hS, H⟩
end

def WA (c : Cx) (E : Env) (L S : List Asn) (ops : Array Oper) (Q : Post) (q fuel : Nat) (listed : Array Bool) : Prop :=
  ∀ a w, Fits c.n E a → SH c.w0 c.ex L w → Zib c.P ops Q q (SH c.w0 c.ex S) fuel listed a w

section
variable {c : Cx} {E : Env} {L S : List Asn} {ops : Array Oper} {Q : Post} {q fuel : Nat} {listed : Array Bool} {d : Nat} {v : Value} {op : Op} {ty : TypeId} {pos : String} {aft : Array Edge}
def ZtQ (n : Nat) : Array Bool := Array.replicate n false
theorem wcd (S : List Asn) (q : Nat) {Q : Post} {id : Nat} {l : List Oper} (hm : c.P.follows .mixedOrders = true) (k : WA c E L S l.toArray Q q l.length (ZtQ l.length)) : WC c E L (.region id l.toArray true) Q := fun a w hf hs => by
  refine wp_region_any hm ?_
  have := ZoH _ _ _ _ (k a w.drew hf hs.drew)
  simpa [ZtQ] using this
/-- Side conditions of taking i first. -/
def tk1 (ops : Array Oper) (q : Nat) (listed : Array Bool) (i : Nat) : Bool :=
  Region.noSelect ops && Region.free .any ops listed i && (Region.ready .any ops listed).contains i && ZoI ops q i && !listed.getD q false && i != q
theorem ZmY {oi : Oper} {i : Nat} (hi : ops[i]? = some oi) (ht : tk1 ops q listed i = true) (hQ : ∀ p a w, Q (.panic p) (a.put oi.dst v) w → Q (.panic p) a w) {a : Act} {w : World} (hy : YieldsIf c.P ops (SH c.w0 c.ex S) oi v a) (hS : SH c.w0 c.ex S w)
    (k : Zib c.P ops Q q (SH c.w0 c.ex S) fuel (listed.setIfInBounds i true) (a.put oi.dst v) w) : Zib c.P ops Q q (SH c.w0 c.ex S) (fuel + 1) listed a w := by
  simp only [tk1, Bool.and_eq_true, Bool.not_eq_true', bne_iff_ne] at ht
  obtain ⟨⟨⟨⟨⟨h1, h2⟩, h3⟩, h4⟩, h5⟩, h6⟩ := ht
  exact Zq8 hi (Region.noSelect_spec h1) hQ h4 fuel listed a w (Region.free_spec hi h2) (by simpa using h3) h5 h6 hy hS k
theorem ZmL (i : Nat) (hi : ops[i]? = some ⟨some d, op, ty, pos, aft, none⟩) (hp : Zz c E S op v) (hS : ZaD S L) (hd : Nat.blt d c.n = true) (ht : tk1 ops q listed i = true)
    (hQ : ∀ p a w, Q (.panic p) (a.put (some d) v) w → Q (.panic p) a w) (k : WA c ((d, v) :: E) L S ops Q q fuel (listed.setIfInBounds i true)) : WA c E L S ops Q q (fuel + 1) listed := fun a w hf hw =>
  ZmY hi ht hQ (.inl ⟨by simp [Region.wanted], fun w' hw' => hp a w' _ hf hw' rfl⟩) (hw.weak hS) (k _ _ (hf.put v hd) hw)
theorem ZsU (i : Nat) {j dj : Nat} {oj : Oper} {b : Bool} (hi : ops[i]? = some ⟨some d, op, ty, pos, aft, some (j, b)⟩) (hj : ops[j]? = some oj) (hdj : oj.dst = some dj) (hv : lk E dj = some (.bool b)) (hp : Zz c E S op v) (hS : ZaD S L) (hd : Nat.blt d c.n = true) (ht : tk1 ops q listed i = true)
    (hQ : ∀ p a w, Q (.panic p) (a.put (some d) v) w → Q (.panic p) a w) (k : WA c ((d, v) :: E) L S ops Q q fuel (listed.setIfInBounds i true)) : WA c E L S ops Q q (fuel + 1) listed := fun a w hf hw => by
  have hy := Zh5 hf hj hdj hv
  exact ZmY hi ht hQ (.inl ⟨by simp [Region.wanted, hy], fun w' hw' => hp a w' _ hf hw' rfl⟩) (hw.weak hS) (k _ _ (hf.put v hd) hw)
theorem Zwm (i : Nat) {j dj : Nat} {oj : Oper} {b b' : Bool} (hi : ops[i]? = some ⟨some d, op, ty, pos, aft, some (j, b')⟩) (hj : ops[j]? = some oj) (hdj : oj.dst = some dj) (hv : lk E dj = some (.bool b)) (hb : (b == b') = false) (hS : ZaD S L) (hd : Nat.blt d c.n = true) (ht : tk1 ops q listed i = true)
    (hQ : ∀ p a w, Q (.panic p) (a.put (some d) undef) w → Q (.panic p) a w) (k : WA c ((d, undef) :: E) L S ops Q q fuel (listed.setIfInBounds i true)) : WA c E L S ops Q q (fuel + 1) listed := fun a w hf hw => by
  have hy := Zh5 hf hj hdj hv
  have hw' : Region.wanted (⟨some d, op, ty, pos, aft, some (j, b')⟩ : Oper) (yielded ops a.tmps) = false := by simp [Region.wanted, hy]; simpa using hb
  exact ZmY hi ht hQ (.inr ⟨hw', rfl⟩) (hw.weak hS) (k _ _ (hf.put undef hd) hw)
theorem Zvk {t : Nat} {b : Bool} (h : lk E t = some (.bool b)) (h1 : b = true → WA c ((t, .bool true) :: E) L S ops Q q fuel listed) (h2 : b = false → WA c ((t, .bool false) :: E) L S ops Q q fuel listed) : WA c E L S ops Q q fuel listed := fun a w hf hs => by
  cases b
  · exact h2 rfl a w (hf.add (hf.look t _ h)) hs
  · exact h1 rfl a w (hf.add (hf.look t _ h)) hs
/-- S stands behind operation i, or q has come up. -/
def StS (S : List Asn) (L : List Asn) (q : Nat) (listed : Array Bool) (i : Nat) : Prop := (listed.setIfInBounds i true).getD q false = true ∨ ZaD S L
theorem zt {L : List Asn} {i : Nat} (h : ZaD S L) : StS S L q listed i := .inr h
theorem Za2 {L : List Asn} {i : Nat} (h : (listed.setIfInBounds i true).getD q false = true) : StS S L q listed i := .inl h
theorem StS.out {L : List Asn} {i : Nat} {w : World} (h : StS S L q listed i) (hw : SH c.w0 c.ex L w) : (listed.setIfInBounds i true).getD q false = true ∨ SH c.w0 c.ex S w := h.imp id hw.weak
/-- Operation i comes up. -/
def WAs (c : Cx) (E : Env) (L S : List Asn) (ops : Array Oper) (Q : Post) (q fuel : Nat) (listed : Array Bool) (i : Nat) : Prop :=
  ∀ a w, Fits c.n E a → SH c.w0 c.ex L w → wpOp c.P ops Q i (fun a' w' => ((listed.setIfInBounds i true).getD q false = true ∨ SH c.w0 c.ex S w') ∧ Zib c.P ops Q q (SH c.w0 c.ex S) fuel (listed.setIfInBounds i true) a' w') a w
theorem ZmS {is : List Nat} (hr : Region.ready .any ops listed = is) (hne : is ≠ []) (h : ∀ i ∈ is, WAs c E L S ops Q q fuel listed i) : WA c E L S ops Q q (fuel + 1) listed := fun a w hf hs =>
  ⟨fun e => absurd e (by rw [hr]; exact hne), fun j hj => h j (by rwa [hr] at hj) a w hf hs⟩
theorem wa_1 {i : Nat} (hr : Region.ready .any ops listed = [i]) (h : WAs c E L S ops Q q fuel listed i) : WA c E L S ops Q q (fuel + 1) listed := ZmS hr (by simp) (by simpa using h)
theorem wa_2 {i j : Nat} (hr : Region.ready .any ops listed = [i, j]) (h : WAs c E L S ops Q q fuel listed i) (h' : WAs c E L S ops Q q fuel listed j) : WA c E L S ops Q q (fuel + 1) listed := ZmS hr (by simp) (by simpa using ⟨h, h'⟩)
theorem wa_3 {i j k : Nat} (hr : Region.ready .any ops listed = [i, j, k]) (h : WAs c E L S ops Q q fuel listed i) (h' : WAs c E L S ops Q q fuel listed j) (h'' : WAs c E L S ops Q q fuel listed k) : WA c E L S ops Q q (fuel + 1) listed := ZmS hr (by simp) (by simpa using ⟨h, h', h''⟩)
theorem wa_4 {i j k m : Nat} (hr : Region.ready .any ops listed = [i, j, k, m]) (hi : WAs c E L S ops Q q fuel listed i) (hj : WAs c E L S ops Q q fuel listed j) (hk : WAs c E L S ops Q q fuel listed k) (hm : WAs c E L S ops Q q fuel listed m) : WA c E L S ops Q q (fuel + 1) listed := ZmS hr (by simp) (by simpa using ⟨hi, hj, hk, hm⟩)
theorem Zl5 {i : Nat} {o : Oper} (hi : ops[i]? = some o)
    (k : ∀ a w, Fits c.n E a → SH c.w0 c.ex L w → (Region.wanted o (yielded ops a.tmps) = true) ∧ o.wp c.P a w (fun a' w' => ((listed.setIfInBounds i true).getD q false = true ∨ SH c.w0 c.ex S w') ∧ Zib c.P ops Q q (SH c.w0 c.ex S) fuel (listed.setIfInBounds i true) a' w') Q) : WAs c E L S ops Q q fuel listed i := fun a w hf hs => by
  obtain ⟨h1, h2⟩ := k a w hf hs
  unfold wpOp
  simp only [hi, h1, if_true]
  exact .inl h2
theorem ZkJ {i : Nat} (hi : ops[i]? = some ⟨some d, op, ty, pos, aft, none⟩) (hp : Zz c E L op v) (hS : StS S L q listed i) (hd : Nat.blt d c.n = true)
    (k : WA c ((d, v) :: E) L S ops Q q fuel (listed.setIfInBounds i true)) : WAs c E L S ops Q q fuel listed i :=
  Zl5 hi fun _ w hf hs => ⟨by simp [Region.wanted], Zqn hp hf hs ⟨hS.out hs, k _ w (hf.put _ hd) hs⟩⟩
theorem wse {i : Nat} {X : Type} {v : X → Value} {L' : X → List Asn} (hi : ops[i]? = some ⟨some d, op, ty, pos, aft, none⟩) (hp : Zjo c E L op v L') (hS : ∀ x, StS S (L' x) q listed i) (hd : Nat.blt d c.n = true)
    (k : ∀ x, WA c ((d, v x) :: E) (L' x) S ops Q q fuel (listed.setIfInBounds i true)) : WAs c E L S ops Q q fuel listed i :=
  Zl5 hi fun a w hf hs => ⟨by simp [Region.wanted], by
    obtain ⟨x, w', h1, h2⟩ := hp a w ⟨some d, op, ty, pos, aft, none⟩ hf hs rfl
    unfold Oper.wp; rw [h1]
    exact ⟨(hS x).out h2, k x _ _ (hf.put _ hd) h2⟩⟩
theorem ZR {i : Nat} {L' : List Asn} (hi : ops[i]? = some ⟨none, op, ty, pos, aft, none⟩) (hp : Zo9 c E L op L') (hS : StS S L' q listed i)
    (k : WA c E L' S ops Q q fuel (listed.setIfInBounds i true)) : WAs c E L S ops Q q fuel listed i :=
  Zl5 hi fun a w hf hs => ⟨by simp [Region.wanted], by
    obtain ⟨w', h1, h2⟩ := hp a w ⟨none, op, ty, pos, aft, none⟩ hf hs rfl
    unfold Oper.wp; rw [h1]
    exact ⟨hS.out h2, k _ _ (hf.put_none _) h2⟩⟩
theorem wsc {i : Nat} {X : Type} {v : X → Value} {L' : X → List Asn} (hi : ops[i]? = some ⟨some d, op, ty, pos, aft, none⟩) (hp : ZcG c E L op v L') (hS : ∀ x, StS S (L' x) q listed i) (hd : Nat.blt d c.n = true)
    (k : ∀ x, WA c ((d, v x) :: E) (L' x) S ops Q q fuel (listed.setIfInBounds i true)) : WAs c E L S ops Q q fuel listed i :=
  Zl5 hi fun a w hf hs => ⟨by simp [Region.wanted], by
    obtain ⟨f, args, h1, h2⟩ := hp a w ⟨some d, op, ty, pos, aft, none⟩ hf hs rfl
    unfold Oper.wp; rw [h1]
    refine h2.mono ?_
    rintro e w' ⟨x, rfl, h3⟩
    exact ⟨(hS x).out h3, k x _ _ (hf.put _ hd) h3⟩⟩
theorem ZL {i : Nat} {j dj : Nat} {oj : Oper} {b : Bool} {X : Type} {v : X → Value} {L' : X → List Asn} (hi : ops[i]? = some ⟨some d, op, ty, pos, aft, some (j, b)⟩) (hj : ops[j]? = some oj) (hdj : oj.dst = some dj) (hv : lk E dj = some (.bool b)) (hp : ZcG c E L op v L') (hS : ∀ x, StS S (L' x) q listed i) (hd : Nat.blt d c.n = true)
    (k : ∀ x, WA c ((d, v x) :: E) (L' x) S ops Q q fuel (listed.setIfInBounds i true)) : WAs c E L S ops Q q fuel listed i :=
  Zl5 hi fun a w hf hs => ⟨by simp [Region.wanted, Zh5 hf hj hdj hv], by
    obtain ⟨f, args, h1, h2⟩ := hp a w ⟨some d, op, ty, pos, aft, some (j, b)⟩ hf hs rfl
    unfold Oper.wp; rw [h1]
    refine h2.mono ?_
    rintro e w' ⟨x, rfl, h3⟩
    exact ⟨(hS x).out h3, k x _ _ (hf.put _ hd) h3⟩⟩
theorem Zsk (hr : Region.ready .any ops listed = []) (k : WQ c E L Q .normal) : WA c E L S ops Q q fuel listed := fun a w hf hs => by
  cases fuel with
  | zero => exact ⟨hr, k a w hf hs⟩
  | succ m => exact ⟨fun _ => k a w hf hs, by rw [hr]; simp⟩
end
end Go.Proofs.YtjfjbgihojiijacGreatDoor
