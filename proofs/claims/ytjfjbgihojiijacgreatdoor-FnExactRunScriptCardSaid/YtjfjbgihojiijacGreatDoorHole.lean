/-
  An element taken out of a list that is owned, and put back.
-/
import Derived.Test.YtjfjbgihojiijacGreatDoorStr
namespace Go.Proofs.YtjfjbgihojiijacGreatDoor
open Go Go.RowKit

/-- L gives L2, with the same blocks. -/
def Ent (L2 L : List Asn) : Prop := ∀ (w : World) (fp : List Nat), sat w L fp → ∃ fp', sat w L2 fp' ∧ fp'.Perm fp
theorem Ent.trans {L1 L2 L3 : List Asn} (h : Ent L1 L2) (g : Ent L2 L3) : Ent L1 L3 := fun w fp hs => by
  obtain ⟨f1, h1, p1⟩ := g w fp hs
  obtain ⟨f2, h2, p2⟩ := h w f1 h1
  exact ⟨f2, h2, p2.trans p1⟩
theorem SH.ent {w0 w : World} {ex : List Nat} {L L2 : List Asn} (h : SH w0 ex L w) (hs : Ent L2 L) : SH w0 ex L2 w := by
  obtain ⟨k, fp, h1, h2, h3⟩ := h
  obtain ⟨f', h4, hp⟩ := hs w fp h1
  exact ⟨k, f', h4, hp.nodup_iff.2 h2, fun b hb => h3 b (hp.mem_iff.1 hb)⟩
theorem Zrx {A : Asn} {As L : List Asn} (h : ∀ w f, A.P w f → ∃ f', sat w As f' ∧ f'.Perm f) : Ent (As ++ L) (A :: L) := fun w fp ⟨f1, f2, e, h1, h2⟩ => by
  subst e
  obtain ⟨f', h3, hp⟩ := h w f1 h1
  exact ⟨f' ++ f2, Zhe.2 ⟨f', f2, rfl, h3, h2⟩, hp.append_right f2⟩
section
variable {c : Cx} {E : Env} {L L2 : List Asn} {Q : Post}
theorem ZwD {S : List Asn} {ops : Array Oper} {q fuel : Nat} {listed : Array Bool} (h : Ent L2 L) (k : WA c E L2 S ops Q q fuel listed) : WA c E L S ops Q q fuel listed := fun a w hf hs => k a w hf (hs.ent h)
theorem Zww {S : List Asn} {ops : Array Oper} {q fuel i : Nat} {listed : Array Bool} (h : Ent L2 L) (k : WAs c E L2 S ops Q q fuel listed i) : WAs c E L S ops Q q fuel listed i := fun a w hf hs => k a w hf (hs.ent h)
end

/-- v owns the list, but for what the element at k leads to. -/
def hol {α : Type} [Rep α] (v : Value) (us : List Value) (xs : List α) (k : Nat) : Asn where
  P := fun w f => ∃ (f0 : List Nat) (fs : List (List Nat)), OwS w f0 (Rep.sz α) v us ∧ us.length = xs.length * Rep.sz α ∧ f = f0 ++ fs.flatten ∧ fs.length = xs.length ∧ fs[k]? = some [] ∧
    ∀ j x, j ≠ k → xs[j]? = some x → ∃ g, fs[j]? = some g ∧ Rep.ow w g (Za4 us j (Rep.sz α)) x
  loc := fun w w' f ⟨f0, fs, h1, h2, e, h4, h5, h6⟩ hk => by
    subst e
    refine ⟨f0, fs, h1.keep (fun b hb => hk b (List.mem_append_left _ hb)), h2, rfl, h4, h5, fun j x hj hx => ?_⟩
    obtain ⟨g, hg, ho⟩ := h6 j x hj hx
    exact ⟨g, hg, Rep.ow_keep ho (fun b hb => hk b (List.mem_append_right _ (List.mem_flatten.2 ⟨g, List.mem_of_getElem? hg, hb⟩)))⟩

theorem Znw {g : List Nat} : ∀ {fs : List (List Nat)} {k : Nat}, fs[k]? = some g → (g ++ (fs.set k []).flatten).Perm fs.flatten
  | [], k, h => by simp at h
  | f :: fs, 0, h => by simp at h; subst h; simp
  | f :: fs, k + 1, h => by
    have ih := Znw (fs := fs) (k := k) (g := g) (by simpa using h)
    simp only [List.set_cons_succ, List.flatten_cons]
    rw [← List.append_assoc]
    exact ((List.perm_append_comm).append_right _).trans (by rw [List.append_assoc]; exact ih.append_left f)
theorem Zpq {g : List Nat} : ∀ {fs : List (List Nat)} {k : Nat}, fs[k]? = some [] → (fs.set k g).flatten.Perm (fs.flatten ++ g)
  | [], k, h => by simp at h
  | f :: fs, 0, h => by simp at h; subst h; simpa using List.perm_append_comm
  | f :: fs, k + 1, h => by
    have ih := Zpq (fs := fs) (k := k) (g := g) (by simpa using h)
    simp only [List.set_cons_succ, List.flatten_cons, List.append_assoc]
    exact ih.append_left f

section
variable {α : Type} [Rep α] {L L' L1 L2 : List Asn} {v : Value} {us cells : List Value} {xs : List α} {k : Nat}
theorem Zun {w : World} {fp : List Nat} (h : OwL w fp v us xs) (hk : k < xs.length) (hc : Za4 us k (Rep.sz α) = cells) : ∃ g f, (g ++ f).Perm fp ∧ Rep.ow w g cells (gx xs k) ∧ (hol v us xs k).P w f := by
  obtain ⟨f0, fs, h1, h2, rfl, h4, h5⟩ := h
  obtain ⟨g, hg, ho⟩ := h5 k _ (ZkP hk)
  refine ⟨g, f0 ++ (fs.set k []).flatten, ?_, by rw [← hc]; exact ho, f0, fs.set k [], h1, h2, rfl, by simp [h4], by simp [h4, hk], fun j x hj hx => ?_⟩
  · have := Znw hg
    rw [← List.append_assoc]
    exact ((List.perm_append_comm).append_right _).trans (by rw [List.append_assoc]; exact this.append_left f0)
  · obtain ⟨g', hg', ho'⟩ := h5 j x hx
    exact ⟨g', by rw [List.getElem?_set_ne (Ne.symm hj)]; exact hg', ho'⟩
theorem Zqp (hp : Pick (own v us xs) L L') (hk : k < xs.length) (hc : Za4 us k (Rep.sz α) = cells) : Ent (owc cells (gx xs k) :: hol v us xs k :: L') L := fun w fp h => by
  obtain ⟨fp', ⟨f1, f2, rfl, h1, h2⟩, hperm⟩ := hp w fp h
  obtain ⟨g, f, hpm, ho, hh⟩ := Zun h1 hk hc
  exact ⟨g ++ (f ++ f2), ⟨g, f ++ f2, rfl, ho, f, f2, rfl, hh, h2⟩, by rw [← List.append_assoc]; exact (hpm.append_right f2).trans hperm⟩
theorem Zuo {x' : α} (hp : Pick (hol v us xs k) L L1) (hq : Pick (owc cells x') L1 L2) (hk : k < xs.length) (hc : Za4 us k (Rep.sz α) = cells) : Ent (own v us (xs.set k x') :: L2) L := fun w fp h => by
  obtain ⟨fp', ⟨f1, f2, rfl, ⟨f0, fs, h1, h2, rfl, h4, h5, h6⟩, hL⟩, hperm⟩ := hp w fp h
  obtain ⟨fp2, ⟨g, f3, rfl, ho, h3⟩, hperm2⟩ := hq w f2 hL
  refine ⟨(f0 ++ (fs.set k g).flatten) ++ f3, ⟨_, f3, rfl, ⟨f0, fs.set k g, h1, by simpa using h2, rfl, by simp [h4], fun j x hx => ?_⟩, h3⟩, ?_⟩
  · rcases Nat.decEq j k with hj | rfl
    · rw [List.getElem?_set_ne (Ne.symm hj)] at hx
      obtain ⟨g', hg', ho'⟩ := h6 j x hj hx
      exact ⟨g', by rw [List.getElem?_set_ne (Ne.symm hj)]; exact hg', ho'⟩
    · rw [List.getElem?_set_self hk] at hx
      injection hx with hx
      subst hx
      exact ⟨g, by rw [List.getElem?_set_self (by rw [h4]; exact hk)], by rw [hc]; exact ho⟩
  · have p1 := Zpq (g := g) h5
    have p2 : ((f0 ++ (fs.set k g).flatten) ++ f3).Perm ((f0 ++ fs.flatten) ++ (g ++ f3)) := by
      have := (p1.append_left f0).append_right f3
      simpa [List.append_assoc] using this
    exact p2.trans ((hperm2.append_left _).trans hperm)
end

section
variable {α : Type} [Rep α] {c : Cx} {E : Env} {L L' : List Asn} {v : Value} {us : List Value} {xs : List α} {k : Nat} {Q : Post}
end
theorem RdL.hl {α : Type} [Rep α] {w : World} {B : Nat → Prop} {x : Hd} {us : List Value} {xs : List α} (h : RdL w B (sl x) us xs) : xs.length = x.l := by
  obtain ⟨⟨a, len, cap, e, h2, _⟩, hl, _⟩ := h
  have e1 : len = x.l := by simp [sl] at e; exact e.2.1.symm
  rw [← e1]
  exact Nat.eq_of_mul_eq_mul_right (Rep.pos (α := α)) (hl.symm.trans h2)
theorem ZuI {α : Type} [Rep α] {c : Cx} {E : Env} {L : List Asn} {x : Hd} {us : List Value} {xs : List α} {code : Code} {Q : Post} (h : Rds c L (sl x) us xs) (k : xs.length = x.l → WC c E L code Q) : WC c E L code Q := fun a w hf hw => k (h.on hw).hl a w hf hw
theorem OwL.toF {α : Type} [Flat α] {w : World} {f : List Nat} {v : Value} {us : List Value} {xs : List α} (h : OwL w f v us xs) : OwL w f v (encs xs) xs := by
  have e : us = encs xs := by
    obtain ⟨f0, fs, _, h2, _, _, h5⟩ := h
    refine Zsx h2 fun k x hx => ?_
    obtain ⟨g, _, ho⟩ := h5 k x hx
    exact ho.1
  rw [← e]; exact h
theorem Zxp {α : Type} [Flat α] {L : List Asn} {h0 : Hd} {x : List α} : Ent (ownF (sl h0) x :: L) (owc [sl h0] x :: L) := Zrx (As := [ownF (sl h0) x]) fun w f h => by
  obtain ⟨v, vs, e, o⟩ := h
  injection e with e _
  subst e
  exact ⟨f, ⟨f, [], by simp, o.toF, rfl⟩, List.Perm.refl _⟩
/-! Many orders, which meet again and again. -/
structure NdS where
  fuel : Nat
  listed : Array Bool
  X : Type
  E : X → Env
  L : X → List Asn
def ZoP (c : Cx) (S : List Asn) (ops : Array Oper) (Q : Post) (q : Nat) (nd : NdS) : Prop := ∀ x : nd.X, WA c (nd.E x) (nd.L x) S ops Q q nd.fuel nd.listed
theorem Zq9 {c : Cx} {E : Env} {L S : List Asn} {ops : Array Oper} {Q : Post} {q fuel : Nat} {listed : Array Bool} (ns : List NdS)
    (h : ∀ nd ∈ ns, (∀ nd' ∈ ns, nd'.fuel < nd.fuel → ZoP c S ops Q q nd') → ZoP c S ops Q q nd)
    (root : (∀ nd ∈ ns, nd.fuel < fuel + 1 → ZoP c S ops Q q nd) → WA c E L S ops Q q fuel listed) : WA c E L S ops Q q fuel listed := by
  have key : ∀ m, ∀ nd ∈ ns, nd.fuel < m → ZoP c S ops Q q nd := by
    intro m
    induction m with
    | zero => intro nd _ h0; omega
    | succ m ih => intro nd hnd h0; exact h nd hnd fun nd' hnd' hlt => ih nd' hnd' (by omega)
  exact root fun nd hnd h0 => key (fuel + 1) nd hnd h0
theorem waj {c : Cx} {E : Env} {L S : List Asn} {ops : Array Oper} {Q : Post} {q m : Nat} {ns : List NdS} (H : ∀ nd' ∈ ns, nd'.fuel < m → ZoP c S ops Q q nd') (k : Nat) {nd : NdS} (hk : ns[k]? = some nd) (hm : nd.fuel < m) (x : nd.X) {listed : Array Bool} (hl : nd.listed = listed) {fuel : Nat} (hf : nd.fuel = fuel)
    (hE : Sub (nd.E x) E) (hL : ZaD (nd.L x) L) : WA c E L S ops Q q fuel listed := by
  subst hl; subst hf
  exact fun a w hfit hs => H nd (List.mem_of_getElem? hk) hm x a w (hfit.sub hE) (hs.weak hL)
end Go.Proofs.YtjfjbgihojiijacGreatDoor
