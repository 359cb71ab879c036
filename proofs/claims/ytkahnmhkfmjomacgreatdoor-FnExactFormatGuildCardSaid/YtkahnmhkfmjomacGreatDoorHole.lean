/-
  An element taken out of a list that is owned, and put back.
-/
import Derived.Test.YtkahnmhkfmjomacGreatDoorStr
namespace Go.Proofs.YtkahnmhkfmjomacGreatDoor
open Go Go.RowKit

/-- L gives L2, with the same blocks. -/
def Ent (L2 L : List Asn) : Prop := ∀ (w : World) (fp : List Nat), sat w L fp → ∃ fp', sat w L2 fp' ∧ fp'.Perm fp
theorem Ent.trans {L1 L2 L3 : List Asn} (h : Ent L1 L2) (g : Ent L2 L3) : Ent L1 L3 := fun w fp hs => by
  obtain ⟨f1, h1, p1⟩ := g w fp hs
  obtain ⟨f2, h2, p2⟩ := h w f1 h1
  exact ⟨f2, h2, p2.trans p1⟩
theorem SH.ent {w0 w : World} {ex : List Nat} {L L2 : List Asn} (h : SH w0 ex L w) (hs : Ent L2 L) : SH w0 ex L2 w := by
  obtain ⟨k, fp, h1, h2, h3⟩ := h
  obtain ⟨f', h4, hp⟩ := hs w fp h1
  exact ⟨k, f', h4, hp.nodup_iff.2 h2, fun b hb => h3 b (hp.mem_iff.1 hb)⟩
theorem ent_head {A : Asn} {As L : List Asn} (h : ∀ w f, A.P w f → ∃ f', sat w As f' ∧ f'.Perm f) : Ent (As ++ L) (A :: L) := fun w fp ⟨f1, f2, e, h1, h2⟩ => by
  subst e
  obtain ⟨f', h3, hp⟩ := h w f1 h1
  exact ⟨f' ++ f2, sat_append.2 ⟨f', f2, rfl, h3, h2⟩, hp.append_right f2⟩
section
variable {c : Cx} {E : Env} {L L2 : List Asn} {Q : Post}
theorem wl_ent {ops : Array Oper} {rest : List Oper} (h : Ent L2 L) (k : WL c E L2 ops Q rest) : WL c E L ops Q rest := fun a w hf hs => k a w hf (hs.ent h)
end

/-- v owns the list, but for what the element at k leads to. -/
def hol {α : Type} [Rep α] (v : Value) (us : List Value) (xs : List α) (k : Nat) : Asn where
  P := fun w f => ∃ (f0 : List Nat) (fs : List (List Nat)), OwS w f0 (Rep.sz α) v us ∧ us.length = xs.length * Rep.sz α ∧ f = f0 ++ fs.flatten ∧ fs.length = xs.length ∧ fs[k]? = some [] ∧
    ∀ j x, j ≠ k → xs[j]? = some x → ∃ g, fs[j]? = some g ∧ Rep.ow w g (chunk us j (Rep.sz α)) x
  loc := fun w w' f ⟨f0, fs, h1, h2, e, h4, h5, h6⟩ hk => by
    subst e
    refine ⟨f0, fs, h1.keep (fun b hb => hk b (List.mem_append_left _ hb)), h2, rfl, h4, h5, fun j x hj hx => ?_⟩
    obtain ⟨g, hg, ho⟩ := h6 j x hj hx
    exact ⟨g, hg, Rep.ow_keep ho (fun b hb => hk b (List.mem_append_right _ (List.mem_flatten.2 ⟨g, List.mem_of_getElem? hg, hb⟩)))⟩

theorem flatten_out {g : List Nat} : ∀ {fs : List (List Nat)} {k : Nat}, fs[k]? = some g → (g ++ (fs.set k []).flatten).Perm fs.flatten
  | [], k, h => by simp at h
  | f :: fs, 0, h => by simp at h; subst h; simp
  | f :: fs, k + 1, h => by
    have ih := flatten_out (fs := fs) (k := k) (g := g) (by simpa using h)
    simp only [List.set_cons_succ, List.flatten_cons]
    rw [← List.append_assoc]
    exact ((List.perm_append_comm).append_right _).trans (by rw [List.append_assoc]; exact ih.append_left f)
theorem flatten_in {g : List Nat} : ∀ {fs : List (List Nat)} {k : Nat}, fs[k]? = some [] → (fs.set k g).flatten.Perm (fs.flatten ++ g)
  | [], k, h => by simp at h
  | f :: fs, 0, h => by simp at h; subst h; simpa using List.perm_append_comm
  | f :: fs, k + 1, h => by
    have ih := flatten_in (fs := fs) (k := k) (g := g) (by simpa using h)
    simp only [List.set_cons_succ, List.flatten_cons, List.append_assoc]
    exact ih.append_left f

section
variable {α : Type} [Rep α] {L L' L1 L2 : List Asn} {v : Value} {us cells : List Value} {xs : List α} {k : Nat}
theorem own_open {w : World} {fp : List Nat} (h : OwL w fp v us xs) (hk : k < xs.length) (hc : chunk us k (Rep.sz α) = cells) : ∃ g f, (g ++ f).Perm fp ∧ Rep.ow w g cells (gx xs k) ∧ (hol v us xs k).P w f := by
  obtain ⟨f0, fs, h1, h2, rfl, h4, h5⟩ := h
  obtain ⟨g, hg, ho⟩ := h5 k _ (gx_some hk)
  refine ⟨g, f0 ++ (fs.set k []).flatten, ?_, by rw [← hc]; exact ho, f0, fs.set k [], h1, h2, rfl, by simp [h4], by simp [h4, hk], fun j x hj hx => ?_⟩
  · have := flatten_out hg
    rw [← List.append_assoc]
    exact ((List.perm_append_comm).append_right _).trans (by rw [List.append_assoc]; exact this.append_left f0)
  · obtain ⟨g', hg', ho'⟩ := h5 j x hx
    exact ⟨g', by rw [List.getElem?_set_ne (Ne.symm hj)]; exact hg', ho'⟩
theorem take_elem (hp : Pick (own v us xs) L L') (hk : k < xs.length) (hc : chunk us k (Rep.sz α) = cells) : Ent (owc cells (gx xs k) :: hol v us xs k :: L') L := fun w fp h => by
  obtain ⟨fp', ⟨f1, f2, rfl, h1, h2⟩, hperm⟩ := hp w fp h
  obtain ⟨g, f, hpm, ho, hh⟩ := own_open h1 hk hc
  exact ⟨g ++ (f ++ f2), ⟨g, f ++ f2, rfl, ho, f, f2, rfl, hh, h2⟩, by rw [← List.append_assoc]; exact (hpm.append_right f2).trans hperm⟩
theorem hol_set {e : α} {w : World} {f : List Nat} (h : (hol v us (xs.set k e) k).P w f) : (hol v us xs k).P w f := by
  obtain ⟨f0, fs, h1, h2, rfl, h4, h5, h6⟩ := h
  refine ⟨f0, fs, h1, by simpa using h2, rfl, by simpa using h4, h5, fun j x hj hx => h6 j x hj (by rw [List.getElem?_set_ne (Ne.symm hj)]; exact hx)⟩
/-- .. of a list whose element at k has just been set. -/
theorem take_set {e : α} (hp : Pick (own v us (xs.set k e)) L L') (hk : k < xs.length) (hc : chunk us k (Rep.sz α) = cells) : Ent (owc cells e :: hol v us xs k :: L') L := fun w fp h => by
  obtain ⟨fp', ⟨f1, f2, rfl, h1, h2⟩, hperm⟩ := hp w fp h
  obtain ⟨g, f, hpm, ho, hh⟩ := own_open h1 (k := k) (by simpa using hk) hc
  rw [gx_set hk] at ho
  exact ⟨g ++ (f ++ f2), ⟨g, f ++ f2, rfl, ho, f, f2, rfl, hol_set hh, h2⟩, by rw [← List.append_assoc]; exact (hpm.append_right f2).trans hperm⟩
theorem put_elem {x' : α} (hp : Pick (hol v us xs k) L L1) (hq : Pick (owc cells x') L1 L2) (hk : k < xs.length) (hc : chunk us k (Rep.sz α) = cells) : Ent (own v us (xs.set k x') :: L2) L := fun w fp h => by
  obtain ⟨fp', ⟨f1, f2, rfl, ⟨f0, fs, h1, h2, rfl, h4, h5, h6⟩, hL⟩, hperm⟩ := hp w fp h
  obtain ⟨fp2, ⟨g, f3, rfl, ho, h3⟩, hperm2⟩ := hq w f2 hL
  refine ⟨(f0 ++ (fs.set k g).flatten) ++ f3, ⟨_, f3, rfl, ⟨f0, fs.set k g, h1, by simpa using h2, rfl, by simp [h4], fun j x hx => ?_⟩, h3⟩, ?_⟩
  · rcases Nat.decEq j k with hj | rfl
    · rw [List.getElem?_set_ne (Ne.symm hj)] at hx
      obtain ⟨g', hg', ho'⟩ := h6 j x hj hx
      exact ⟨g', by rw [List.getElem?_set_ne (Ne.symm hj)]; exact hg', ho'⟩
    · rw [List.getElem?_set_self hk] at hx
      injection hx with hx
      subst hx
      exact ⟨g, by rw [List.getElem?_set_self (by rw [h4]; exact hk)], by rw [hc]; exact ho⟩
  · have p1 := flatten_in (g := g) h5
    have p2 : ((f0 ++ (fs.set k g).flatten) ++ f3).Perm ((f0 ++ fs.flatten) ++ (g ++ f3)) := by
      have := (p1.append_left f0).append_right f3
      simpa [List.append_assoc] using this
    exact p2.trans ((hperm2.append_left _).trans hperm)
theorem hol_len {w : World} {w0 : World} {ex : List Nat} (h : SH w0 ex L w) (hp : Pick (hol v us xs k) L L') : us.length = xs.length * Rep.sz α := by
  obtain ⟨_, fp, ⟨f1, f2, rfl, ⟨_, _, _, h2, _⟩, _⟩, _⟩ := h.pick hp
  exact h2
theorem chunk_putp {vs : List Value} {o m : Nat} (hu : us.length = m * Rep.sz α) (hk : k < m) (ho : Nat.ble (o + vs.length) (Rep.sz α) = true) (hc : chunk us k (Rep.sz α) = cells) {cells' : List Value} (he : put_ cells o vs = cells') : chunk (put_ us (k * Rep.sz α + o) vs) k (Rep.sz α) = cells' := by
  have ho' : o + vs.length ≤ Rep.sz α := Nat.le_of_ble_eq_true ho
  have hle : k * Rep.sz α + Rep.sz α ≤ us.length := by rw [hu, ← Nat.succ_mul]; exact Nat.mul_le_mul_right _ hk
  have hcl : cells.length = Rep.sz α := by rw [← hc]; unfold chunk; simp; omega
  rw [← he]
  apply List.ext_getElem?
  intro i
  rw [chunk_get, put_get (by omega), put_get (by omega)]
  rw [← hc]
  split
  · rename_i hi
    by_cases h : o ≤ i ∧ i < o + vs.length
    · rw [if_pos (by omega), if_pos h]; congr 1; omega
    · rw [if_neg (by omega), if_neg h, chunk_get, if_pos hi]
  · rename_i hi
    rw [if_neg (by omega), chunk_get, if_neg hi]
end

section
variable {α : Type} [Rep α] {c : Cx} {E : Env} {L L' : List Asn} {v : Value} {us : List Value} {xs : List α} {k : Nat} {Q : Post}
theorem wl_lenh {ops : Array Oper} {rest : List Oper} (hp : Pick (hol v us xs k) L L') (K : us.length = xs.length * Rep.sz α → WL c E L ops Q rest) : WL c E L ops Q rest := fun a w hf hs => K (hol_len hs hp) a w hf hs
theorem so_hol {t : TypeId} {x y : Operand} {b : Bool} {n o : Nat} {u : Value} {vs : List Value} (ht : tyk c.P t = some (b, n)) (hp : Pick (hol v us xs k) L L')
    (hx : ev E x = some (sptr v k o (Rep.sz α))) (hy : ev E y = some u) (hu : u.cells = vs.toArray) (hl : Nat.beq vs.length n = true) (hfit : Nat.ble (o + n) (Rep.sz α) = true) (h1 : vs.all (·.oneCell') = true) (hk : k < xs.length) :
    SkipOp c E L (.store t x y) (hol v (put_ us (k * Rep.sz α + o) vs) xs k :: L') := fun a w o' hf hs ho' => by
  have hl' : vs.length = n := Nat.eq_of_beq_eq_true hl
  have hfit' : o + n ≤ Rep.sz α := Nat.le_of_ble_eq_true hfit
  have key : ∀ f, OwS w f (Rep.sz α) v us → us.length = xs.length * Rep.sz α → ∃ q, f = [q] ∧ ∃ cs : Array Value, (execOp a.eval o').run c.P w = .ok .skip (w.setRow q cs) ∧ OwS (w.setRow q cs) f (Rep.sz α) v (put_ us (k * Rep.sz α + o) vs) := fun f hO hlu => by
    have hle : k * Rep.sz α + Rep.sz α ≤ us.length := by rw [hlu, ← Nat.succ_mul]; exact Nat.mul_le_mul_right _ hk
    have hlt : k * Rep.sz α + o + vs.length ≤ us.length := by omega
    rcases hO with ⟨_, h2, _⟩ | ⟨q, off, len, cap, cs, T, rfl, rfl, h3, h4, h5, h6, h7, h8⟩
    · rw [h2] at hle
      have hps := Rep.pos (α := α)
      have hz : k * Rep.sz α + Rep.sz α ≤ 0 := hle
      omega
    · have hfit2 : off + (k * Rep.sz α + o) + n ≤ cs.toList.length := by
        have : us.length ≤ cap * Rep.sz α := by rw [h4]; exact Nat.mul_le_mul_right _ h5
        simp; omega
      have hr := run_storeVar (P := c.P) ht (o := off + (k * Rep.sz α + o)) (cs := cs.toList) (by simpa using h3) hu hl' hfit2 (by simpa using h1)
      have hp2 : (cs.toList.take (off + (k * Rep.sz α + o)) ++ vs ++ cs.toList.drop (off + (k * Rep.sz α + o) + n)) = put_ cs.toList (off + (k * Rep.sz α + o)) vs := by rw [put_, hl']
      refine ⟨q, rfl, (put_ cs.toList (off + (k * Rep.sz α + o)) vs).toArray, ?_, .inr ⟨q, off, len, cap, _, T, rfl, rfl, setRow_heap w q _ _ T (0, 0) h3, ?_, h5, h6, ?_, ?_⟩⟩
      · rw [hp2] at hr
        simp [execOp, ho', Instr.storeAt, Instr.sureAddr, hf.eval hx, hf.eval hy, sptr, hr]
      · rw [put_len hlt, h4]
      · rw [List.size_toArray, put_len (by omega)]; simpa using h7
      · intro j z hj
        rw [put_get hlt] at hj
        rw [List.getElem?_toArray, put_get (by omega)]
        split at hj
        · rename_i h
          rw [if_pos (by omega), show off + j - (off + (k * Rep.sz α + o)) = j - (k * Rep.sz α + o) by omega]
          exact hj
        · rename_i h
          rw [if_neg (by omega)]
          simpa using h8 j z hj
  have hs' := hs.pick hp
  obtain ⟨_, _, ⟨f1, f2, rfl, ⟨f0, fs, hA, hAl, _⟩, _⟩, _⟩ := hs'
  obtain ⟨q, rfl, cs, hr, hO⟩ := key f0 hA hAl
  refine ⟨w.setRow q cs, hr, ?_⟩
  refine SH.step (L0 := [hol v us xs k]) (L1 := [hol v (put_ us (k * Rep.sz α + o) vs) xs k]) (L := L') (hs.pick hp) fun fq hfq hnd hltq => ?_
  obtain ⟨g1, g2, rfl, ⟨f0, fs, k1, k2, rfl, k4, k5, k6⟩, hg2⟩ := hfq
  have e2 : g2 = [] := hg2
  subst e2
  obtain ⟨q', rfl, cs', hr', hO'⟩ := key f0 k1 k2
  rw [hr] at hr'
  injection hr' with _ ew
  rw [ew]
  have hnd1 := List.nodup_append.1 (by simpa using hnd : ([q'] ++ fs.flatten).Nodup)
  have hne : ∀ z, z ∈ fs.flatten → z ≠ q' := fun z hz e => hnd1.2.2 q' (by simp) z hz e.symm
  have hkeep : ∀ z, z ∈ fs.flatten → (w.setRow q' cs').heap[z]? = w.heap[z]? := fun z hz => setRow_other w q' z cs' (hne z hz)
  have hle : k * Rep.sz α + Rep.sz α ≤ us.length := by rw [k2, ← Nat.succ_mul]; exact Nat.mul_le_mul_right _ hk
  have hlt : k * Rep.sz α + o + vs.length ≤ us.length := by omega
  refine ⟨?_, [q'] ++ fs.flatten, ⟨[q'] ++ fs.flatten, [], by simp, ⟨[q'], fs, hO', ?_, rfl, k4, k5, fun j z hj hz => ?_⟩, rfl⟩, by simpa using hnd, fun z hz => ?_⟩
  · have := keep_setRow w q' cs'
    exact ⟨this.os, this.tape, this.output, this.size, fun i hi hni => this.block i hi (fun h => hni (by simp at h; subst h; simp))⟩
  · rw [put_len hlt, k2]
  · obtain ⟨g, hg, ho⟩ := k6 j z hj hz
    refine ⟨g, hg, ?_⟩
    have hjl : j < xs.length := (List.getElem?_eq_some_iff.1 hz).1
    have hch : chunk (put_ us (k * Rep.sz α + o) vs) j (Rep.sz α) = chunk us j (Rep.sz α) := by
      apply List.ext_getElem?
      intro i
      rw [chunk_get, chunk_get]
      split
      · rename_i hi
        rw [put_get hlt, if_neg]
        rintro ⟨h3, h4⟩
        rcases Nat.lt_or_gt_of_ne hj with h | h
        · have := Nat.mul_le_mul_right (Rep.sz α) (show j + 1 ≤ k from h)
          rw [Nat.add_mul] at this; omega
        · have := Nat.mul_le_mul_right (Rep.sz α) (show k + 1 ≤ j from h)
          rw [Nat.add_mul] at this; omega
      · rfl
    rw [hch]
    exact Rep.ow_keep ho (fun b hb => hkeep b (List.mem_flatten.2 ⟨g, List.mem_of_getElem? hg, hb⟩))
  · have hz' : z ∈ [q'] ++ fs.flatten := by simpa using hz
    exact ⟨.inl (by simpa using hz'), by simpa [World.setRow] using hltq z (by simpa using hz')⟩
end
theorem RdL.hl {α : Type} [Rep α] {w : World} {B : Nat → Prop} {x : Hd} {us : List Value} {xs : List α} (h : RdL w B (sl x) us xs) : xs.length = x.l := by
  obtain ⟨⟨a, len, cap, e, h2, _⟩, hl, _⟩ := h
  have e1 : len = x.l := by simp [sl] at e; exact e.2.1.symm
  rw [← e1]
  exact Nat.eq_of_mul_eq_mul_right (Rep.pos (α := α)) (hl.symm.trans h2)
theorem wc_hl {α : Type} [Rep α] {c : Cx} {E : Env} {L : List Asn} {x : Hd} {us : List Value} {xs : List α} {code : Code} {Q : Post} (h : Rds c L (sl x) us xs) (k : xs.length = x.l → WC c E L code Q) : WC c E L code Q := fun a w hf hw => k (h.on hw).hl a w hf hw
theorem OwL.toF {α : Type} [Flat α] {w : World} {f : List Nat} {v : Value} {us : List Value} {xs : List α} (h : OwL w f v us xs) : OwL w f v (encs xs) xs := by
  have e : us = encs xs := by
    obtain ⟨f0, fs, _, h2, _, _, h5⟩ := h
    refine rd_flat h2 fun k x hx => ?_
    obtain ⟨g, _, ho⟩ := h5 k x hx
    exact ho.1
  rw [← e]; exact h
/-! Many orders, which meet again and again. -/
structure NdS where
  fuel : Nat
  listed : Array Bool
  X : Type
  E : X → Env
  L : X → List Asn
end Go.Proofs.YtkahnmhkfmjomacGreatDoor
