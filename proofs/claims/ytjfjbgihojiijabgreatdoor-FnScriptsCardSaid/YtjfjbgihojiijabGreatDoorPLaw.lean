/-
 The plain laws: what the functions compute, in Lean alone.
-/
import Derived.Test.YtjfjbgihojiijabGreatDoorP2
namespace Go.Proofs.YtjfjbgihojiijabGreatDoor
open Go

theorem Zse : ∀ (xs : List GAct) (acc : List GAct) (r : List Str), (∀ a ∈ xs, ZM a = true) → accF (xs.map actL ++ r) acc = accF r (acc ++ xs)
 | [], acc, r, _ => by simp
 | a :: xs, acc, r, h => by
  have ha := h a (by simp)
  have hi := ZuU ha (y := []) (z := []) (.inl rfl) (.inl rfl)
  have e : (⟨[] ++ (actL a).b ++ []⟩ : Str) = actL a := by simp
  rw [e] at hi
  have hb : ZjU (actL a) = false := by
   unfold ZjU
   have := hi.2.2.1
   rw [hi.2.1, Bool.true_and, beq_eq_false_iff_ne]
   omega
  rw [List.map_cons, List.cons_append, accF, hb, cond_false, ZuD hi]
  simp only [Bool.not_true, cond_false]
  rw [Zse xs _ r fun x hx => h x (by simp [hx])]
  simp
theorem Zqx {acts : List GAct} : ∀ (k : Nat) (r : List UInt8), (∀ j, j < k → ZM (gx acts j) = true) → ZbE (scrT acts k ++ r) [] = ((List.range k).map fun j => actL (gx acts j)) ++ ZbE r []
 | 0, r, _ => by simp [scrT]
 | k + 1, r, h => by
  have hf := fun x hx => (Zs0 (h k (by omega)) x hx).2
  rw [scrT, List.append_assoc, Zqx k _ fun j hj => h j (by omega), List.append_assoc, Zjg _ _ _ hf, List.nil_append, List.singleton_append, ZbE]
  have h10 : ((10 : UInt8) == 10) = true := rfl
  rw [h10, cond_true, List.range_succ, List.map_append, List.append_assoc]
  rfl
theorem p_FnScripts (code : List UInt8) (_ : Fit.ok code) : laws_FnScripts code = some true := by
 unfold laws_FnScripts ZlN
 simp only [Option.bind_some]
 by_cases hc : ((code.length : Nat) : Int) > 1048576
 ·rw [decide_eq_true hc]; rfl
 rw [decide_eq_false hc, cond_false]
 have hcl : code.length ≤ 1048576 := by omega
 obtain ⟨g, acts, e0, _, hl, hok⟩ := Zuc hcl
 obtain ⟨w, _, h2, hg⟩ := Zox
 rw [e0]
 simp only [Option.bind_some]
 have hall : (List.range acts.length).all (fun k => ZM (gx acts k)) = true := by
  rw [List.all_eq_true]
  intro k hk
  exact hok _ (ZX (by simpa using hk))
 have hS : Znb acts = (⟨scrT acts acts.length⟩, true) := by
  unfold Znb
  rw [decide_eq_false (by omega), cond_false, hall, cond_true]
 have hsl := ZoI (acts := acts) acts.length fun j hj => hok _ (ZX hj)
 have hacc : accF (ZbE (scrT acts acts.length) []) [] = some acts := by
  have h1 := Zqx (acts := acts) acts.length [] fun j hj => hok _ (ZX hj)
  rw [List.append_nil, ZcR actL] at h1
  rw [h1, Zse acts [] _ hok]
  rfl
 have hR : Zjs w ⟨scrT acts acts.length⟩ = (outM w acts, true) := by
  unfold Zjs
  simp only
  rw [decide_eq_false (by omega), cond_false, hacc]
  simp only
  rw [decide_eq_false (by omega), cond_false]
 have hr := Zp9 hg acts
 have hn := Zn2 hg acts
 have hrl := Zb7 hr.2
 rw [ZmH, hS]
 simp only [Option.bind_some]
 rw [Zno hg h2, hR, h2]
 simp only [Option.bind_some]
 rw [Zkf hg]
 simp only [Option.bind_some]
 have ho := Zb7 (ZuE hg (acts := acts) (by omega))
 rw [Za (by omega), ZbH (f := laws_FnScripts_L1 (RunM w acts)) (xs := []) (fun k => (⟨Lib.itoa (gx (RunM w acts).2 k)⟩ : Str)) (fun k s hk hs => by
  have hi := hn _ (ZX hk)
  unfold laws_FnScripts_L1
  rw [Zi3 hi.1 hi.2]
  simp only [Option.bind_some]
  rw [Za (by simp at hs; omega)])]
 simp only [Option.bind_some, List.nil_append]
 rw [ZdT (Zei hr.1), ZcR (fun n => (⟨Lib.itoa n⟩ : Str))]
 simp only [Option.bind_some, cond_true]
 have ho2 := ho
 unfold outM at ho2
 rw [List.length_append] at ho2
 rw [Za (by omega), show ((RunM w acts).2.map fun n => (⟨Lib.itoa n⟩ : Str)) ++ ZaE (RunM w acts).1 = outM w acts from rfl, Zmg (by omega)]
 rfl
end Go.Proofs.YtjfjbgihojiijabGreatDoor
