/-
  FnExactQuiltAreas: for every input the law returns true, and each argument reads afterwards as it read before. No conditions.
-/
import Derived.Test.YtgimnmlcdidcdaeRows
import Derived.Test.YtgimnmlcdidcdaeWalks2
import Derived.Test.YtgimnmlcdidcdaeOpen
import Derived.Test.YtgimnmlcdidcdaePLaw
import Derived.WalkKit
import Derived.ProofKit
import Derived.OpenShut
namespace Go.Proofs.Ytgimnmlcdidcdae.fnExactQuiltAreas
open Go.ChangeShapes Go.WideShapes Go.ChangeAt Go.RowKit

theorem own : ownKnob Try.prog.godebug = none := by kernel_rfl

set_option maxRecDepth 100000 in
theorem lifted (os : Os) (started : os.Started) (H : Type) (enc : TypeId × Value → H) :
    ReturnsInHanded {} Try.checked os 3 .any (Rows.fnExactQuiltAreasSpec.pre6 enc Try.prog Try.f3 Rows.fnExactQuiltAreasRow.domain false) (Rows.fnExactQuiltAreasSpec.post enc Try.prog Try.f3 false true false false) := by
  refine returnsInHanded_of_change (C := Try.checked) own started (by kernel_rfl) Try.func3
    (ChangeSpec.witness6 (enc := enc) (C := Try.checked) false ⟨#[], #[.agg #[.int .i64 0, .int .i64 0, (Value.slice none 0 0)], .slice none 0 0], []⟩ 8 (by kernel_rfl) (by kernel_rfl) (by kernel_rfl) (by kernel_rfl)) ?_
  intro W base args ds gs before hval0 hW hcnd _
  have hval : ∀ (j : Nat) t v, Try.f3.params[j]? = some t → args[j]? = some v → Value.okWide Try.prog W .any base t v := hval0
  have hW' := hW
  obtain ⟨p, q, hA0, hV, rfl, hfz, hnd⟩ := hW
  have hA : DataW.TrodAll enc Try.prog W 0 (fun _ => true) true Try.f3.params.toList args.toList ds p := hA0
  rw [Try.params3] at hA hval
  obtain ⟨v0, vs0, d0, ds0, p0, q0, hargs, rfl, rfl, h0, r0⟩ := trodAll_cons hA
  obtain ⟨v1, vs1, d1, ds1, p1, q1, rfl, rfl, rfl, h1, r1⟩ := trodAll_cons r0
  obtain ⟨rfl, rfl, rfl⟩ := trodAll_nil r1
  obtain rfl : args = #[v0, v1] := by cases args; simp_all
  obtain ⟨rfl, rfl⟩ := trodVars_none hV
  simp only [List.append_nil] at hW'
  have k0 := h0
  have k1 := h1
  obtain ⟨cs0, a0, rfl, m0, o0⟩ := openS Try.underlying24 op_24 (hval 0 24 v0 rfl rfl) h0
  obtain ⟨x0_0, rfl, m0_0⟩ := rd_GQuilt.1 m0
  obtain ⟨x1, u1, a1, rfl, m1, o1⟩ := openL Try.underlying25 op_25 (hval 1 25 v1 rfl rfl) h1
  refine (c_laws_FnExactQuiltAreas W a0 x0_0 m0_0 a1 x1 u1 m1 (p_FnExactQuiltAreas a0 a1 o0 o1)).mono fun e W' ⟨he, hs⟩ => ?_
  subst he
  have hb := hs.below
  have hlt := fun x (hx : x ∈ _) => hW'.lt x hx
  exact ⟨_, rfl, law_end (pa := (p0 ++ (p1 ++ []))) (by simp) hW' rfl (fun _ _ _ => trodAll_cons_mk (shut_bool Try.underlying4 _) trodAll_mk0)
    (trodAll_cons_mk (Below.trod laidOut (by kernel_rfl) (of_decide_eq_true (by kernel_rfl)) k0 hb (fun x hx => hlt x (by simp [hx]))) (trodAll_cons_mk (Below.trod laidOut (by kernel_rfl) (of_decide_eq_true (by kernel_rfl)) k1 hb (fun x hx => hlt x (by simp [hx]))) trodAll_mk0)) rfl hb⟩

theorem over : Rows.fnExactQuiltAreasRow.holds Try.pinned (OpenSpec.ofChange Rows.fnExactQuiltAreasSpec) :=
  OpenClaim.holds_of_wide 3 Try.f3 rfl rfl rfl rfl rfl rfl rfl ⟨rfl, rfl, rfl, rfl, rfl⟩ rfl rfl rfl rfl rfl (by kernel_rfl) Try.func3 (by kernel_rfl)
    (of_decide_eq_true (by kernel_rfl)) (by unfold Func.isWrapper; first | (rw [if_pos (by decide +kernel)]; kernel_rfl) | (rw [if_neg (by decide +kernel)]; exact ⟨rfl, rfl⟩))
    (fun os started H enc _ => lifted os started H enc)

theorem proved : Rows.FnExactQuiltAreasSaid :=
  over
#print axioms proved
end Go.Proofs.Ytgimnmlcdidcdae.fnExactQuiltAreas
