/-
  FnExactSampleGuild: for every input the law returns true, and each argument reads afterwards as it read before. No conditions.
-/
import Derived.Test.YtnfdinafbfggeabRows
import Derived.Test.YtnfdinafbfggeabWalks3
import Derived.Test.YtnfdinafbfggeabOpen
import Derived.Test.YtnfdinafbfggeabPLaw
import Derived.WalkKit
import Derived.ProofKit
import Derived.OpenShut
namespace Go.Proofs.Ytnfdinafbfggeab.fnExactSampleGuild
open Go.ChangeShapes Go.WideShapes Go.ChangeAt Go.RowKit

theorem own : ownKnob Try.prog.godebug = none := by kernel_rfl

set_option maxRecDepth 100000 in
theorem lifted (os : Os) (started : os.Started) (H : Type) (enc : TypeId × Value → H) :
    ReturnsInHanded {} Try.checked os 4 .any (Rows.fnExactSampleGuildSpec.pre6 enc Try.prog Try.f4 Rows.fnExactSampleGuildRow.domain false) (Rows.fnExactSampleGuildSpec.post enc Try.prog Try.f4 false true false false) := by
  refine returnsInHanded_of_change (C := Try.checked) own started (by kernel_rfl) Try.func4
    (ChangeSpec.witness6 (enc := enc) (C := Try.checked) false ⟨#[], #[], []⟩ 8 (by kernel_rfl) (by kernel_rfl) (by kernel_rfl) (by kernel_rfl)) ?_
  intro W base args ds gs before hval0 hW hcnd _
  have hval : ∀ (j : Nat) t v, Try.f4.params[j]? = some t → args[j]? = some v → Value.okWide Try.prog W .any base t v := hval0
  have hW' := hW
  obtain ⟨p, q, hA0, hV, rfl, hfz, hnd⟩ := hW
  have hA : DataW.TrodAll enc Try.prog W 0 (fun _ => true) true Try.f4.params.toList args.toList ds p := hA0
  rw [Try.params4] at hA hval
  obtain ⟨hargs, rfl, rfl⟩ := trodAll_nil hA
  obtain rfl : args = #[] := by cases args; simp_all
  obtain ⟨rfl, rfl⟩ := trodVars_none hV
  simp only [List.append_nil] at hW'
  refine (c_laws_FnExactSampleGuild W  (p_FnExactSampleGuild )).mono fun e W' ⟨he, hs⟩ => ?_
  subst he
  have hb := hs.below
  have hlt := fun x (hx : x ∈ _) => hW'.lt x hx
  exact ⟨_, rfl, law_end (pa := []) (by simp) hW' rfl (fun _ _ _ => trodAll_cons_mk (shut_bool Try.underlying4 _) trodAll_mk0)
    trodAll_mk0 rfl hb⟩

theorem over : Rows.fnExactSampleGuildRow.holds Try.pinned (OpenSpec.ofChange Rows.fnExactSampleGuildSpec) :=
  OpenClaim.holds_of_wide 4 Try.f4 rfl rfl rfl rfl rfl rfl rfl ⟨rfl, rfl, rfl, rfl, rfl⟩ rfl rfl rfl rfl rfl (by kernel_rfl) Try.func4 (by kernel_rfl)
    (of_decide_eq_true (by kernel_rfl)) (by unfold Func.isWrapper; first | (rw [if_pos (by decide +kernel)]; kernel_rfl) | (rw [if_neg (by decide +kernel)]; exact ⟨rfl, rfl⟩))
    (fun os started H enc _ => lifted os started H enc)

theorem proved : Rows.FnExactSampleGuildSaid :=
  over
#print axioms proved
end Go.Proofs.Ytnfdinafbfggeab.fnExactSampleGuild
