/-
  The reference's ActOk and the program's ActOk are the same function.
-/
import Derived.Test.YtfchknndocooaaaPure
namespace Go.Proofs.Ytfchknndocooaaa
open Go

theorem actOk_eq (a : GAct) : impl_ActOk a = spec_ActOk a := by
  unfold impl_ActOk spec_ActOk impl_within spec_l01In
  cases a.Kind == 1 <;> cases a.Kind == 2 <;> cases (a.Kind == 3 || a.Kind == 6) <;> cases a.Kind == 4 <;> cases a.Kind == 5 <;> simp

theorem p_FnExactActOk (a : GAct) (_ : Fit.ok a) : laws_FnExactActOk a = true := by
  unfold laws_FnExactActOk
  rw [actOk_eq]
  simp
end Go.Proofs.Ytfchknndocooaaa
