/-
  What the functions compute, as Lean functions.
-/
import Derived.Test.YtfchknndocooaaaCore
import Derived.Test.YtfchknndocooaaaTypes
namespace Go.Proofs.Ytfchknndocooaaa
open Go Go.RowKit

def laws_toAct (a_a : GAct) : GAct :=
  a_a

def spec_l01In (a_x : Int) (a_least : Int) (a_most : Int) : Bool :=
  ((decide (a_x ≥ a_least)) && (decide (a_x ≤ a_most)))

def spec_ActOk (a_a : GAct) : Bool :=
  bif (a_a.Kind == 1) then
    ((spec_l01In a_a.A 1 999) && (a_a.B == 0))
  else
    bif (a_a.Kind == 2) then
      ((spec_l01In a_a.A 1 999) && (spec_l01In a_a.B 0 9))
    else
      bif ((a_a.Kind == 3) || (a_a.Kind == 6)) then
        ((spec_l01In a_a.A 0 9) && (a_a.B == 0))
      else
        bif ((a_a.Kind == 4) || (a_a.Kind == 5)) then
          ((a_a.A == 0) && (a_a.B == 0))
        else
          false

def impl_within (a_n : Int) (a_a : Int) (a_b : Int) : Bool :=
  ((decide (a_n ≥ a_a)) && (decide (a_n ≤ a_b)))

def impl_ActOk (a_a : GAct) : Bool :=
  bif (a_a.Kind == 1) then
    ((impl_within a_a.A 1 999) && (a_a.B == 0))
  else
    bif (a_a.Kind == 2) then
      ((impl_within a_a.A 1 999) && (impl_within a_a.B 0 9))
    else
      bif ((a_a.Kind == 3) || (a_a.Kind == 6)) then
        ((impl_within a_a.A 0 9) && (a_a.B == 0))
      else
        (bif (a_a.Kind == 4) then ((a_a.A == 0) && (a_a.B == 0)) else ((a_a.Kind == 5) && ((a_a.A == 0) && (a_a.B == 0))))

def laws_FnExactActOk (a_aA : GAct) : Bool :=
  bif (!((impl_ActOk (laws_toAct a_aA)) == (spec_ActOk (laws_toAct a_aA)))) then
    false
  else
    true

end Go.Proofs.Ytfchknndocooaaa
