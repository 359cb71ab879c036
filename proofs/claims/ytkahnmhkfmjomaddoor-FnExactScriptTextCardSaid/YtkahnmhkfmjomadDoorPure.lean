/-
  What the functions compute, as Lean functions.
-/
import Derived.Test.YtkahnmhkfmjomadDoorTypes
import Derived.Lib.ItoaNum
import Derived.Lib.Join
namespace Go.Proofs.YtkahnmhkfmjomadDoor
open Go Go.RowKit

def laws_szActS (a_a : List GAct) (a_left : Int) : Option Int :=
  bif (decide ((wr (a_left - ((a_a.length : Nat) : Int))) < 0)) then
    some (-1)
  else
    some (wr (a_left - ((a_a.length : Nat) : Int)))

def laws_toAct (a_a : GAct) : Option GAct :=
  some a_a

def laws_toActS_L1 (a_a : List GAct) (k1 : Nat) (s1 : List GAct) : Option (Res (List GAct) Empty) :=
  (laws_toAct (gx a_a k1)).bind fun v1 =>
  gd (k1 < s1.length) <|
  some (.next (s1.set k1 v1))

def laws_toActS (a_a : List GAct) : Option (List GAct) :=
  gd (a_a.length ≤ 1099511627776) <|
  gd (a_a.length ≤ 4611686018427387904) <|
  (lpO (laws_toActS_L1 a_a) a_a.length (List.replicate a_a.length ((GAct.mk 0 0 0) : GAct))).bind fun e1 =>
  some e1

def spec_l01In (a_x : Int) (a_least : Int) (a_most : Int) : Option Bool :=
  some ((decide (a_x ≥ a_least)) && (decide (a_x ≤ a_most)))

def spec_ActOk (a_a : GAct) : Option Bool :=
  bif (a_a.Kind == 1) then
    (
      (spec_l01In a_a.A 1 999).bind fun v1 =>
      bif v1 then
        some (a_a.B == 0)
      else
        some false).bind fun j1 =>
    some j1
  else
    bif (a_a.Kind == 2) then
      (
        (spec_l01In a_a.A 1 999).bind fun v2 =>
        bif v2 then
          (spec_l01In a_a.B 0 9).bind fun v3 =>
          some v3
        else
          some false).bind fun j2 =>
      some j2
    else
      bif ((a_a.Kind == 3) || (a_a.Kind == 6)) then
        (
          (spec_l01In a_a.A 0 9).bind fun v4 =>
          bif v4 then
            some (a_a.B == 0)
          else
            some false).bind fun j4 =>
        some j4
      else
        bif ((a_a.Kind == 4) || (a_a.Kind == 5)) then
          some ((a_a.A == 0) && (a_a.B == 0))
        else
          some false

def spec_l01Figure (a_x : Int) : Option UInt8 :=
  bif (decide (a_x < 10)) then
    some (u8of (wr (48 + a_x)))
  else
    some (u8of (wr ((wr (97 + a_x)) - 10)))

def spec_FormatInt_L1 (s1 : Int × Str) : Option (Res (Int × Str) Empty) :=
  bif (s1.1 != 0) then
    (spec_l01Figure (bif (decide ((s1.1.tmod 10) < 0)) then (wr (0 - (s1.1.tmod 10))) else (s1.1.tmod 10))).bind fun v1 =>
    gd ((⟨([v1] : List UInt8)⟩ : Str).b.length + s1.2.b.length ≤ 1099511627776) <|
    some (.next ((wr (s1.1.tdiv 10)), (sadd (⟨([v1] : List UInt8)⟩ : Str) s1.2)))
  else
    some (.brk (s1.1, s1.2))

def spec_FormatInt (a_n : Int) : Option Str :=
  bif (a_n == 0) then
    some (⟨[48]⟩ : Str)
  else
    (wlO spec_FormatInt_L1 18446744073709551616 (a_n, (⟨[]⟩ : Str))).bind fun e1 =>
    bif (decide (a_n < 0)) then
      gd ((⟨[45]⟩ : Str).b.length + e1.2.b.length ≤ 1099511627776) <|
      some (sadd (⟨[45]⟩ : Str) e1.2)
    else
      some e1.2

def spec_FormatAct_L1 (a_a : GAct) (k1 : Nat) (s1 : Str) : Option (Res Str Empty) :=
  gd (s1.b.length + (⟨[32]⟩ : Str).b.length ≤ 1099511627776) <|
  gd (k1 < ([a_a.A, a_a.B] : List Int).length) <|
  (spec_FormatInt (gx ([a_a.A, a_a.B] : List Int) k1)).bind fun v2 =>
  gd ((sadd s1 (⟨[32]⟩ : Str)).b.length + v2.b.length ≤ 1099511627776) <|
  some (.next (sadd (sadd s1 (⟨[32]⟩ : Str)) v2))

def spec_FormatAct (a_a : GAct) : Option (Str × Bool) :=
  (spec_ActOk a_a).bind fun v1 =>
  bif (!v1) then
    some ((⟨[]⟩ : Str), false)
  else
    gd (0 ≤ a_a.Kind ∧ a_a.Kind < ((([(⟨[]⟩ : Str), (⟨[97, 100, 109, 105, 116]⟩ : Str), (⟨[115, 117, 98, 109, 105, 116]⟩ : Str), (⟨[115, 101, 119]⟩ : Str), (⟨[114, 111, 117, 110, 100]⟩ : Str), (⟨[121, 101, 97, 114]⟩ : Str), (⟨[108, 97, 99, 107]⟩ : Str)] : List Str).length : Nat) : Int)) <|
    gd (0 ≤ a_a.Kind ∧ a_a.Kind < ((([0, 1, 2, 1, 0, 0, 1] : List Int).length : Nat) : Int)) <|
    gd (((gx ([0, 1, 2, 1, 0, 0, 1] : List Int) ((a_a.Kind).toNat))).toNat ≤ 4611686018427387904) <|
    (lpO (spec_FormatAct_L1 a_a) (((gx ([0, 1, 2, 1, 0, 0, 1] : List Int) ((a_a.Kind).toNat))).toNat) (gx ([(⟨[]⟩ : Str), (⟨[97, 100, 109, 105, 116]⟩ : Str), (⟨[115, 117, 98, 109, 105, 116]⟩ : Str), (⟨[115, 101, 119]⟩ : Str), (⟨[114, 111, 117, 110, 100]⟩ : Str), (⟨[121, 101, 97, 114]⟩ : Str), (⟨[108, 97, 99, 107]⟩ : Str)] : List Str) ((a_a.Kind).toNat))).bind fun e1 =>
    some (e1, true)

def spec_ScriptText_L1 (a_acts : List GAct) (k1 : Nat) (s1 : List UInt8) : Option (Res (List UInt8) (Str × Bool)) :=
  (spec_FormatAct (gx a_acts k1)).bind fun v1 =>
  bif ((!v1.2) || (decide (((a_acts.length : Nat) : Int) > 40))) then
    some (.ret ((⟨[]⟩ : Str), false))
  else
    gd (v1.1.b.length + (⟨[10]⟩ : Str).b.length ≤ 1099511627776) <|
    gd (s1.length + (sadd v1.1 (⟨[10]⟩ : Str)).b.length ≤ 1099511627776) <|
    some (.next (s1 ++ (sadd v1.1 (⟨[10]⟩ : Str)).b))

def spec_ScriptText (a_acts : List GAct) : Option (Str × Bool) :=
  gd (a_acts.length ≤ 4611686018427387904) <|
  sq (forO (spec_ScriptText_L1 a_acts) a_acts.length 0 ([] : List UInt8)) fun e1 =>
  some ((⟨e1⟩ : Str), true)

def impl_within (a_n : Int) (a_a : Int) (a_b : Int) : Option Bool :=
  some ((decide (a_n ≥ a_a)) && (decide (a_n ≤ a_b)))

def impl_ActOk (a_a : GAct) : Option Bool :=
  bif (a_a.Kind == 1) then
    (
      (impl_within a_a.A 1 999).bind fun v1 =>
      bif v1 then
        some (a_a.B == 0)
      else
        some false).bind fun j1 =>
    some j1
  else
    bif (a_a.Kind == 2) then
      (
        (impl_within a_a.A 1 999).bind fun v2 =>
        bif v2 then
          (impl_within a_a.B 0 9).bind fun v3 =>
          some v3
        else
          some false).bind fun j2 =>
      some j2
    else
      bif ((a_a.Kind == 3) || (a_a.Kind == 6)) then
        (
          (impl_within a_a.A 0 9).bind fun v4 =>
          bif v4 then
            some (a_a.B == 0)
          else
            some false).bind fun j4 =>
        some j4
      else
        some (bif (a_a.Kind == 4) then ((a_a.A == 0) && (a_a.B == 0)) else ((a_a.Kind == 5) && ((a_a.A == 0) && (a_a.B == 0))))

def strconv_Itoa (a_i : Int) : Option Str :=
  gd (0 ≤ a_i ∧ a_i < 10) <|
  some (⟨[UInt8.ofNat (48 + a_i.toNat)]⟩ : Str)

def strconv_Itoa_b (a_i : Int) : Option Str :=
  gd (-9223372036854775808 ≤ a_i ∧ a_i ≤ 9223372036854775807) <|
  some (⟨Lib.itoa a_i⟩ : Str)

def impl_FormatInt (a_n : Int) : Option Str :=
  (strconv_Itoa a_n).bind fun v1 =>
  some v1

def impl_FormatInt_b (a_n : Int) : Option Str :=
  (strconv_Itoa_b a_n).bind fun v1 =>
  some v1

def strings_Join (a_elems : List Str) (a_sep : Str) : Option Str :=
  gd (a_elems.length ≤ 140737488355328 ∧ (Lib.join (a_elems.map Str.b) a_sep.b).length ≤ 140737488355328) <|
  some (⟨Lib.join (a_elems.map Str.b) a_sep.b⟩ : Str)

def impl_lineOf_L1 (a_list : List Int) (k1 : Nat) (s1 : List Str) : Option (Res (List Str) Empty) :=
  (impl_FormatInt_b (gx a_list k1)).bind fun v1 =>
  gd (s1.length + 1 ≤ 1099511627776) <|
  some (.next (s1 ++ [v1]))

def impl_lineOf (a_word : Str) (a_list : List Int) : Option Str :=
  gd (a_list.length ≤ 4611686018427387904) <|
  (lpO (impl_lineOf_L1 a_list) a_list.length ([a_word] : List Str)).bind fun e1 =>
  (strings_Join e1 (⟨[32]⟩ : Str)).bind fun v2 =>
  some v2

def impl_FormatAct (a_a : GAct) : Option (Str × Bool) :=
  (impl_ActOk a_a).bind fun v1 =>
  bif (!v1) then
    some ((⟨[]⟩ : Str), false)
  else
    bif (a_a.Kind == 1) then
      (impl_lineOf (⟨[97, 100, 109, 105, 116]⟩ : Str) ([a_a.A] : List Int)).bind fun v2 =>
      some (v2, true)
    else
      bif (a_a.Kind == 2) then
        (impl_lineOf (⟨[115, 117, 98, 109, 105, 116]⟩ : Str) ([a_a.A, a_a.B] : List Int)).bind fun v3 =>
        some (v3, true)
      else
        bif (a_a.Kind == 3) then
          (impl_lineOf (⟨[115, 101, 119]⟩ : Str) ([a_a.A] : List Int)).bind fun v4 =>
          some (v4, true)
        else
          bif (a_a.Kind == 6) then
            (impl_lineOf (⟨[108, 97, 99, 107]⟩ : Str) ([a_a.A] : List Int)).bind fun v5 =>
            some (v5, true)
          else
            bif (a_a.Kind == 4) then
              some ((⟨[114, 111, 117, 110, 100]⟩ : Str), true)
            else
              some ((⟨[121, 101, 97, 114]⟩ : Str), true)

def impl_ScriptText_L1 (a_acts : List GAct) (k1 : Nat) (s1 : Str) : Option (Res Str (Str × Bool)) :=
  (impl_FormatAct (gx a_acts k1)).bind fun v1 =>
  bif (!v1.2) then
    some (.ret ((⟨[]⟩ : Str), false))
  else
    gd (v1.1.b.length + (⟨[10]⟩ : Str).b.length ≤ 1099511627776) <|
    gd (s1.b.length + (sadd v1.1 (⟨[10]⟩ : Str)).b.length ≤ 1099511627776) <|
    some (.next (sadd s1 (sadd v1.1 (⟨[10]⟩ : Str))))

def impl_ScriptText (a_acts : List GAct) : Option (Str × Bool) :=
  bif (decide (((a_acts.length : Nat) : Int) > 40)) then
    some ((⟨[]⟩ : Str), false)
  else
    gd (a_acts.length ≤ 4611686018427387904) <|
    sq (forO (impl_ScriptText_L1 a_acts) a_acts.length 0 (⟨[]⟩ : Str)) fun e1 =>
    some (e1, true)

def laws_eqAct (a_a : GAct) (a_b : GAct) : Option Bool :=
  bif (a_a.Kind != a_b.Kind) then
    some false
  else
    bif (a_a.A != a_b.A) then
      some false
    else
      bif (a_a.B != a_b.B) then
        some false
      else
        some true

def laws_eqActS_L1 (a_a : List GAct) (a_b : List GAct) (k1 : Nat) (_ : Unit) : Option (Res Unit Bool) :=
  gd (k1 < a_b.length) <|
  (laws_eqAct (gx a_a k1) (gx a_b k1)).bind fun v1 =>
  bif (!v1) then
    some (.ret false)
  else
    some (.next ())

def laws_eqActS (a_a : List GAct) (a_b : List GAct) : Option Bool :=
  bif (((a_a.length : Nat) : Int) != ((a_b.length : Nat) : Int)) then
    some false
  else
    gd (a_a.length ≤ 4611686018427387904) <|
    sq (forO (laws_eqActS_L1 a_a a_b) a_a.length 0 ()) fun _ =>
    some true

def laws_FnExactScriptText (a_aActs : List GAct) : Option Bool :=
  (laws_szActS a_aActs 1048576).bind fun v1 =>
  bif (decide (v1 < 0)) then
    some true
  else
    (laws_toActS a_aActs).bind fun v2 =>
    (spec_ScriptText v2).bind fun v3 =>
    (laws_toActS a_aActs).bind fun v4 =>
    (impl_ScriptText v4).bind fun v5 =>
    bif ((!(seq v5.1 v3.1)) || (!(v5.2 == v3.2))) then
      some false
    else
      (laws_toActS a_aActs).bind fun v6 =>
      (laws_eqActS v4 v6).bind fun v7 =>
      bif (!v7) then
        some false
      else
        some true

end Go.Proofs.YtkahnmhkfmjomadDoor
