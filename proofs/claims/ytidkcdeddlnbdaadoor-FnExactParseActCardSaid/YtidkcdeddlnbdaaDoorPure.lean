/-
  What the functions compute, as Lean functions.
-/
import Derived.Test.YtidkcdeddlnbdaaDoorTypes
import Derived.Lib.ItoaNum
import Derived.Lib.Join
import Derived.Lib.Atoi
namespace Go.Proofs.YtidkcdeddlnbdaaDoor
open Go Go.RowKit

def spec_SplitFields_L1 (a_line : Str) (k1 : Nat) (s1 : (List Str) × Int) : Option (Res ((List Str) × Int) ((List Str) × Bool)) :=
  (
    bif (decide (((k1 : Nat) : Int) < ((a_line.b.length : Nat) : Int))) then
      gd (k1 < a_line.b.length) <|
      bif (decide ((((sat_ a_line k1)).toNat : Int) < 32)) then
        some true
      else
        some (decide ((((sat_ a_line k1)).toNat : Int) > 126))
    else
      some false).bind fun j1 =>
  bif j1 then
    some (.ret (([] : List Str), false))
  else
    (
      bif (decide (((k1 : Nat) : Int) < ((a_line.b.length : Nat) : Int))) then
        gd (k1 < a_line.b.length) <|
        some ((((sat_ a_line k1)).toNat : Int) != 32)
      else
        some false).bind fun j2 =>
    bif j2 then
      some (.next (s1.1, s1.2))
    else
      (
        bif (decide (s1.2 < ((k1 : Nat) : Int))) then
          gd (0 ≤ s1.2 ∧ (s1.2).toNat ≤ k1 ∧ k1 ≤ a_line.b.length) <|
          gd (s1.1.length + 1 ≤ 1099511627776) <|
          some (s1.1 ++ [(ssub a_line ((s1.2).toNat) k1)])
        else
          some s1.1).bind fun j3 =>
      some (.next (j3, ((k1 + 1 : Nat) : Int)))

def spec_SplitFields (a_line : Str) : Option ((List Str) × Bool) :=
  bif (decide (((a_line.b.length : Nat) : Int) > 600)) then
    some (([] : List Str), false)
  else
    gd ((a_line.b.length + 1) ≤ 4611686018427387904) <|
    sq (forO (spec_SplitFields_L1 a_line) (a_line.b.length + 1) 0 (([] : List Str), 0)) fun e1 =>
    bif (decide (((e1.1.length : Nat) : Int) > 24)) then
      some (([] : List Str), false)
    else
      some (e1.1, true)

def spec_l01In (a_x : Int) (a_least : Int) (a_most : Int) : Option Bool :=
  some ((decide (a_x ≥ a_least)) && (decide (a_x ≤ a_most)))

def spec_l01Figure (a_x : Int) : Option UInt8 :=
  bif (decide (a_x < 10)) then
    some (u8of (wr (48 + a_x)))
  else
    some (u8of (wr ((wr (97 + a_x)) - 10)))

def spec_FormatInt_L1 (s1 : Int × Str) : Option (Res (Int × Str) Empty) :=
  bif (s1.1 != 0) then
    (spec_l01Figure (bif (decide ((s1.1.tmod 10) < 0)) then (wr (0 - (s1.1.tmod 10))) else (s1.1.tmod 10))).bind fun v1 =>
    gd ((⟨([v1] : List UInt8)⟩ : Str).b.length + s1.2.b.length ≤ 1099511627776) <|
    some (.next ((wr (s1.1.tdiv 10)), (sadd (⟨([v1] : List UInt8)⟩ : Str) s1.2)))
  else
    some (.brk (s1.1, s1.2))

def spec_FormatInt (a_n : Int) : Option Str :=
  bif (a_n == 0) then
    some (⟨[48]⟩ : Str)
  else
    (wlO spec_FormatInt_L1 18446744073709551616 (a_n, (⟨[]⟩ : Str))).bind fun e1 =>
    bif (decide (a_n < 0)) then
      gd ((⟨[45]⟩ : Str).b.length + e1.2.b.length ≤ 1099511627776) <|
      some (sadd (⟨[45]⟩ : Str) e1.2)
    else
      some e1.2

def spec_ParseUint_L1 (a_text : Str) (k1 : Nat) (s1 : Int) : Option (Res Int (Int × Bool)) :=
  bif ((decide ((((sat_ a_text k1)).toNat : Int) < 48)) || (decide ((((sat_ a_text k1)).toNat : Int) > 57))) then
    some (.ret (0, false))
  else
    some (.next (wr ((wr ((wr (10 * s1)) + (((sat_ a_text k1)).toNat : Int))) - 48)))

def spec_ParseUint (a_text : Str) : Option (Int × Bool) :=
  bif (decide (((a_text.b.length : Nat) : Int) > 10)) then
    some (0, false)
  else
    gd (a_text.b.length ≤ 4611686018427387904) <|
    sq (forO (spec_ParseUint_L1 a_text) a_text.b.length 0 0) fun e1 =>
    (
      bif (decide (e1 > 1000000000)) then
        some true
      else
        (spec_FormatInt e1).bind fun v1 =>
        some (!(seq v1 a_text))).bind fun j2 =>
    bif j2 then
      some (0, false)
    else
      some (e1, true)

def spec_l40Number (a_s : Str) : Option Int :=
  (
    bif (decide (((a_s.b.length : Nat) : Int) > 1)) then
      gd (0 < a_s.b.length) <|
      some ((((sat_ a_s 0)).toNat : Int) == 45)
    else
      some false).bind fun j1 =>
  bif j1 then
    gd (1 ≤ a_s.b.length ∧ a_s.b.length ≤ a_s.b.length) <|
    (spec_ParseUint (ssub a_s 1 a_s.b.length)).bind fun v1 =>
    some (wr (0 - v1.1))
  else
    (spec_ParseUint a_s).bind fun v2 =>
    some v2.1

def spec_ActOk (a_a : GAct) : Option Bool :=
  bif (a_a.Kind == 1) then
    (
      (spec_l01In a_a.A 1 999).bind fun v1 =>
      bif v1 then
        some (a_a.B == 0)
      else
        some false).bind fun j1 =>
    some j1
  else
    bif (a_a.Kind == 2) then
      (
        (spec_l01In a_a.A 1 999).bind fun v2 =>
        bif v2 then
          (spec_l01In a_a.B 0 9).bind fun v3 =>
          some v3
        else
          some false).bind fun j2 =>
      some j2
    else
      bif ((a_a.Kind == 3) || (a_a.Kind == 6)) then
        (
          (spec_l01In a_a.A 0 9).bind fun v4 =>
          bif v4 then
            some (a_a.B == 0)
          else
            some false).bind fun j4 =>
        some j4
      else
        bif ((a_a.Kind == 4) || (a_a.Kind == 5)) then
          some ((a_a.A == 0) && (a_a.B == 0))
        else
          some false

def spec_FormatAct_L1 (a_a : GAct) (k1 : Nat) (s1 : Str) : Option (Res Str Empty) :=
  gd (s1.b.length + (⟨[32]⟩ : Str).b.length ≤ 1099511627776) <|
  gd (k1 < ([a_a.A, a_a.B] : List Int).length) <|
  (spec_FormatInt (gx ([a_a.A, a_a.B] : List Int) k1)).bind fun v2 =>
  gd ((sadd s1 (⟨[32]⟩ : Str)).b.length + v2.b.length ≤ 1099511627776) <|
  some (.next (sadd (sadd s1 (⟨[32]⟩ : Str)) v2))

def spec_FormatAct (a_a : GAct) : Option (Str × Bool) :=
  (spec_ActOk a_a).bind fun v1 =>
  bif (!v1) then
    some ((⟨[]⟩ : Str), false)
  else
    gd (0 ≤ a_a.Kind ∧ a_a.Kind < ((([(⟨[]⟩ : Str), (⟨[97, 100, 109, 105, 116]⟩ : Str), (⟨[115, 117, 98, 109, 105, 116]⟩ : Str), (⟨[115, 101, 119]⟩ : Str), (⟨[114, 111, 117, 110, 100]⟩ : Str), (⟨[121, 101, 97, 114]⟩ : Str), (⟨[108, 97, 99, 107]⟩ : Str)] : List Str).length : Nat) : Int)) <|
    gd (0 ≤ a_a.Kind ∧ a_a.Kind < ((([0, 1, 2, 1, 0, 0, 1] : List Int).length : Nat) : Int)) <|
    gd (((gx ([0, 1, 2, 1, 0, 0, 1] : List Int) ((a_a.Kind).toNat))).toNat ≤ 4611686018427387904) <|
    (lpO (spec_FormatAct_L1 a_a) (((gx ([0, 1, 2, 1, 0, 0, 1] : List Int) ((a_a.Kind).toNat))).toNat) (gx ([(⟨[]⟩ : Str), (⟨[97, 100, 109, 105, 116]⟩ : Str), (⟨[115, 117, 98, 109, 105, 116]⟩ : Str), (⟨[115, 101, 119]⟩ : Str), (⟨[114, 111, 117, 110, 100]⟩ : Str), (⟨[121, 101, 97, 114]⟩ : Str), (⟨[108, 97, 99, 107]⟩ : Str)] : List Str) ((a_a.Kind).toNat))).bind fun e1 =>
    some (e1, true)

def spec_ParseAct_L1 (v1 : (List Str) × Bool) (k1 : Nat) (s1 : Str × (List Int)) : Option (Res (Str × (List Int)) Empty) :=
  gd (s1.1.b.length + (⟨[32]⟩ : Str).b.length ≤ 1099511627776) <|
  gd ((k1 + 1) < v1.1.length) <|
  gd ((sadd s1.1 (⟨[32]⟩ : Str)).b.length + (gx v1.1 (k1 + 1)).b.length ≤ 1099511627776) <|
  (spec_l40Number (gx v1.1 (k1 + 1))).bind fun v3 =>
  gd (s1.2.length + 1 ≤ 1099511627776) <|
  some (.next ((sadd (sadd s1.1 (⟨[32]⟩ : Str)) (gx v1.1 (k1 + 1))), (s1.2 ++ [v3])))

def spec_ParseAct_L2 (e1 : Str × (List Int)) (k2 : Nat) (_ : Unit) : Option (Res Unit (GAct × Bool)) :=
  gd (0 < (e1.2 ++ [0, 0]).length) <|
  gd (1 < (e1.2 ++ [0, 0]).length) <|
  (spec_FormatAct (GAct.mk (((k2 + 1) : Nat) : Int) (gx (e1.2 ++ [0, 0]) 0) (gx (e1.2 ++ [0, 0]) 1))).bind fun v4 =>
  bif (v4.2 && (seq v4.1 e1.1)) then
    some (.ret ((GAct.mk (((k2 + 1) : Nat) : Int) (gx (e1.2 ++ [0, 0]) 0) (gx (e1.2 ++ [0, 0]) 1)), true))
  else
    some (.next ())

def spec_ParseAct (a_line : Str) : Option (GAct × Bool) :=
  (spec_SplitFields a_line).bind fun v1 =>
  (
    bif (!v1.2) then
      some true
    else
      (spec_l01In ((v1.1.length : Nat) : Int) 1 3).bind fun v2 =>
      some (!v2)).bind fun j1 =>
  bif j1 then
    some ((GAct.mk 0 0 0), false)
  else
    gd (0 < v1.1.length) <|
    gd ((v1.1.length - 1) ≤ 4611686018427387904) <|
    (lpO (spec_ParseAct_L1 v1) (v1.1.length - 1) ((gx v1.1 0), ([] : List Int))).bind fun e1 =>
    gd (e1.2.length + 2 ≤ 1099511627776) <|
    sq (forO (spec_ParseAct_L2 e1) 6 0 ()) fun _ =>
    some ((GAct.mk 0 0 0), false)

def impl_SplitFields_L1 (a_line : Str) (k1 : Nat) (s1 : (List Str) × Int) : Option (Res ((List Str) × Int) ((List Str) × Bool)) :=
  bif ((decide ((((sat_ a_line k1)).toNat : Int) < 32)) || (decide ((((sat_ a_line k1)).toNat : Int) > 126))) then
    some (.ret (([] : List Str), false))
  else
    (
      bif ((((sat_ a_line k1)).toNat : Int) == 32) then
        (
          bif (decide (s1.2 ≥ 0)) then
            gd (0 ≤ s1.2 ∧ (s1.2).toNat ≤ k1 ∧ k1 ≤ a_line.b.length) <|
            gd (s1.1.length + 1 ≤ 1099511627776) <|
            some (s1.1 ++ [(ssub a_line ((s1.2).toNat) k1)])
          else
            some s1.1).bind fun j3 =>
        some (j3, (-1))
      else
        bif (decide (s1.2 < 0)) then
          some (s1.1, ((k1 : Nat) : Int))
        else
          some (s1.1, s1.2)).bind fun j2 =>
    some (.next (j2.1, j2.2))

def impl_SplitFields (a_line : Str) : Option ((List Str) × Bool) :=
  bif (decide (((a_line.b.length : Nat) : Int) > 600)) then
    some (([] : List Str), false)
  else
    gd (a_line.b.length ≤ 4611686018427387904) <|
    sq (forO (impl_SplitFields_L1 a_line) a_line.b.length 0 (([] : List Str), (-1))) fun e1 =>
    (
      bif (decide (e1.2 ≥ 0)) then
        gd (0 ≤ e1.2 ∧ (e1.2).toNat ≤ a_line.b.length ∧ a_line.b.length ≤ a_line.b.length) <|
        gd (e1.1.length + 1 ≤ 1099511627776) <|
        some (e1.1 ++ [(ssub a_line ((e1.2).toNat) a_line.b.length)])
      else
        some e1.1).bind fun j4 =>
    bif (decide (((j4.length : Nat) : Int) > 24)) then
      some (([] : List Str), false)
    else
      some (j4, true)

def impl_within (a_n : Int) (a_a : Int) (a_b : Int) : Option Bool :=
  some ((decide (a_n ≥ a_a)) && (decide (a_n ≤ a_b)))

def strconv_Atoi (a_s : Str) : Option (Int × Bool) :=
  gd (a_s.b.length ≤ 18) <|
  some (match Lib.atoi a_s.b with
    | some n => (n, false)
    | none => (0, true))

def strconv_Itoa (a_i : Int) : Option Str :=
  gd (0 ≤ a_i ∧ a_i < 10) <|
  some (⟨[UInt8.ofNat (48 + a_i.toNat)]⟩ : Str)

def strconv_Itoa_b (a_i : Int) : Option Str :=
  gd (-9223372036854775808 ≤ a_i ∧ a_i ≤ 9223372036854775807) <|
  some (⟨Lib.itoa a_i⟩ : Str)

def impl_FormatInt (a_n : Int) : Option Str :=
  (strconv_Itoa a_n).bind fun v1 =>
  some v1

def impl_FormatInt_b (a_n : Int) : Option Str :=
  (strconv_Itoa_b a_n).bind fun v1 =>
  some v1

def impl_ParseUint (a_s : Str) : Option (Int × Bool) :=
  bif (decide (((a_s.b.length : Nat) : Int) > 10)) then
    some (0, false)
  else
    (strconv_Atoi a_s).bind fun v1 =>
    (
      bif v1.2 then
        some true
      else
        (impl_within v1.1 0 1000000000).bind fun v2 =>
        bif (!v2) then
          some true
        else
          (impl_FormatInt_b v1.1).bind fun v3 =>
          some (!(seq v3 a_s))).bind fun j1 =>
    bif j1 then
      some (0, false)
    else
      some (v1.1, true)

def impl_ActOk (a_a : GAct) : Option Bool :=
  bif (a_a.Kind == 1) then
    (
      (impl_within a_a.A 1 999).bind fun v1 =>
      bif v1 then
        some (a_a.B == 0)
      else
        some false).bind fun j1 =>
    some j1
  else
    bif (a_a.Kind == 2) then
      (
        (impl_within a_a.A 1 999).bind fun v2 =>
        bif v2 then
          (impl_within a_a.B 0 9).bind fun v3 =>
          some v3
        else
          some false).bind fun j2 =>
      some j2
    else
      bif ((a_a.Kind == 3) || (a_a.Kind == 6)) then
        (
          (impl_within a_a.A 0 9).bind fun v4 =>
          bif v4 then
            some (a_a.B == 0)
          else
            some false).bind fun j4 =>
        some j4
      else
        some (bif (a_a.Kind == 4) then ((a_a.A == 0) && (a_a.B == 0)) else ((a_a.Kind == 5) && ((a_a.A == 0) && (a_a.B == 0))))

def strings_Join (a_elems : List Str) (a_sep : Str) : Option Str :=
  gd (a_elems.length ≤ 140737488355328 ∧ (Lib.join (a_elems.map Str.b) a_sep.b).length ≤ 140737488355328) <|
  some (⟨Lib.join (a_elems.map Str.b) a_sep.b⟩ : Str)

def impl_lineOf_L1 (a_list : List Int) (k1 : Nat) (s1 : List Str) : Option (Res (List Str) Empty) :=
  (impl_FormatInt_b (gx a_list k1)).bind fun v1 =>
  gd (s1.length + 1 ≤ 1099511627776) <|
  some (.next (s1 ++ [v1]))

def impl_lineOf (a_word : Str) (a_list : List Int) : Option Str :=
  gd (a_list.length ≤ 4611686018427387904) <|
  (lpO (impl_lineOf_L1 a_list) a_list.length ([a_word] : List Str)).bind fun e1 =>
  (strings_Join e1 (⟨[32]⟩ : Str)).bind fun v2 =>
  some v2

def impl_FormatAct (a_a : GAct) : Option (Str × Bool) :=
  (impl_ActOk a_a).bind fun v1 =>
  bif (!v1) then
    some ((⟨[]⟩ : Str), false)
  else
    bif (a_a.Kind == 1) then
      (impl_lineOf (⟨[97, 100, 109, 105, 116]⟩ : Str) ([a_a.A] : List Int)).bind fun v2 =>
      some (v2, true)
    else
      bif (a_a.Kind == 2) then
        (impl_lineOf (⟨[115, 117, 98, 109, 105, 116]⟩ : Str) ([a_a.A, a_a.B] : List Int)).bind fun v3 =>
        some (v3, true)
      else
        bif (a_a.Kind == 3) then
          (impl_lineOf (⟨[115, 101, 119]⟩ : Str) ([a_a.A] : List Int)).bind fun v4 =>
          some (v4, true)
        else
          bif (a_a.Kind == 6) then
            (impl_lineOf (⟨[108, 97, 99, 107]⟩ : Str) ([a_a.A] : List Int)).bind fun v5 =>
            some (v5, true)
          else
            bif (a_a.Kind == 4) then
              some ((⟨[114, 111, 117, 110, 100]⟩ : Str), true)
            else
              some ((⟨[121, 101, 97, 114]⟩ : Str), true)

def impl_ParseAct_L1 (v1 : (List Str) × Bool) (k1 : Nat) (s1 : Int) : Option (Res Int Empty) :=
  gd (0 < v1.1.length) <|
  some (.next (bif (seq (gx ([(⟨[]⟩ : Str), (⟨[97, 100, 109, 105, 116]⟩ : Str), (⟨[115, 117, 98, 109, 105, 116]⟩ : Str), (⟨[115, 101, 119]⟩ : Str), (⟨[114, 111, 117, 110, 100]⟩ : Str), (⟨[121, 101, 97, 114]⟩ : Str), (⟨[108, 97, 99, 107]⟩ : Str)] : List Str) k1) (gx v1.1 0)) then ((k1 : Nat) : Int) else s1))

def impl_ParseAct_L2 (v1 : (List Str) × Bool) (k2 : Nat) (s2 : Int × Int × Int) : Option (Res (Int × Int × Int) (GAct × Bool)) :=
  (impl_ParseUint (gx ((v1.1.drop 1).take (v1.1.length - 1)) k2)).bind fun v3 =>
  bif (!v3.2) then
    some (.ret ((GAct.mk 0 0 0), false))
  else
    some (.next ((bif (((k2 : Nat) : Int) == 0) then (GAct.mk s2.1 v3.1 s2.2.2) else (GAct.mk s2.1 s2.2.1 v3.1)).Kind, (bif (((k2 : Nat) : Int) == 0) then (GAct.mk s2.1 v3.1 s2.2.2) else (GAct.mk s2.1 s2.2.1 v3.1)).A, (bif (((k2 : Nat) : Int) == 0) then (GAct.mk s2.1 v3.1 s2.2.2) else (GAct.mk s2.1 s2.2.1 v3.1)).B))

def impl_ParseAct (a_line : Str) : Option (GAct × Bool) :=
  (impl_SplitFields a_line).bind fun v1 =>
  (
    bif (!v1.2) then
      some true
    else
      (impl_within ((v1.1.length : Nat) : Int) 1 3).bind fun v2 =>
      some (!v2)).bind fun j1 =>
  bif j1 then
    some ((GAct.mk 0 0 0), false)
  else
    gd (([(⟨[]⟩ : Str), (⟨[97, 100, 109, 105, 116]⟩ : Str), (⟨[115, 117, 98, 109, 105, 116]⟩ : Str), (⟨[115, 101, 119]⟩ : Str), (⟨[114, 111, 117, 110, 100]⟩ : Str), (⟨[121, 101, 97, 114]⟩ : Str), (⟨[108, 97, 99, 107]⟩ : Str)] : List Str).length ≤ 4611686018427387904) <|
    (lpO (impl_ParseAct_L1 v1) (([(⟨[]⟩ : Str), (⟨[97, 100, 109, 105, 116]⟩ : Str), (⟨[115, 117, 98, 109, 105, 116]⟩ : Str), (⟨[115, 101, 119]⟩ : Str), (⟨[114, 111, 117, 110, 100]⟩ : Str), (⟨[121, 101, 97, 114]⟩ : Str), (⟨[108, 97, 99, 107]⟩ : Str)] : List Str).length) 0).bind fun e1 =>
    gd (1 ≤ v1.1.length ∧ v1.1.length ≤ v1.1.length) <|
    gd (((v1.1.drop 1).take (v1.1.length - 1)).length ≤ 4611686018427387904) <|
    sq (forO (impl_ParseAct_L2 v1) (((v1.1.drop 1).take (v1.1.length - 1)).length) 0 (e1, 0, 0)) fun e2 =>
    (impl_FormatAct (GAct.mk e2.1 e2.2.1 e2.2.2)).bind fun v4 =>
    (
      bif (!v4.2) then
        some true
      else
        (strings_Join v1.1 (⟨[32]⟩ : Str)).bind fun v5 =>
        some (!(seq v4.1 v5))).bind fun j4 =>
    bif j4 then
      some ((GAct.mk 0 0 0), false)
    else
      some ((GAct.mk e2.1 e2.2.1 e2.2.2), true)

def laws_eqAct (a_a : GAct) (a_b : GAct) : Option Bool :=
  bif (a_a.Kind != a_b.Kind) then
    some false
  else
    bif (a_a.A != a_b.A) then
      some false
    else
      bif (a_a.B != a_b.B) then
        some false
      else
        some true

def laws_FnExactParseAct (a_aLine : Str) : Option Bool :=
  bif (decide (((a_aLine.b.length : Nat) : Int) > 1048576)) then
    some true
  else
    (spec_ParseAct a_aLine).bind fun v1 =>
    (impl_ParseAct a_aLine).bind fun v2 =>
    (
      (laws_eqAct v2.1 v1.1).bind fun v3 =>
      bif (!v3) then
        some true
      else
        some (!(v2.2 == v1.2))).bind fun j1 =>
    bif j1 then
      some false
    else
      some true

end Go.Proofs.YtidkcdeddlnbdaaDoor
