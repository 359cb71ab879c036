/-
 What the functions compute, as Lean functions.
-/
import Derived.Test.YtjfjbgihojiijacGreatDoorTypes
import Derived.Lib.ItoaNum
import Derived.Lib.Join
import Derived.Lib.Atoi
import Derived.Lib.SplitLaws
namespace Go.Proofs.YtjfjbgihojiijacGreatDoor
open Go Go.RowKit

def Zbh (a_line : Str) (k1 : Nat) (s1 : (List Str) × Int) : Option (Res ((List Str) × Int) ((List Str) × Bool)) :=
 (
  bif (decide (((k1 : Nat) : Int) < ((a_line.b.length : Nat) : Int))) then
   gd (k1 < a_line.b.length) <|
   bif (decide ((((sat_ a_line k1)).toNat : Int) < 32)) then
    some true
   else
    some (decide ((((sat_ a_line k1)).toNat : Int) > 126))
  else
   some false).bind fun j1 =>
 bif j1 then
  some (.ret (([] : List Str), false))
 else
  (
   bif (decide (((k1 : Nat) : Int) < ((a_line.b.length : Nat) : Int))) then
    gd (k1 < a_line.b.length) <|
    some ((((sat_ a_line k1)).toNat : Int) != 32)
   else
    some false).bind fun j2 =>
  bif j2 then
   some (.next (s1.1, s1.2))
  else
   (
    bif (decide (s1.2 < ((k1 : Nat) : Int))) then
     gd (0 ≤ s1.2 ∧ (s1.2).toNat ≤ k1 ∧ k1 ≤ a_line.b.length) <|
     gd (s1.1.length + 1 ≤ 1099511627776) <|
     some (s1.1 ++ [(ssub a_line ((s1.2).toNat) k1)])
    else
     some s1.1).bind fun j3 =>
   some (.next (j3, ((k1 + 1 : Nat) : Int)))

def ZbV (a_line : Str) : Option ((List Str) × Bool) :=
 bif (decide (((a_line.b.length : Nat) : Int) > 600)) then
  some (([] : List Str), false)
 else
  gd ((a_line.b.length + 1) ≤ 4611686018427387904) <|
  sq (forO (Zbh a_line) (a_line.b.length + 1) 0 (([] : List Str), 0)) fun e1 =>
  bif (decide (((e1.1.length : Nat) : Int) > 24)) then
   some (([] : List Str), false)
  else
   some (e1.1, true)

def ZI (a_x : Int) (a_least : Int) (a_most : Int) : Option Bool :=
 some ((decide (a_x ≥ a_least)) && (decide (a_x ≤ a_most)))

def Ze9 (a_x : Int) : Option UInt8 :=
 bif (decide (a_x < 10)) then
  some (u8of (wr (48 + a_x)))
 else
  some (u8of (wr ((wr (97 + a_x)) - 10)))

def Zal (s1 : Int × Str) : Option (Res (Int × Str) Empty) :=
 bif (s1.1 != 0) then
  (Ze9 (bif (decide ((s1.1.tmod 10) < 0)) then (wr (0 - (s1.1.tmod 10))) else (s1.1.tmod 10))).bind fun v1 =>
  gd ((⟨([v1] : List UInt8)⟩ : Str).b.length + s1.2.b.length ≤ 1099511627776) <|
  some (.next ((wr (s1.1.tdiv 10)), (sadd (⟨([v1] : List UInt8)⟩ : Str) s1.2)))
 else
  some (.brk (s1.1, s1.2))

def ZB (a_n : Int) : Option Str :=
 bif (a_n == 0) then
  some (⟨[48]⟩ : Str)
 else
  (wlO Zal 18446744073709551616 (a_n, (⟨[]⟩ : Str))).bind fun e1 =>
  bif (decide (a_n < 0)) then
   gd ((⟨[45]⟩ : Str).b.length + e1.2.b.length ≤ 1099511627776) <|
   some (sadd (⟨[45]⟩ : Str) e1.2)
  else
   some e1.2

def Zdm (a_text : Str) (k1 : Nat) (s1 : Int) : Option (Res Int (Int × Bool)) :=
 bif ((decide ((((sat_ a_text k1)).toNat : Int) < 48)) || (decide ((((sat_ a_text k1)).toNat : Int) > 57))) then
  some (.ret (0, false))
 else
  some (.next (wr ((wr ((wr (10 * s1)) + (((sat_ a_text k1)).toNat : Int))) - 48)))

def ZbE (a_text : Str) : Option (Int × Bool) :=
 bif (decide (((a_text.b.length : Nat) : Int) > 10)) then
  some (0, false)
 else
  gd (a_text.b.length ≤ 4611686018427387904) <|
  sq (forO (Zdm a_text) a_text.b.length 0 0) fun e1 =>
  (
   bif (decide (e1 > 1000000000)) then
    some true
   else
    (ZB e1).bind fun v1 =>
    some (!(seq v1 a_text))).bind fun j2 =>
  bif j2 then
   some (0, false)
  else
   some (e1, true)

def ZbY (a_s : Str) : Option Int :=
 (
  bif (decide (((a_s.b.length : Nat) : Int) > 1)) then
   gd (0 < a_s.b.length) <|
   some ((((sat_ a_s 0)).toNat : Int) == 45)
  else
   some false).bind fun j1 =>
 bif j1 then
  gd (1 ≤ a_s.b.length ∧ a_s.b.length ≤ a_s.b.length) <|
  (ZbE (ssub a_s 1 a_s.b.length)).bind fun v1 =>
  some (wr (0 - v1.1))
 else
  (ZbE a_s).bind fun v2 =>
  some v2.1

def Zhk (a_a : GAct) : Option Bool :=
 bif (a_a.Kind == 1) then
  (
   (ZI a_a.A 1 999).bind fun v1 =>
   bif v1 then
    some (a_a.B == 0)
   else
    some false).bind fun j1 =>
  some j1
 else
  bif (a_a.Kind == 2) then
   (
    (ZI a_a.A 1 999).bind fun v2 =>
    bif v2 then
     (ZI a_a.B 0 9).bind fun v3 =>
     some v3
    else
     some false).bind fun j2 =>
   some j2
  else
   bif ((a_a.Kind == 3) || (a_a.Kind == 6)) then
    (
     (ZI a_a.A 0 9).bind fun v4 =>
     bif v4 then
      some (a_a.B == 0)
     else
      some false).bind fun j4 =>
    some j4
   else
    bif ((a_a.Kind == 4) || (a_a.Kind == 5)) then
     some ((a_a.A == 0) && (a_a.B == 0))
    else
     some false

def ZeL (a_a : GAct) (k1 : Nat) (s1 : Str) : Option (Res Str Empty) :=
 gd (s1.b.length + (⟨[32]⟩ : Str).b.length ≤ 1099511627776) <|
 gd (k1 < ([a_a.A, a_a.B] : List Int).length) <|
 (ZB (gx ([a_a.A, a_a.B] : List Int) k1)).bind fun v2 =>
 gd ((sadd s1 (⟨[32]⟩ : Str)).b.length + v2.b.length ≤ 1099511627776) <|
 some (.next (sadd (sadd s1 (⟨[32]⟩ : Str)) v2))

def Ze0 (a_a : GAct) : Option (Str × Bool) :=
 (Zhk a_a).bind fun v1 =>
 bif (!v1) then
  some ((⟨[]⟩ : Str), false)
 else
  gd (0 ≤ a_a.Kind ∧ a_a.Kind < ((([(⟨[]⟩ : Str), (⟨[97, 100, 109, 105, 116]⟩ : Str), (⟨[115, 117, 98, 109, 105, 116]⟩ : Str), (⟨[115, 101, 119]⟩ : Str), (⟨[114, 111, 117, 110, 100]⟩ : Str), (⟨[121, 101, 97, 114]⟩ : Str), (⟨[108, 97, 99, 107]⟩ : Str)] : List Str).length : Nat) : Int)) <|
  gd (0 ≤ a_a.Kind ∧ a_a.Kind < ((([0, 1, 2, 1, 0, 0, 1] : List Int).length : Nat) : Int)) <|
  gd (((gx ([0, 1, 2, 1, 0, 0, 1] : List Int) ((a_a.Kind).toNat))).toNat ≤ 4611686018427387904) <|
  (lpO (ZeL a_a) (((gx ([0, 1, 2, 1, 0, 0, 1] : List Int) ((a_a.Kind).toNat))).toNat) (gx ([(⟨[]⟩ : Str), (⟨[97, 100, 109, 105, 116]⟩ : Str), (⟨[115, 117, 98, 109, 105, 116]⟩ : Str), (⟨[115, 101, 119]⟩ : Str), (⟨[114, 111, 117, 110, 100]⟩ : Str), (⟨[121, 101, 97, 114]⟩ : Str), (⟨[108, 97, 99, 107]⟩ : Str)] : List Str) ((a_a.Kind).toNat))).bind fun e1 =>
  some (e1, true)

def ZdW (v1 : (List Str) × Bool) (k1 : Nat) (s1 : Str × (List Int)) : Option (Res (Str × (List Int)) Empty) :=
 gd (s1.1.b.length + (⟨[32]⟩ : Str).b.length ≤ 1099511627776) <|
 gd ((k1 + 1) < v1.1.length) <|
 gd ((sadd s1.1 (⟨[32]⟩ : Str)).b.length + (gx v1.1 (k1 + 1)).b.length ≤ 1099511627776) <|
 (ZbY (gx v1.1 (k1 + 1))).bind fun v3 =>
 gd (s1.2.length + 1 ≤ 1099511627776) <|
 some (.next ((sadd (sadd s1.1 (⟨[32]⟩ : Str)) (gx v1.1 (k1 + 1))), (s1.2 ++ [v3])))

def Zfi (e1 : Str × (List Int)) (k2 : Nat) (_ : Unit) : Option (Res Unit (GAct × Bool)) :=
 gd (0 < (e1.2 ++ [0, 0]).length) <|
 gd (1 < (e1.2 ++ [0, 0]).length) <|
 (Ze0 (GAct.mk (((k2 + 1) : Nat) : Int) (gx (e1.2 ++ [0, 0]) 0) (gx (e1.2 ++ [0, 0]) 1))).bind fun v4 =>
 bif (v4.2 && (seq v4.1 e1.1)) then
  some (.ret ((GAct.mk (((k2 + 1) : Nat) : Int) (gx (e1.2 ++ [0, 0]) 0) (gx (e1.2 ++ [0, 0]) 1)), true))
 else
  some (.next ())

def Zbw (a_line : Str) : Option (GAct × Bool) :=
 (ZbV a_line).bind fun v1 =>
 (
  bif (!v1.2) then
   some true
  else
   (ZI ((v1.1.length : Nat) : Int) 1 3).bind fun v2 =>
   some (!v2)).bind fun j1 =>
 bif j1 then
  some ((GAct.mk 0 0 0), false)
 else
  gd (0 < v1.1.length) <|
  gd ((v1.1.length - 1) ≤ 4611686018427387904) <|
  (lpO (ZdW v1) (v1.1.length - 1) ((gx v1.1 0), ([] : List Int))).bind fun e1 =>
  gd (e1.2.length + 2 ≤ 1099511627776) <|
  sq (forO (Zfi e1) 6 0 ()) fun _ =>
  some ((GAct.mk 0 0 0), false)

def ZeG (a_list : List GMember) (k1 : Nat) (_ : Unit) : Option (Res Unit Bool) :=
 (
  (ZI ((gx a_list k1).Number) 1 999).bind fun v1 =>
  bif (!v1) then
   some true
  else
   (ZI ((gx a_list k1).Since) 1900 2999).bind fun v2 =>
   bif (!v2) then
    some true
   else
    (ZI ((gx a_list k1).Paid) (wr ((gx a_list k1).Since - 1)) 2999).bind fun v3 =>
    bif (!v3) then
     some true
    else
     bif (decide (((k1 : Nat) : Int) > 0)) then
      gd (0 ≤ (wr (((k1 : Nat) : Int) - 1)) ∧ (wr (((k1 : Nat) : Int) - 1)) < ((a_list.length : Nat) : Int)) <|
      some (decide ((gx a_list k1).Number ≤ (gx a_list (((wr (((k1 : Nat) : Int) - 1))).toNat)).Number))
     else
      some false).bind fun j1 =>
 bif j1 then
  some (.ret false)
 else
  some (.next ())

def Zbe (a_list : List GMember) : Option Bool :=
 gd (a_list.length ≤ 4611686018427387904) <|
 sq (forO (ZeG a_list) a_list.length 0 ()) fun _ =>
 some (decide (((a_list.length : Nat) : Int) ≤ 40))

def Zgp (a_stock : List Int) (k1 : Nat) (_ : Unit) : Option (Res Unit Bool) :=
 (ZI (gx a_stock k1) 0 1000000).bind fun v1 =>
 bif (!v1) then
  some (.ret false)
 else
  some (.next ())

def Zck (a_stock : List Int) : Option Bool :=
 gd (a_stock.length ≤ 4611686018427387904) <|
 sq (forO (Zgp a_stock) a_stock.length 0 ()) fun _ =>
 some (((a_stock.length : Nat) : Int) == 6)

def Zfl (a_list : List GBooking) (k1 : Nat) (_ : Unit) : Option (Res Unit Bool) :=
 (
  (ZI ((gx a_list k1).Day) 0 9999).bind fun v1 =>
  bif (!v1) then
   some true
  else
   (ZI ((gx a_list k1).From) 0 4).bind fun v2 =>
   bif (!v2) then
    some true
   else
    (ZI ((gx a_list k1).To) 0 4).bind fun v3 =>
    bif (!v3) then
     some true
    else
     bif ((gx a_list k1).From == (gx a_list k1).To) then
      some true
     else
      (ZI ((gx a_list k1).Sum) 1 100000).bind fun v4 =>
      bif (!v4) then
       some true
      else
       bif (decide (((k1 : Nat) : Int) > 0)) then
        gd (0 ≤ (wr (((k1 : Nat) : Int) - 1)) ∧ (wr (((k1 : Nat) : Int) - 1)) < ((a_list.length : Nat) : Int)) <|
        some (decide ((gx a_list k1).Day < (gx a_list (((wr (((k1 : Nat) : Int) - 1))).toNat)).Day))
       else
        some false).bind fun j1 =>
 bif j1 then
  some (.ret false)
 else
  some (.next ())

def Zda (a_list : List GBooking) : Option Bool :=
 gd (a_list.length ≤ 4611686018427387904) <|
 sq (forO (Zfl a_list) a_list.length 0 ()) fun _ =>
 some (decide (((a_list.length : Nat) : Int) ≤ 60))

def Zby (a_c : GCell) : Option Bool :=
 (
  (ZI a_c.Split 0 2).bind fun v1 =>
  bif (!v1) then
   some true
  else
   (ZI a_c.A 0 5).bind fun v2 =>
   bif (!v2) then
    some true
   else
    (ZI a_c.B 0 5).bind fun v3 =>
    some (!v3)).bind fun j1 =>
 bif j1 then
  some false
 else
  some ((a_c.Split == 0) == (a_c.A == a_c.B))

def Zgv (a_b : GBlock) (k1 : Nat) (_ : Unit) : Option (Res Unit Bool) :=
 (Zby (gx a_b.Cells k1)).bind fun v2 =>
 bif (!v2) then
  some (.ret false)
 else
  some (.next ())

def Z9 (a_b : GBlock) : Option Bool :=
 (
  (ZI a_b.Size 1 4).bind fun v1 =>
  bif (!v1) then
   some true
  else
   some (((a_b.Cells.length : Nat) : Int) != (wr (a_b.Size * a_b.Size)))).bind fun j1 =>
 bif j1 then
  some false
 else
  gd (a_b.Cells.length ≤ 4611686018427387904) <|
  sq (forO (Zgv a_b) a_b.Cells.length 0 ()) fun _ =>
  some true

def Zcg (a_e : GEntry) : Option Bool :=
 (
  (ZI a_e.Owner 0 99).bind fun v1 =>
  bif v1 then
   (ZI a_e.Day 0 9999).bind fun v2 =>
   bif v2 then
    (Z9 a_e.Block).bind fun v3 =>
    some v3
   else
    some false
  else
   some false).bind fun j1 =>
 some j1

def ZeP (a_list : List GMember) (a_number : Int) (k1 : Nat) (_ : Unit) : Option (Res Unit Bool) :=
 bif ((gx a_list k1).Number == a_number) then
  some (.ret true)
 else
  some (.next ())

def Ze8 (a_list : List GMember) (a_number : Int) : Option Bool :=
 gd (a_list.length ≤ 4611686018427387904) <|
 sq (forO (ZeP a_list a_number) a_list.length 0 ()) fun _ =>
 some false

def ZbC (a_list : List GMember) (a_year : Int) (k1 : Nat) (s1 : List Int) : Option (Res (List Int) Empty) :=
 (Zbe a_list).bind fun v1 =>
 bif v1 then
  (
   bif (decide ((gx a_list k1).Paid ≥ a_year)) then
    gd (s1.length + 1 ≤ 1099511627776) <|
    some (s1 ++ [(gx a_list k1).Number])
   else
    some s1).bind fun j1 =>
  some (.next j1)
 else
  some (.brk s1)

def Zde (a_list : List GMember) (a_year : Int) : Option (List Int) :=
 gd (a_list.length ≤ 4611686018427387904) <|
 (lpO (ZbC a_list a_year) a_list.length ([] : List Int)).bind fun e1 =>
 some e1

def Zcc (a_g : GGuild) : Option Int :=
 (Zde a_g.Members a_g.Year).bind fun v1 =>
 (ZI ((v1.length : Nat) : Int) 2 10).bind fun v2 =>
 bif (!v2) then
  some 0
 else
  some (wr (((v1.length : Nat) : Int) - 1))

def Zgt (a_g : GGuild) (k1 : Nat) (_ : Unit) : Option (Res Unit Bool) :=
 (
  (Zcg (GEntry.mk ((gx a_g.Entries k1).Owner) ((gx a_g.Entries k1).Day) ((gx a_g.Entries k1).Block))).bind fun v5 =>
  bif (!v5) then
   some true
  else
   (Ze8 a_g.Members ((gx a_g.Entries k1).Owner)).bind fun v6 =>
   bif (!v6) then
    some true
   else
    bif (decide (((k1 : Nat) : Int) > 0)) then
     gd (0 ≤ (wr (((k1 : Nat) : Int) - 1)) ∧ (wr (((k1 : Nat) : Int) - 1)) < ((a_g.Entries.length : Nat) : Int)) <|
     some (decide ((gx a_g.Entries k1).Day < (gx a_g.Entries (((wr (((k1 : Nat) : Int) - 1))).toNat)).Day))
    else
     some false).bind fun j2 =>
 bif j2 then
  some (.ret false)
 else
  some (.next ())

def Zar (a_g : GGuild) : Option Bool :=
 (
  (Zbe a_g.Members).bind fun v1 =>
  bif (!v1) then
   some true
  else
   (Zck a_g.Stock).bind fun v2 =>
   bif (!v2) then
    some true
   else
    (Zda a_g.Books).bind fun v3 =>
    bif (!v3) then
     some true
    else
     bif (decide (((a_g.Entries.length : Nat) : Int) > 10)) then
      some true
     else
      (ZI a_g.Year 1900 2999).bind fun v4 =>
      some (!v4)).bind fun j1 =>
 bif j1 then
  some false
 else
  gd (a_g.Entries.length ≤ 4611686018427387904) <|
  sq (forO (Zgt a_g) a_g.Entries.length 0 ()) fun _ =>
  (Zcc a_g).bind fun v7 =>
  (ZI a_g.Round 0 v7).bind fun v8 =>
  some v8

def ZhM (_ : Nat) (s1 : List Int) : Option (Res (List Int) Empty) :=
 gd (s1.length + 1 ≤ 1099511627776) <|
 some (.next (s1 ++ [1000]))

def ZfT (a_year : Int) : Option (GGuild × Bool) :=
 (lpO ZhM 6 ([] : List Int)).bind fun e1 =>
 (Zar (GGuild.mk ([] : List GMember) e1 ([] : List GEntry) ([] : List GBooking) 0 a_year)).bind fun v1 =>
 bif (!v1) then
  some ((GGuild.mk ([] : List GMember) ([] : List Int) ([] : List GEntry) ([] : List GBooking) 0 0), false)
 else
  some ((GGuild.mk ([] : List GMember) e1 ([] : List GEntry) ([] : List GBooking) 0 a_year), true)

def Zba (a_b : GBlock) : Option GBlock :=
 gd (([] : List GCell).length + a_b.Cells.length ≤ 1099511627776) <|
 some (GBlock.mk a_b.Size (([] : List GCell) ++ a_b.Cells))

def Zgi (a_g : GGuild) (k1 : Nat) (s1 : List GEntry) : Option (Res (List GEntry) Empty) :=
 (Zba ((gx a_g.Entries k1).Block)).bind fun v1 =>
 gd (s1.length + 1 ≤ 1099511627776) <|
 some (.next (s1 ++ [(GEntry.mk ((gx a_g.Entries k1).Owner) ((gx a_g.Entries k1).Day) v1)]))

def ZaF (a_g : GGuild) : Option GGuild :=
 gd (([] : List GMember).length + a_g.Members.length ≤ 1099511627776) <|
 gd (([] : List Int).length + a_g.Stock.length ≤ 1099511627776) <|
 gd (([] : List GBooking).length + a_g.Books.length ≤ 1099511627776) <|
 gd (a_g.Entries.length ≤ 4611686018427387904) <|
 (lpO (Zgi a_g) a_g.Entries.length ([] : List GEntry)).bind fun e1 =>
 some (GGuild.mk (([] : List GMember) ++ a_g.Members) (([] : List Int) ++ a_g.Stock) e1 (([] : List GBooking) ++ a_g.Books) a_g.Round a_g.Year)

def ZaY (a_list : List GMember) (a_number : Int) (s1 : Int) : Option (Res Int Empty) :=
 (
  bif (decide (s1 < ((a_list.length : Nat) : Int))) then
   gd (0 ≤ s1 ∧ s1 < ((a_list.length : Nat) : Int)) <|
   some (decide ((gx a_list ((s1).toNat)).Number < a_number))
  else
   some false).bind fun j2 =>
 bif j2 then
  some (.next (wr (s1 + 1)))
 else
  some (.brk s1)

def ZbA (a_list : List GMember) (a_number : Int) (a_year : Int) : Option ((List GMember) × Bool) :=
 gd (([] : List GMember).length + a_list.length ≤ 1099511627776) <|
 (
  (Zbe a_list).bind fun v1 =>
  bif (!v1) then
   some true
  else
   (ZI a_year 1900 2999).bind fun v2 =>
   some (!v2)).bind fun j1 =>
 bif j1 then
  some ((([] : List GMember) ++ a_list), false)
 else
  (wlO (ZaY a_list a_number) 18446744073709551616 0).bind fun e1 =>
  gd (0 ≤ e1 ∧ 0 ≤ (e1).toNat ∧ (e1).toNat ≤ a_list.length) <|
  gd (([] : List GMember).length + ((a_list.drop 0).take ((e1).toNat - 0)).length ≤ 1099511627776) <|
  gd ((([] : List GMember) ++ ((a_list.drop 0).take ((e1).toNat - 0))).length + 1 ≤ 1099511627776) <|
  gd (0 ≤ e1 ∧ (e1).toNat ≤ a_list.length ∧ a_list.length ≤ a_list.length) <|
  gd (((([] : List GMember) ++ ((a_list.drop 0).take ((e1).toNat - 0))) ++ [(GMember.mk a_number a_year (wr (a_year - 1)))]).length + ((a_list.drop ((e1).toNat)).take (a_list.length - ((e1).toNat))).length ≤ 1099511627776) <|
  (Zbe (((([] : List GMember) ++ ((a_list.drop 0).take ((e1).toNat - 0))) ++ [(GMember.mk a_number a_year (wr (a_year - 1)))]) ++ ((a_list.drop ((e1).toNat)).take (a_list.length - ((e1).toNat))))).bind fun v3 =>
  bif (!v3) then
   some ((([] : List GMember) ++ a_list), false)
  else
   some ((((([] : List GMember) ++ ((a_list.drop 0).take ((e1).toNat - 0))) ++ [(GMember.mk a_number a_year (wr (a_year - 1)))]) ++ ((a_list.drop ((e1).toNat)).take (a_list.length - ((e1).toNat)))), true)

def Zgy (a_list : List GMember) (a_number : Int) (a_years : Int) (k1 : Nat) (s1 : (List GMember) × Bool) : Option (Res ((List GMember) × Bool) Empty) :=
 (ZI a_years 1 10).bind fun v1 =>
 bif v1 then
  (
   bif ((gx a_list k1).Number == a_number) then
    gd (k1 < s1.1.length) <|
    some ((s1.1.set k1 (GMember.mk ((gx s1.1 k1).Number) ((gx s1.1 k1).Since) (wr ((gx a_list k1).Paid + a_years)))), true)
   else
    some (s1.1, s1.2)).bind fun j1 =>
  some (.next (j1.1, j1.2))
 else
  some (.brk (s1.1, s1.2))

def ZgD (a_list : List GMember) (a_number : Int) (a_years : Int) : Option ((List GMember) × Bool) :=
 gd (([] : List GMember).length + a_list.length ≤ 1099511627776) <|
 gd (a_list.length ≤ 4611686018427387904) <|
 (lpO (Zgy a_list a_number a_years) a_list.length ((([] : List GMember) ++ a_list), false)).bind fun e1 =>
 (
  (Zbe a_list).bind fun v2 =>
  bif (!v2) then
   some true
  else
   bif (!e1.2) then
    some true
   else
    (Zbe e1.1).bind fun v3 =>
    some (!v3)).bind fun j2 =>
 bif j2 then
  some ((([] : List GMember) ++ a_list), false)
 else
  some (e1.1, true)

def ZgI (a_list : List GBooking) (a_b : GBooking) : Option ((List GBooking) × Bool) :=
 gd (([] : List GBooking).length + a_list.length ≤ 1099511627776) <|
 gd ((([] : List GBooking) ++ a_list).length + 1 ≤ 1099511627776) <|
 (
  (Zda a_list).bind fun v1 =>
  bif (!v1) then
   some true
  else
   (Zda ((([] : List GBooking) ++ a_list) ++ [a_b])).bind fun v2 =>
   some (!v2)).bind fun j1 =>
 bif j1 then
  some ((([] : List GBooking) ++ a_list), false)
 else
  some (((([] : List GBooking) ++ a_list) ++ [a_b]), true)

def Zdx (a_g : GGuild) (a_number : Int) : Option (GGuild × Bool) :=
 (ZaF a_g).bind fun v1 =>
 (
  (Zar a_g).bind fun v2 =>
  bif (!v2) then
   some true
  else
   some (a_g.Round != 0)).bind fun j1 =>
 bif j1 then
  some (v1, false)
 else
  (
   bif (decide (((a_g.Books.length : Nat) : Int) > 0)) then
    gd (0 ≤ (wr (((a_g.Books.length : Nat) : Int) - 1)) ∧ (wr (((a_g.Books.length : Nat) : Int) - 1)) < ((a_g.Books.length : Nat) : Int)) <|
    some ((gx a_g.Books (((wr (((a_g.Books.length : Nat) : Int) - 1))).toNat)).Day)
   else
    some 0).bind fun j2 =>
  (ZbA a_g.Members a_number a_g.Year).bind fun v3 =>
  (ZgD v3.1 a_number 1).bind fun v4 =>
  (ZgI a_g.Books (GBooking.mk j2 0 1 20)).bind fun v5 =>
  bif ((!v3.2) || ((!v4.2) || (!v5.2))) then
   some (v1, false)
  else
   (ZaF a_g).bind fun v6 =>
   (Zar (GGuild.mk v4.1 v6.Stock v6.Entries v5.1 v6.Round v6.Year)).bind fun v7 =>
   bif (!v7) then
    some (v1, false)
   else
    some ((GGuild.mk v4.1 v6.Stock v6.Entries v5.1 v6.Round v6.Year), true)

def Zgf (k1 : Nat) (s1 : (List GMember) × (List Int) × (List GEntry) × (List GBooking) × Int × Int) : Option (Res ((List GMember) × (List Int) × (List GEntry) × (List GBooking) × Int × Int) Empty) :=
 (Zdx (GGuild.mk s1.1 s1.2.1 s1.2.2.1 s1.2.2.2.1 s1.2.2.2.2.1 s1.2.2.2.2.2) (((k1 + 1) : Nat) : Int)).bind fun v2 =>
 some (.next (v2.1.Members, v2.1.Stock, v2.1.Entries, v2.1.Books, v2.1.Round, v2.1.Year))

def ZcN  : Option GGuild :=
 (ZfT 2020).bind fun v1 =>
 (lpO Zgf 3 (v1.1.Members, v1.1.Stock, v1.1.Entries, v1.1.Books, v1.1.Round, v1.1.Year)).bind fun e1 =>
 some (GGuild.mk e1.1 e1.2.1 e1.2.2.1 e1.2.2.2.1 e1.2.2.2.2.1 e1.2.2.2.2.2)

def ZcV (a_a : Int) : Option GCell :=
 (ZI a_a 0 5).bind fun v1 =>
 bif (!v1) then
  some (GCell.mk 0 0 0)
 else
  some (GCell.mk 0 a_a a_a)

def Zhl  : Option GBlock :=
 (ZcV 1).bind fun v1 =>
 some (GBlock.mk 3 ([(GCell.mk 1 0 1), v1, (GCell.mk 2 1 0), v1, v1, v1, (GCell.mk 2 0 1), v1, (GCell.mk 1 1 0)] : List GCell))

def ZdH (a_split : Int) (a_a : Int) (a_b : Int) : Option GCell :=
 bif (a_a == a_b) then
  (ZcV a_a).bind fun v1 =>
  some v1
 else
  (Zby (GCell.mk a_split a_a a_b)).bind fun v2 =>
  bif (!v2) then
   some (GCell.mk 0 0 0)
  else
   some (GCell.mk a_split a_a a_b)

def Ziy (a_n : Int) (k1 : Nat) (s1 : List GCell) : Option (Res (List GCell) Empty) :=
 (ZcV (wr ((wr (a_n.tdiv 5)) + 1))).bind fun v3 =>
 (
  bif (decide (((k1 : Nat) : Int) < (a_n.tmod 5))) then
   (ZdH 1 0 1).bind fun v4 =>
   some v4
  else
   some v3).bind fun j1 =>
 gd (s1.length + 1 ≤ 1099511627776) <|
 some (.next (s1 ++ [(j1)]))

def ZdQ (a_n : Int) : Option GBlock :=
 bif (a_n == 0) then
  Zhl.bind fun v1 =>
  some v1
 else
  (ZI a_n 1 9).bind fun v2 =>
  bif (!v2) then
   some (GBlock.mk 0 ([] : List GCell))
  else
   (lpO (Ziy a_n) 4 ([] : List GCell)).bind fun e1 =>
   some (GBlock.mk 2 e1)

def ZhJ (_ : Nat) (s1 : List Int) : Option (Res (List Int) Empty) :=
 gd (s1.length + 1 ≤ 1099511627776) <|
 some (.next (s1 ++ [(-1)]))

def Zfw (a_b : GBlock) (k2 : Nat) (s2 : (List Int) × Int) : Option (Res ((List Int) × Int) Empty) :=
 gd (0 ≤ (wr (((k2 : Nat) : Int).tdiv 2)) ∧ (wr (((k2 : Nat) : Int).tdiv 2)) < ((a_b.Cells.length : Nat) : Int)) <|
 gd (0 ≤ (bif ((((k2 : Nat) : Int).tmod 2) == 1) then (gx a_b.Cells (((wr (((k2 : Nat) : Int).tdiv 2))).toNat)).B else (gx a_b.Cells (((wr (((k2 : Nat) : Int).tdiv 2))).toNat)).A) ∧ (bif ((((k2 : Nat) : Int).tmod 2) == 1) then (gx a_b.Cells (((wr (((k2 : Nat) : Int).tdiv 2))).toNat)).B else (gx a_b.Cells (((wr (((k2 : Nat) : Int).tdiv 2))).toNat)).A) < ((s2.1.length : Nat) : Int)) <|
 some (.next ((bif (decide ((gx s2.1 (((bif ((((k2 : Nat) : Int).tmod 2) == 1) then (gx a_b.Cells (((wr (((k2 : Nat) : Int).tdiv 2))).toNat)).B else (gx a_b.Cells (((wr (((k2 : Nat) : Int).tdiv 2))).toNat)).A)).toNat)) < 0)) then (s2.1.set (((bif ((((k2 : Nat) : Int).tmod 2) == 1) then (gx a_b.Cells (((wr (((k2 : Nat) : Int).tdiv 2))).toNat)).B else (gx a_b.Cells (((wr (((k2 : Nat) : Int).tdiv 2))).toNat)).A)).toNat) s2.2) else s2.1), (bif (decide ((gx s2.1 (((bif ((((k2 : Nat) : Int).tmod 2) == 1) then (gx a_b.Cells (((wr (((k2 : Nat) : Int).tdiv 2))).toNat)).B else (gx a_b.Cells (((wr (((k2 : Nat) : Int).tdiv 2))).toNat)).A)).toNat)) < 0)) then (wr (s2.2 + 1)) else s2.2)))

def ZfE (k3 : Nat) (s3 : (List Int) × Int) : Option (Res ((List Int) × Int) Empty) :=
 gd (k3 < s3.1.length) <|
 some (.next ((bif (decide ((gx s3.1 k3) < 0)) then (s3.1.set k3 s3.2) else s3.1), (bif (decide ((gx s3.1 k3) < 0)) then (wr (s3.2 + 1)) else s3.2)))

def ZfK (a_b : GBlock) : Option (List Int) :=
 (Z9 a_b).bind fun v1 =>
 bif (!v1) then
  some ([] : List Int)
 else
  (lpO ZhJ 6 ([] : List Int)).bind fun e1 =>
  gd (((wr (2 * ((a_b.Cells.length : Nat) : Int)))).toNat ≤ 4611686018427387904) <|
  (lpO (Zfw a_b) (((wr (2 * ((a_b.Cells.length : Nat) : Int)))).toNat) (e1, 0)).bind fun e2 =>
  (lpO ZfE 6 (e2.1, e2.2)).bind fun e3 =>
  some e3.1

def Zha (a_l : List Int) (k1 : Nat) (_ : Unit) : Option (Res Unit Bool) :=
 (ZI (gx a_l k1) 0 5).bind fun v1 =>
 bif (!v1) then
  some (.ret false)
 else
  some (.next ())

def Zf5 (a_l : List Int) : Option Bool :=
 gd (a_l.length ≤ 4611686018427387904) <|
 sq (forO (Zha a_l) a_l.length 0 ()) fun _ =>
 some (((a_l.length : Nat) : Int) == 6)

def Zdp (a_c : GCell) (a_l : List Int) : Option GCell :=
 (
  (Zby a_c).bind fun v1 =>
  bif (!v1) then
   some true
  else
   (Zf5 a_l).bind fun v2 =>
   some (!v2)).bind fun j1 =>
 bif j1 then
  some (GCell.mk 0 0 0)
 else
  gd (0 ≤ a_c.A ∧ a_c.A < ((a_l.length : Nat) : Int)) <|
  gd (0 ≤ a_c.B ∧ a_c.B < ((a_l.length : Nat) : Int)) <|
  (ZdH a_c.Split (gx a_l ((a_c.A).toNat)) (gx a_l ((a_c.B).toNat))).bind fun v3 =>
  some v3

def Zc7 (a_b : GBlock) (a_l : List Int) (k1 : Nat) (s1 : List GCell) : Option (Res (List GCell) Empty) :=
 (Zdp (gx a_b.Cells k1) a_l).bind fun v4 =>
 gd (s1.length + 1 ≤ 1099511627776) <|
 some (.next (s1 ++ [v4]))

def Zc1 (a_b : GBlock) (a_l : List Int) : Option (GBlock × Bool) :=
 (
  (Z9 a_b).bind fun v1 =>
  bif (!v1) then
   some true
  else
   (Zf5 a_l).bind fun v2 =>
   some (!v2)).bind fun j1 =>
 bif j1 then
  (Zba a_b).bind fun v3 =>
  some (v3, false)
 else
  gd (a_b.Cells.length ≤ 4611686018427387904) <|
  (lpO (Zc7 a_b a_l) a_b.Cells.length ([] : List GCell)).bind fun e1 =>
  some ((GBlock.mk a_b.Size e1), true)

def Zej (a_b : GBlock) : Option GBlock :=
 (ZfK a_b).bind fun v1 =>
 (Zc1 a_b v1).bind fun v2 =>
 some v2.1

def Zes (a_c : GCell) : Option GCell :=
 (Zby a_c).bind fun v1 =>
 bif (!v1) then
  some (GCell.mk 0 0 0)
 else
  bif (a_c.Split == 0) then
   some a_c
  else
   some (GCell.mk (wr (3 - a_c.Split)) a_c.B a_c.A)

def Zd6 (a_b : GBlock) (k1 : Nat) (k2 : Nat) (s2 : List GCell) : Option (Res (List GCell) Empty) :=
 gd (0 ≤ (wr ((wr ((wr ((wr (((k1 : Nat) : Int) * a_b.Size)) + a_b.Size)) - 1)) - ((k2 : Nat) : Int))) ∧ (wr ((wr ((wr ((wr (((k1 : Nat) : Int) * a_b.Size)) + a_b.Size)) - 1)) - ((k2 : Nat) : Int))) < ((a_b.Cells.length : Nat) : Int)) <|
 (Zes (gx a_b.Cells (((wr ((wr ((wr ((wr (((k1 : Nat) : Int) * a_b.Size)) + a_b.Size)) - 1)) - ((k2 : Nat) : Int)))).toNat))).bind fun v2 =>
 gd (s2.length + 1 ≤ 1099511627776) <|
 some (.next (s2 ++ [v2]))

def Zd0 (a_b : GBlock) (k1 : Nat) (s1 : List GCell) : Option (Res (List GCell) Empty) :=
 (lpO (Zd6 a_b k1) ((a_b.Size).toNat) s1).bind fun e2 =>
 some (.next e2)

def ZdV (a_b : GBlock) : Option GBlock :=
 (Z9 a_b).bind fun v1 =>
 bif (!v1) then
  some (GBlock.mk 0 ([] : List GCell))
 else
  gd ((a_b.Size).toNat ≤ 4611686018427387904) <|
  (lpO (Zd0 a_b) ((a_b.Size).toNat) ([] : List GCell)).bind fun e1 =>
  some (GBlock.mk a_b.Size e1)

def ZfJ (a_c : GCell) : Option GCell :=
 (Zby a_c).bind fun v1 =>
 bif (!v1) then
  some (GCell.mk 0 0 0)
 else
  bif (a_c.Split == 1) then
   some (GCell.mk 2 a_c.B a_c.A)
  else
   bif (a_c.Split == 2) then
    some (GCell.mk 1 a_c.A a_c.B)
   else
    some a_c

def ZeA (a_b : GBlock) (k1 : Nat) (k2 : Nat) (s2 : List GCell) : Option (Res (List GCell) Empty) :=
 gd (0 ≤ (wr ((wr ((wr ((wr (a_b.Size - 1)) - ((k2 : Nat) : Int))) * a_b.Size)) + ((k1 : Nat) : Int))) ∧ (wr ((wr ((wr ((wr (a_b.Size - 1)) - ((k2 : Nat) : Int))) * a_b.Size)) + ((k1 : Nat) : Int))) < ((a_b.Cells.length : Nat) : Int)) <|
 (ZfJ (gx a_b.Cells (((wr ((wr ((wr ((wr (a_b.Size - 1)) - ((k2 : Nat) : Int))) * a_b.Size)) + ((k1 : Nat) : Int)))).toNat))).bind fun v2 =>
 gd (s2.length + 1 ≤ 1099511627776) <|
 some (.next (s2 ++ [v2]))

def ZeM (a_b : GBlock) (k1 : Nat) (s1 : List GCell) : Option (Res (List GCell) Empty) :=
 (lpO (ZeA a_b k1) ((a_b.Size).toNat) s1).bind fun e2 =>
 some (.next e2)

def Ze3 (a_b : GBlock) : Option GBlock :=
 (Z9 a_b).bind fun v1 =>
 bif (!v1) then
  some (GBlock.mk 0 ([] : List GCell))
 else
  gd ((a_b.Size).toNat ≤ 4611686018427387904) <|
  (lpO (ZeM a_b) ((a_b.Size).toNat) ([] : List GCell)).bind fun e1 =>
  some (GBlock.mk a_b.Size e1)

def Zfo (_ : Nat) (s1 : Int × (List GCell)) : Option (Res (Int × (List GCell)) Empty) :=
 (Ze3 (GBlock.mk s1.1 s1.2)).bind fun v5 =>
 some (.next (v5.Size, v5.Cells))

def Zel (a_b : GBlock) (a_k : Int) : Option GBlock :=
 (
  (Z9 a_b).bind fun v1 =>
  bif (!v1) then
   some true
  else
   (ZI a_k 0 7).bind fun v2 =>
   some (!v2)).bind fun j1 =>
 bif j1 then
  some (GBlock.mk 0 ([] : List GCell))
 else
  (Zba a_b).bind fun v3 =>
  (
   bif (decide (a_k ≥ 4)) then
    (ZdV a_b).bind fun v4 =>
    some v4
   else
    some v3).bind fun j2 =>
  gd (((a_k.tmod 4)).toNat ≤ 4611686018427387904) <|
  (lpO Zfo (((a_k.tmod 4)).toNat) ((j2).Size, (j2).Cells)).bind fun e1 =>
  some (GBlock.mk e1.1 e1.2)

def Zeh (a_c : GCell) : Option Str :=
 (Zby a_c).bind fun v1 =>
 bif (!v1) then
  some (⟨[]⟩ : Str)
 else
  bif (a_c.Split == 1) then
   (ZB a_c.A).bind fun v2 =>
   gd (v2.b.length + (⟨[47]⟩ : Str).b.length ≤ 1099511627776) <|
   (ZB a_c.B).bind fun v3 =>
   gd ((sadd v2 (⟨[47]⟩ : Str)).b.length + v3.b.length ≤ 1099511627776) <|
   some (sadd (sadd v2 (⟨[47]⟩ : Str)) v3)
  else
   bif (a_c.Split == 2) then
    (ZB a_c.A).bind fun v4 =>
    gd (v4.b.length + (⟨[92]⟩ : Str).b.length ≤ 1099511627776) <|
    (ZB a_c.B).bind fun v5 =>
    gd ((sadd v4 (⟨[92]⟩ : Str)).b.length + v5.b.length ≤ 1099511627776) <|
    some (sadd (sadd v4 (⟨[92]⟩ : Str)) v5)
   else
    (ZB a_c.A).bind fun v6 =>
    some v6

def ZgY (a_b : GBlock) (k1 : Nat) (s1 : Str) : Option (Res Str Empty) :=
 (Z9 a_b).bind fun v1 =>
 bif v1 then
  (Zeh (gx a_b.Cells k1)).bind fun v2 =>
  gd (s1.b.length + v2.b.length ≤ 1099511627776) <|
  gd ((sadd s1 v2).b.length + (⟨[59]⟩ : Str).b.length ≤ 1099511627776) <|
  some (.next (sadd (sadd s1 v2) (⟨[59]⟩ : Str)))
 else
  some (.brk s1)

def Zey (a_b : GBlock) : Option Str :=
 gd (a_b.Cells.length ≤ 4611686018427387904) <|
 (lpO (ZgY a_b) a_b.Cells.length (⟨[]⟩ : Str)).bind fun e1 =>
 some e1

def ZdA (a_b : GBlock) (k1 : Nat) (s1 : Int × (List GCell)) : Option (Res (Int × (List GCell)) Empty) :=
 (Zel a_b (((k1 + 1) : Nat) : Int)).bind fun v3 =>
 (Zej v3).bind fun v4 =>
 (Zey v4).bind fun v5 =>
 (Zey (GBlock.mk s1.1 s1.2)).bind fun v6 =>
 some (.next ((bif (slt v5 v6) then v4 else (GBlock.mk s1.1 s1.2)).Size, (bif (slt v5 v6) then v4 else (GBlock.mk s1.1 s1.2)).Cells))

def Zco (a_b : GBlock) : Option GBlock :=
 (Z9 a_b).bind fun v1 =>
 bif (!v1) then
  some (GBlock.mk 0 ([] : List GCell))
 else
  (Zej a_b).bind fun v2 =>
  (lpO (ZdA a_b) 7 (v2.Size, v2.Cells)).bind fun e1 =>
  some (GBlock.mk e1.1 e1.2)

def ZeC (a_b : GBlock) (a_d : GBlock) (k1 : Nat) (_ : Unit) : Option (Res Unit Bool) :=
 gd (k1 < a_d.Cells.length) <|
 bif (!(beqs [(gx a_b.Cells k1).Split, (gx a_b.Cells k1).A, (gx a_b.Cells k1).B] [(gx a_d.Cells k1).Split, (gx a_d.Cells k1).A, (gx a_d.Cells k1).B])) then
  some (.ret false)
 else
  some (.next ())

def ZeW (a_b : GBlock) (a_d : GBlock) : Option Bool :=
 bif ((a_b.Size != a_d.Size) || (((a_b.Cells.length : Nat) : Int) != ((a_d.Cells.length : Nat) : Int))) then
  some false
 else
  gd (a_b.Cells.length ≤ 4611686018427387904) <|
  sq (forO (ZeC a_b a_d) a_b.Cells.length 0 ()) fun _ =>
  some true

def Zch (a_b : GBlock) (a_d : GBlock) : Option Bool :=
 (
  (Z9 a_b).bind fun v1 =>
  bif v1 then
   (Z9 a_d).bind fun v2 =>
   bif v2 then
    (Zco a_b).bind fun v3 =>
    (Zco a_d).bind fun v4 =>
    (ZeW v3 v4).bind fun v5 =>
    some v5
   else
    some false
  else
   some false).bind fun j1 =>
 some j1

def Zfy (a_b : GBlock) (k1 : Nat) (k2 : Nat) (s2 : Bool) : Option (Res Bool Empty) :=
 some (.next (s2 || (((gx a_b.Cells k2).A == ((k1 : Nat) : Int)) || ((gx a_b.Cells k2).B == ((k1 : Nat) : Int)))))

def Zfk (a_b : GBlock) (k1 : Nat) (s1 : List Int) : Option (Res (List Int) Empty) :=
 gd (a_b.Cells.length ≤ 4611686018427387904) <|
 (lpO (Zfy a_b k1) a_b.Cells.length false).bind fun e2 =>
 (
  bif e2 then
   gd (s1.length + 1 ≤ 1099511627776) <|
   some (s1 ++ [((k1 : Nat) : Int)])
  else
   some s1).bind fun j2 =>
 some (.next j2)

def ZfY (a_b : GBlock) : Option (List Int) :=
 (Z9 a_b).bind fun v1 =>
 bif (!v1) then
  some ([] : List Int)
 else
  (lpO (Zfk a_b) 6 ([] : List Int)).bind fun e1 =>
  some e1

def Zh2 (a_b : GBlock) (a_d : GBlock) : Option Bool :=
 (
  (Z9 a_b).bind fun v1 =>
  bif v1 then
   (Z9 a_d).bind fun v2 =>
   bif v2 then
    some (a_b.Size == a_d.Size)
   else
    some false
  else
   some false).bind fun j1 =>
 some j1

def Zfb (a_c : GCell) (a_side : Int) : Option Int :=
 (
  (Zby a_c).bind fun v1 =>
  bif (!v1) then
   some true
  else
   (ZI a_side 0 3).bind fun v2 =>
   some (!v2)).bind fun j1 =>
 bif j1 then
  some (-1)
 else
  bif ((a_side == 0) || (bif (a_side == 1) then ((a_c.Split == 1) || ((a_side == 3) && (a_c.Split == 2))) else ((a_side == 3) && (a_c.Split == 2)))) then
   some a_c.A
  else
   some a_c.B

def ZhK (_ : Nat) (s1 : List (List Int)) : Option (Res (List (List Int)) Empty) :=
 gd (s1.length + 1 ≤ 1099511627776) <|
 some (.next (s1 ++ [(List.replicate 6 (0 : Int))]))

def Zfg (a_b : GBlock) (a_d : GBlock) (k2 : Nat) (k3 : Nat) (s3 : List (List Int)) : Option (Res (List (List Int)) Empty) :=
 gd (k2 < a_d.Cells.length) <|
 (Zfb (gx a_d.Cells k2) ((k3 : Nat) : Int)).bind fun v1 =>
 (Zfb (gx a_b.Cells k2) ((k3 : Nat) : Int)).bind fun v2 =>
 gd (0 ≤ v1 ∧ v1 < ((s3.length : Nat) : Int)) <|
 gd (0 ≤ v2 ∧ v2 < (((gx s3 ((v1).toNat)).length : Nat) : Int)) <|
 some (.next (s3.set ((v1).toNat) ((gx s3 ((v1).toNat)).set ((v2).toNat) (wr ((gx (gx s3 ((v1).toNat)) ((v2).toNat)) + 1)))))

def Zfs (a_b : GBlock) (a_d : GBlock) (k2 : Nat) (s2 : List (List Int)) : Option (Res (List (List Int)) Empty) :=
 (lpO (Zfg a_b a_d k2) 4 s2).bind fun e3 =>
 some (.next e3)

def ZfU (a_b : GBlock) (a_d : GBlock) : Option (List (List Int)) :=
 (lpO ZhK 6 ([] : List (List Int))).bind fun e1 =>
 gd (a_b.Cells.length ≤ 4611686018427387904) <|
 (lpO (Zfs a_b a_d) a_b.Cells.length e1).bind fun e2 =>
 some e2

def Zgo (rec : (List (List Int)) → (List Int) → Int → Int → Option Int) (a_t : List (List Int)) (a_l : List Int) (a_at : Int) (a_used : Int) (k1 : Nat) (s1 : Int) : Option (Res Int Empty) :=
 gd (0 ≤ ((k1 : Nat) : Int)) <|
 (
  bif ((andI (shrI a_used ((k1 : Nat) : Int)) 1) == 0) then
   gd (0 ≤ a_at ∧ a_at < ((a_l.length : Nat) : Int)) <|
   gd (0 ≤ (gx a_l ((a_at).toNat)) ∧ (gx a_l ((a_at).toNat)) < ((a_t.length : Nat) : Int)) <|
   gd (k1 < (gx a_t (((gx a_l ((a_at).toNat))).toNat)).length) <|
   (rec a_t a_l (wr (a_at + 1)) (orI a_used (shlI 1 ((k1 : Nat) : Int)))).bind fun v1 =>
   some (if (wr ((gx (gx a_t (((gx a_l ((a_at).toNat))).toNat)) k1) + v1)) > s1 then (wr ((gx (gx a_t (((gx a_l ((a_at).toNat))).toNat)) k1) + v1)) else s1)
  else
   some s1).bind fun j1 =>
 some (.next j1)

def Zcf : Nat → (List (List Int)) → (List Int) → Int → Int → Option Int
 | 0, _, _, _, _ => none
 | fuel + 1, a_t, a_l, a_at, a_used =>
  bif (a_at == ((a_l.length : Nat) : Int)) then
   some 0
  else
   (lpO (Zgo (Zcf fuel) a_t a_l a_at a_used) 6 0).bind fun e1 =>
   some e1

def Zcz (a_b : GBlock) (a_d : GBlock) (v1 : List Int) (k1 : Nat) (s1 : Int) : Option (Res Int Empty) :=
 (Zel a_d ((k1 : Nat) : Int)).bind fun v3 =>
 (ZfU a_b v3).bind fun v4 =>
 (Zcf (v1.length + 1) v4 v1 0 0).bind fun v5 =>
 some (.next (if v5 > s1 then v5 else s1))

def Zci (a_b : GBlock) (a_d : GBlock) : Option Int :=
 (ZfY a_d).bind fun v1 =>
 (
  (Zh2 a_b a_d).bind fun v2 =>
  bif (!v2) then
   some true
  else
   some (decide (((v1.length : Nat) : Int) > 3))).bind fun j1 =>
 bif j1 then
  some 0
 else
  (lpO (Zcz a_b a_d v1) 8 0).bind fun e1 =>
  some e1

def ZeR (a_e : GEntry) (a_f : GEntry) : Option Int :=
 (
  (Zcg a_e).bind fun v1 =>
  bif (!v1) then
   some true
  else
   (Zcg a_f).bind fun v2 =>
   bif (!v2) then
    some true
   else
    some (a_e.Block.Size != a_f.Block.Size)).bind fun j1 =>
 bif j1 then
  some 0
 else
  (Zch a_e.Block a_f.Block).bind fun v3 =>
  bif v3 then
   some 3
  else
   (Zci a_e.Block a_f.Block).bind fun v4 =>
   bif (decide ((wr (10 * v4)) ≥ (wr (36 * ((a_e.Block.Cells.length : Nat) : Int))))) then
    some 2
   else
    some 1

def Zhu (a_e : GEntry) (a_f : GEntry) : Option Bool :=
 (ZeR a_e a_f).bind fun v1 =>
 some (bif (v1 == 3) then ((a_e.Owner != a_f.Owner) && (decide (a_e.Day > a_f.Day))) else ((v1 == 2) && ((a_e.Owner != a_f.Owner) && (decide (a_e.Day > a_f.Day)))))

def ZgX (a_g : GGuild) (a_number : Int) (a_day : Int) (v1 : GGuild) (v2 : GBlock) (k1 : Nat) (_ : Unit) : Option (Res Unit (GGuild × Bool)) :=
 (Zhu (GEntry.mk a_number a_day v2) (gx a_g.Entries k1)).bind fun v4 =>
 bif v4 then
  some (.ret (v1, false))
 else
  some (.next ())

def Zhy (a_g : GGuild) (a_number : Int) (a_day : Int) (a_b : GBlock) : Option (GGuild × Bool) :=
 (ZaF a_g).bind fun v1 =>
 (Zba a_b).bind fun v2 =>
 (Zar a_g).bind fun v3 =>
 bif (!v3) then
  some (v1, false)
 else
  gd (a_g.Entries.length ≤ 4611686018427387904) <|
  sq (forO (ZgX a_g a_number a_day v1 v2) a_g.Entries.length 0 ()) fun _ =>
  (ZaF a_g).bind fun v5 =>
  gd (v5.Entries.length + 1 ≤ 1099511627776) <|
  (Zar (GGuild.mk v5.Members v5.Stock (v5.Entries ++ [(GEntry.mk a_number a_day v2)]) v5.Books v5.Round v5.Year)).bind fun v6 =>
  bif (!v6) then
   some (v1, false)
  else
   some ((GGuild.mk v5.Members v5.Stock (v5.Entries ++ [(GEntry.mk a_number a_day v2)]) v5.Books v5.Round v5.Year), true)

def ZfN (a_c : GCell) (a_a : Int) : Option Int :=
 (Zby a_c).bind fun v1 =>
 bif (!v1) then
  some 0
 else
  some (bif (a_c.B == a_a) then (wr ((bif (a_c.A == a_a) then (wr (0 + 2)) else 0) + 2)) else (bif (a_c.A == a_a) then (wr (0 + 2)) else 0))

def Zg9 (a_b : GBlock) (a_a : Int) (k1 : Nat) (s1 : Int) : Option (Res Int Empty) :=
 (ZfN (gx a_b.Cells k1) a_a).bind fun v2 =>
 some (.next (wr (s1 + v2)))

def ZhC (a_b : GBlock) (a_a : Int) : Option Int :=
 (Z9 a_b).bind fun v1 =>
 bif (!v1) then
  some 0
 else
  gd (a_b.Cells.length ≤ 4611686018427387904) <|
  (lpO (Zg9 a_b a_a) a_b.Cells.length 0).bind fun e1 =>
  some e1

def ZbJ (a_b : GBlock) (k1 : Nat) (s1 : List Int) : Option (Res (List Int) Empty) :=
 (Z9 a_b).bind fun v1 =>
 bif v1 then
  (ZhC a_b ((k1 : Nat) : Int)).bind fun v2 =>
  gd (s1.length + 1 ≤ 1099511627776) <|
  some (.next (s1 ++ [v2]))
 else
  some (.brk s1)

def ZcU (a_b : GBlock) : Option (List Int) :=
 (lpO (ZbJ a_b) 6 ([] : List Int)).bind fun e1 =>
 some e1

def ZeO (a_stock : List Int) (a_need : List Int) (k1 : Nat) (_ : Unit) : Option (Res Unit Bool) :=
 gd (k1 < a_need.length) <|
 gd (k1 < a_stock.length) <|
 bif (decide ((gx a_need k1) > (gx a_stock k1))) then
  some (.ret false)
 else
  some (.next ())

def ZeY (a_stock : List Int) (a_need : List Int) : Option Bool :=
 (
  (Zck a_stock).bind fun v1 =>
  bif (!v1) then
   some true
  else
   (Zck a_need).bind fun v2 =>
   some (!v2)).bind fun j1 =>
 bif j1 then
  some false
 else
  sq (forO (ZeO a_stock a_need) 6 0 ()) fun _ =>
  some true

def Zfp (a_g : GGuild) (v6 : List Int) (k1 : Nat) (s1 : List Int) : Option (Res (List Int) Empty) :=
 gd (k1 < a_g.Stock.length) <|
 gd (k1 < v6.length) <|
 gd (k1 < s1.length) <|
 some (.next (s1.set k1 (wr ((gx a_g.Stock k1) - (gx v6 k1)))))

def Zei (a_g : GGuild) (a_k : Int) : Option (GGuild × Bool) :=
 (ZaF a_g).bind fun v1 =>
 (
  (Zar a_g).bind fun v2 =>
  bif (!v2) then
   some true
  else
   (ZI a_k 0 (wr (((a_g.Entries.length : Nat) : Int) - 1))).bind fun v3 =>
   bif (!v3) then
    some true
   else
    gd (0 ≤ a_k ∧ a_k < ((a_g.Entries.length : Nat) : Int)) <|
    (ZcU ((gx a_g.Entries ((a_k).toNat)).Block)).bind fun v4 =>
    (ZeY a_g.Stock v4).bind fun v5 =>
    some (!v5)).bind fun j1 =>
 bif j1 then
  some (v1, false)
 else
  gd (0 ≤ a_k ∧ a_k < ((a_g.Entries.length : Nat) : Int)) <|
  (ZcU ((gx a_g.Entries ((a_k).toNat)).Block)).bind fun v6 =>
  (lpO (Zfp a_g v6) 6 v1.Stock).bind fun e1 =>
  some ((GGuild.mk v1.Members e1 v1.Entries v1.Books v1.Round v1.Year), true)

def ZeV (a_g : GGuild) : Option (GGuild × Bool) :=
 (ZaF a_g).bind fun v1 =>
 (
  (Zar a_g).bind fun v2 =>
  bif (!v2) then
   some true
  else
   (Zar (GGuild.mk v1.Members v1.Stock v1.Entries v1.Books (wr (v1.Round + 1)) v1.Year)).bind fun v3 =>
   some (!v3)).bind fun j1 =>
 bif j1 then
  (ZaF a_g).bind fun v4 =>
  some (v4, false)
 else
  some ((GGuild.mk v1.Members v1.Stock v1.Entries v1.Books (wr (v1.Round + 1)) v1.Year), true)

def ZgJ (a_g : GGuild) : Option (GGuild × Bool) :=
 (ZaF a_g).bind fun v1 =>
 (
  (Zar a_g).bind fun v2 =>
  bif (!v2) then
   some true
  else
   (Zcc a_g).bind fun v3 =>
   bif (decide (a_g.Round < v3)) then
    some true
   else
    (Zar (GGuild.mk v1.Members v1.Stock v1.Entries v1.Books 0 (wr (v1.Year + 1)))).bind fun v4 =>
    some (!v4)).bind fun j1 =>
 bif j1 then
  (ZaF a_g).bind fun v5 =>
  some (v5, false)
 else
  some ((GGuild.mk v1.Members v1.Stock v1.Entries v1.Books 0 (wr (v1.Year + 1))), true)

def ZgR (a_stock : List Int) (a_need : List Int) (k1 : Nat) (s1 : List Int) : Option (Res (List Int) Empty) :=
 (
  (Zck a_stock).bind fun v1 =>
  bif v1 then
   (Zck a_need).bind fun v2 =>
   some (v1, v2)
  else
   some (v1, false)).bind fun j1 =>
 bif j1.2 then
  gd (k1 < a_need.length) <|
  gd (k1 < a_stock.length) <|
  gd (s1.length + 1 ≤ 1099511627776) <|
  some (.next (s1 ++ [(if (wr ((gx a_need k1) - (gx a_stock k1))) > 0 then (wr ((gx a_need k1) - (gx a_stock k1))) else 0)]))
 else
  some (.brk s1)

def Zhw (a_stock : List Int) (a_need : List Int) : Option (List Int) :=
 (lpO (ZgR a_stock a_need) 6 ([] : List Int)).bind fun e1 =>
 some e1

def ZgA (a_ok : Bool) : Option Int :=
 bif a_ok then
  some 1
 else
  some 0

def Zjc (v11 : List Int) (k1 : Nat) (s1 : Int) : Option (Res Int Empty) :=
 some (.next (wr (s1 + (gx v11 k1))))

def ZdB (a_g : GGuild) (a_a : GAct) : Option (GGuild × Int) :=
 (ZaF a_g).bind fun v1 =>
 (
  (Zar a_g).bind fun v2 =>
  bif (!v2) then
   some true
  else
   (Zhk a_a).bind fun v3 =>
   some (!v3)).bind fun j1 =>
 bif j1 then
  some (v1, (-1))
 else
  sq (
   bif (a_a.Kind == 1) then
    (Zdx a_g a_a.A).bind fun v4 =>
    some (.inl (v4.2, v4.1))
   else
    bif (a_a.Kind == 2) then
     (
      bif (decide (((a_g.Entries.length : Nat) : Int) > 0)) then
       gd (0 ≤ (wr (((a_g.Entries.length : Nat) : Int) - 1)) ∧ (wr (((a_g.Entries.length : Nat) : Int) - 1)) < ((a_g.Entries.length : Nat) : Int)) <|
       some (wr ((gx a_g.Entries (((wr (((a_g.Entries.length : Nat) : Int) - 1))).toNat)).Day + 1))
      else
       some 0).bind fun j3 =>
     (ZdQ a_a.B).bind fun v5 =>
     (Zhy a_g a_a.A j3 v5).bind fun v6 =>
     some (.inl (v6.2, v6.1))
    else
     bif (a_a.Kind == 3) then
      (Zei a_g a_a.A).bind fun v7 =>
      some (.inl (v7.2, v7.1))
     else
      bif (a_a.Kind == 4) then
       (ZeV a_g).bind fun v8 =>
       some (.inl (v8.2, v8.1))
      else
       bif (a_a.Kind == 5) then
        (ZgJ a_g).bind fun v9 =>
        some (.inl (v9.2, v9.1))
       else
        bif (a_a.Kind == 6) then
         (
          bif (decide (a_a.A < ((a_g.Entries.length : Nat) : Int))) then
           gd (0 ≤ a_a.A ∧ a_a.A < ((a_g.Entries.length : Nat) : Int)) <|
           (ZcU ((gx a_g.Entries ((a_a.A).toNat)).Block)).bind fun v10 =>
           (Zhw a_g.Stock v10).bind fun v11 =>
           gd (v11.length ≤ 4611686018427387904) <|
           (lpO (Zjc v11) v11.length 0).bind fun e1 =>
           some e1
          else
           some 0).bind fun j4 =>
         some (.inr (v1, j4))
        else
         some (.inl (false, v1))) fun j2 =>
  (ZgA j2.1).bind fun v12 =>
  some ((j2.2), v12)

def Zgr (a_acts : List GAct) (k1 : Nat) (s1 : (List Int) × (List GMember) × (List Int) × (List GEntry) × (List GBooking) × Int × Int) : Option (Res ((List Int) × (List GMember) × (List Int) × (List GEntry) × (List GBooking) × Int × Int) Empty) :=
 (ZdB (GGuild.mk s1.2.1 s1.2.2.1 s1.2.2.2.1 s1.2.2.2.2.1 s1.2.2.2.2.2.1 s1.2.2.2.2.2.2) (gx a_acts k1)).bind fun v3 =>
 gd (s1.1.length + 1 ≤ 1099511627776) <|
 some (.next ((s1.1 ++ [v3.2]), v3.1.Members, v3.1.Stock, v3.1.Entries, v3.1.Books, v3.1.Round, v3.1.Year))

def Zgz (a_g : GGuild) (a_acts : List GAct) : Option (GGuild × (List Int)) :=
 (ZaF a_g).bind fun v1 =>
 (
  (Zar a_g).bind fun v2 =>
  bif (!v2) then
   some true
  else
   some (decide (((a_acts.length : Nat) : Int) > 40))).bind fun j1 =>
 bif j1 then
  some (v1, ([] : List Int))
 else
  gd (a_acts.length ≤ 4611686018427387904) <|
  (lpO (Zgr a_acts) a_acts.length (([] : List Int), v1.Members, v1.Stock, v1.Entries, v1.Books, v1.Round, v1.Year)).bind fun e1 =>
  some ((GGuild.mk e1.2.1 e1.2.2.1 e1.2.2.2.1 e1.2.2.2.2.1 e1.2.2.2.2.2.1 e1.2.2.2.2.2.2), e1.1)

def Zcp (a_b : GBlock) (k1 : Nat) (s1 : Str) : Option (Res Str Empty) :=
 (Z9 a_b).bind fun v1 =>
 bif v1 then
  (
   bif (decide (((k1 : Nat) : Int) > 0)) then
    gd (a_b.Size ≠ 0) <|
    some ((((k1 : Nat) : Int).tmod a_b.Size) == 0)
   else
    some false).bind fun j1 =>
  (
   bif j1 then
    gd (s1.b.length + (⟨[59]⟩ : Str).b.length ≤ 1099511627776) <|
    some (sadd s1 (⟨[59]⟩ : Str))
   else
    bif (decide (((k1 : Nat) : Int) > 0)) then
     gd (s1.b.length + (⟨[44]⟩ : Str).b.length ≤ 1099511627776) <|
     some (sadd s1 (⟨[44]⟩ : Str))
    else
     some s1).bind fun j2 =>
  (Zeh (gx a_b.Cells k1)).bind fun v2 =>
  gd (j2.b.length + v2.b.length ≤ 1099511627776) <|
  some (.next (sadd j2 v2))
 else
  some (.brk s1)

def Ze5 (a_b : GBlock) : Option Str :=
 gd (a_b.Cells.length ≤ 4611686018427387904) <|
 (lpO (Zcp a_b) a_b.Cells.length (⟨[]⟩ : Str)).bind fun e1 =>
 some e1

def Zeb (a_g : GGuild) (k1 : Nat) (s1 : Str) : Option (Res Str Empty) :=
 gd (s1.b.length + (⟨[32]⟩ : Str).b.length ≤ 1099511627776) <|
 (ZB ((gx a_g.Members k1).Number)).bind fun v2 =>
 gd ((sadd s1 (⟨[32]⟩ : Str)).b.length + v2.b.length ≤ 1099511627776) <|
 some (.next (sadd (sadd s1 (⟨[32]⟩ : Str)) v2))

def Zed (a_g : GGuild) (k2 : Nat) (s2 : Str) : Option (Res Str Empty) :=
 gd (s2.b.length + (⟨[32]⟩ : Str).b.length ≤ 1099511627776) <|
 (ZB (gx a_g.Stock k2)).bind fun v3 =>
 gd ((sadd s2 (⟨[32]⟩ : Str)).b.length + v3.b.length ≤ 1099511627776) <|
 some (.next (sadd (sadd s2 (⟨[32]⟩ : Str)) v3))

def Zd2 (a_g : GGuild) (k3 : Nat) (s3 : List Str) : Option (Res (List Str) Empty) :=
 (ZB ((gx a_g.Entries k3).Owner)).bind fun v4 =>
 gd (v4.b.length + (⟨[32]⟩ : Str).b.length ≤ 1099511627776) <|
 (ZB ((gx a_g.Entries k3).Day)).bind fun v5 =>
 gd ((sadd v4 (⟨[32]⟩ : Str)).b.length + v5.b.length ≤ 1099511627776) <|
 gd ((sadd (sadd v4 (⟨[32]⟩ : Str)) v5).b.length + (⟨[32]⟩ : Str).b.length ≤ 1099511627776) <|
 (Ze5 ((gx a_g.Entries k3).Block)).bind fun v6 =>
 gd ((sadd (sadd (sadd v4 (⟨[32]⟩ : Str)) v5) (⟨[32]⟩ : Str)).b.length + v6.b.length ≤ 1099511627776) <|
 gd (s3.length + 1 ≤ 1099511627776) <|
 some (.next (s3 ++ [(sadd (sadd (sadd (sadd v4 (⟨[32]⟩ : Str)) v5) (⟨[32]⟩ : Str)) v6)]))

def ZcJ (a_g : GGuild) : Option (List Str) :=
 (Zar a_g).bind fun v1 =>
 bif (!v1) then
  some ([] : List Str)
 else
  gd (a_g.Members.length ≤ 4611686018427387904) <|
  (lpO (Zeb a_g) a_g.Members.length (⟨[109, 101, 109, 98, 101, 114, 115]⟩ : Str)).bind fun e1 =>
  gd (a_g.Stock.length ≤ 4611686018427387904) <|
  (lpO (Zed a_g) a_g.Stock.length (⟨[115, 116, 111, 99, 107]⟩ : Str)).bind fun e2 =>
  gd (a_g.Entries.length ≤ 4611686018427387904) <|
  (lpO (Zd2 a_g) a_g.Entries.length ([e1, e2] : List Str)).bind fun e3 =>
  (ZB a_g.Round).bind fun v7 =>
  gd ((⟨[114, 111, 117, 110, 100, 32]⟩ : Str).b.length + v7.b.length ≤ 1099511627776) <|
  gd ((sadd (⟨[114, 111, 117, 110, 100, 32]⟩ : Str) v7).b.length + (⟨[47]⟩ : Str).b.length ≤ 1099511627776) <|
  (Zcc a_g).bind fun v8 =>
  (ZB v8).bind fun v9 =>
  gd ((sadd (sadd (⟨[114, 111, 117, 110, 100, 32]⟩ : Str) v7) (⟨[47]⟩ : Str)).b.length + v9.b.length ≤ 1099511627776) <|
  (ZB a_g.Year).bind fun v10 =>
  gd ((⟨[121, 101, 97, 114, 32]⟩ : Str).b.length + v10.b.length ≤ 1099511627776) <|
  gd (e3.length + 2 ≤ 1099511627776) <|
  some (e3 ++ [(sadd (sadd (sadd (⟨[114, 111, 117, 110, 100, 32]⟩ : Str) v7) (⟨[47]⟩ : Str)) v9), (sadd (⟨[121, 101, 97, 114, 32]⟩ : Str) v10)])

def Zdn (a_text : Str) (k1 : Nat) (s1 : Int × (List GAct)) : Option (Res (Int × (List GAct)) ((List Str) × Bool)) :=
 (
  bif (decide (((k1 : Nat) : Int) < ((a_text.b.length : Nat) : Int))) then
   gd (k1 < a_text.b.length) <|
   some ((((sat_ a_text k1)).toNat : Int) != 10)
  else
   some false).bind fun j1 =>
 bif j1 then
  some (.next (s1.1, s1.2))
 else
  gd (0 ≤ s1.1 ∧ (s1.1).toNat ≤ k1 ∧ k1 ≤ a_text.b.length) <|
  (ZbV (ssub a_text ((s1.1).toNat) k1)).bind fun v1 =>
  bif (v1.2 && (((v1.1.length : Nat) : Int) == 0)) then
   some (.next (((k1 + 1 : Nat) : Int), s1.2))
  else
   (Zbw (ssub a_text ((s1.1).toNat) k1)).bind fun v2 =>
   bif (!v2.2) then
    some (.ret (([] : List Str), false))
   else
    gd (s1.2.length + 1 ≤ 1099511627776) <|
    some (.next (((k1 + 1 : Nat) : Int), (s1.2 ++ [v2.1])))

def ZeF (v4 : GGuild × (List Int)) (k2 : Nat) (s2 : List Str) : Option (Res (List Str) Empty) :=
 (ZB (gx v4.2 k2)).bind fun v5 =>
 gd (s2.length + 1 ≤ 1099511627776) <|
 some (.next (s2 ++ [v5]))

def ZdL (a_text : Str) : Option ((List Str) × Bool) :=
 bif (decide (((a_text.b.length : Nat) : Int) > 20000)) then
  some (([] : List Str), false)
 else
  gd ((a_text.b.length + 1) ≤ 4611686018427387904) <|
  sq (forO (Zdn a_text) (a_text.b.length + 1) 0 (0, ([] : List GAct))) fun e1 =>
  bif (decide (((e1.2.length : Nat) : Int) > 40)) then
   some (([] : List Str), false)
  else
   ZcN.bind fun v3 =>
   (Zgz v3 e1.2).bind fun v4 =>
   gd (v4.2.length ≤ 4611686018427387904) <|
   (lpO (ZeF v4) v4.2.length ([] : List Str)).bind fun e2 =>
   (ZcJ v4.1).bind fun v6 =>
   gd (e2.length + v6.length ≤ 1099511627776) <|
   some ((e2 ++ v6), true)

def Zrn (a_s a_sep : Str) : List Str := (Lib.splitB ⟨a_sep.b.toArray⟩ 0 (Lib.countB ⟨a_s.b.toArray⟩ ⟨a_sep.b.toArray⟩) ⟨a_s.b.toArray⟩).map fun x => ⟨x.data.toList⟩
def strings_Split (a_s : Str) (a_sep : Str) : Option (List Str) :=
 gd (a_s.b.length < 4294967281 ∧ 1 ≤ a_sep.b.length) <|
 some (Zrn a_s a_sep)

def ZbL (a_line : Str) (k1 : Nat) (s1 : (List Str) × Int) : Option (Res ((List Str) × Int) ((List Str) × Bool)) :=
 bif ((decide ((((sat_ a_line k1)).toNat : Int) < 32)) || (decide ((((sat_ a_line k1)).toNat : Int) > 126))) then
  some (.ret (([] : List Str), false))
 else
  (
   bif ((((sat_ a_line k1)).toNat : Int) == 32) then
    (
     bif (decide (s1.2 ≥ 0)) then
      gd (0 ≤ s1.2 ∧ (s1.2).toNat ≤ k1 ∧ k1 ≤ a_line.b.length) <|
      gd (s1.1.length + 1 ≤ 1099511627776) <|
      some (s1.1 ++ [(ssub a_line ((s1.2).toNat) k1)])
     else
      some s1.1).bind fun j3 =>
    some (j3, (-1))
   else
    bif (decide (s1.2 < 0)) then
     some (s1.1, ((k1 : Nat) : Int))
    else
     some (s1.1, s1.2)).bind fun j2 =>
  some (.next (j2.1, j2.2))

def ZcW (a_line : Str) : Option ((List Str) × Bool) :=
 bif (decide (((a_line.b.length : Nat) : Int) > 600)) then
  some (([] : List Str), false)
 else
  gd (a_line.b.length ≤ 4611686018427387904) <|
  sq (forO (ZbL a_line) a_line.b.length 0 (([] : List Str), (-1))) fun e1 =>
  (
   bif (decide (e1.2 ≥ 0)) then
    gd (0 ≤ e1.2 ∧ (e1.2).toNat ≤ a_line.b.length ∧ a_line.b.length ≤ a_line.b.length) <|
    gd (e1.1.length + 1 ≤ 1099511627776) <|
    some (e1.1 ++ [(ssub a_line ((e1.2).toNat) a_line.b.length)])
   else
    some e1.1).bind fun j4 =>
  bif (decide (((j4.length : Nat) : Int) > 24)) then
   some (([] : List Str), false)
  else
   some (j4, true)

def Zt (a_n : Int) (a_a : Int) (a_b : Int) : Option Bool :=
 some ((decide (a_n ≥ a_a)) && (decide (a_n ≤ a_b)))

def strconv_Atoi (a_s : Str) : Option (Int × Bool) :=
 gd (a_s.b.length ≤ 18) <|
 some (match Lib.atoi a_s.b with
  | some n => (n, false)
  | none => (0, true))

def strconv_Itoa (a_i : Int) : Option Str :=
 gd (0 ≤ a_i ∧ a_i < 10) <|
 some (⟨[UInt8.ofNat (48 + a_i.toNat)]⟩ : Str)

def ZeQ (a_i : Int) : Option Str :=
 gd (-9223372036854775808 ≤ a_i ∧ a_i ≤ 9223372036854775807) <|
 some (⟨Lib.itoa a_i⟩ : Str)

def ZcM (a_n : Int) : Option Str :=
 (strconv_Itoa a_n).bind fun v1 =>
 some v1

def Zak (a_n : Int) : Option Str :=
 (ZeQ a_n).bind fun v1 =>
 some v1

def Zb4 (a_s : Str) : Option (Int × Bool) :=
 bif (decide (((a_s.b.length : Nat) : Int) > 10)) then
  some (0, false)
 else
  (strconv_Atoi a_s).bind fun v1 =>
  (
   bif v1.2 then
    some true
   else
    (Zt v1.1 0 1000000000).bind fun v2 =>
    bif (!v2) then
     some true
    else
     (Zak v1.1).bind fun v3 =>
     some (!(seq v3 a_s))).bind fun j1 =>
  bif j1 then
   some (0, false)
  else
   some (v1.1, true)

def ZgZ (a_a : GAct) : Option Bool :=
 bif (a_a.Kind == 1) then
  (
   (Zt a_a.A 1 999).bind fun v1 =>
   bif v1 then
    some (a_a.B == 0)
   else
    some false).bind fun j1 =>
  some j1
 else
  bif (a_a.Kind == 2) then
   (
    (Zt a_a.A 1 999).bind fun v2 =>
    bif v2 then
     (Zt a_a.B 0 9).bind fun v3 =>
     some v3
    else
     some false).bind fun j2 =>
   some j2
  else
   bif ((a_a.Kind == 3) || (a_a.Kind == 6)) then
    (
     (Zt a_a.A 0 9).bind fun v4 =>
     bif v4 then
      some (a_a.B == 0)
     else
      some false).bind fun j4 =>
    some j4
   else
    some (bif (a_a.Kind == 4) then ((a_a.A == 0) && (a_a.B == 0)) else ((a_a.Kind == 5) && ((a_a.A == 0) && (a_a.B == 0))))

def strings_Join (a_elems : List Str) (a_sep : Str) : Option Str :=
 gd (a_elems.length ≤ 140737488355328 ∧ (Lib.join (a_elems.map Str.b) a_sep.b).length ≤ 140737488355328) <|
 some (⟨Lib.join (a_elems.map Str.b) a_sep.b⟩ : Str)

def ZgU (a_list : List Int) (k1 : Nat) (s1 : List Str) : Option (Res (List Str) Empty) :=
 (Zak (gx a_list k1)).bind fun v1 =>
 gd (s1.length + 1 ≤ 1099511627776) <|
 some (.next (s1 ++ [v1]))

def ZbT (a_word : Str) (a_list : List Int) : Option Str :=
 gd (a_list.length ≤ 4611686018427387904) <|
 (lpO (ZgU a_list) a_list.length ([a_word] : List Str)).bind fun e1 =>
 (strings_Join e1 (⟨[32]⟩ : Str)).bind fun v2 =>
 some v2

def ZdK (a_a : GAct) : Option (Str × Bool) :=
 (ZgZ a_a).bind fun v1 =>
 bif (!v1) then
  some ((⟨[]⟩ : Str), false)
 else
  bif (a_a.Kind == 1) then
   (ZbT (⟨[97, 100, 109, 105, 116]⟩ : Str) ([a_a.A] : List Int)).bind fun v2 =>
   some (v2, true)
  else
   bif (a_a.Kind == 2) then
    (ZbT (⟨[115, 117, 98, 109, 105, 116]⟩ : Str) ([a_a.A, a_a.B] : List Int)).bind fun v3 =>
    some (v3, true)
   else
    bif (a_a.Kind == 3) then
     (ZbT (⟨[115, 101, 119]⟩ : Str) ([a_a.A] : List Int)).bind fun v4 =>
     some (v4, true)
    else
     bif (a_a.Kind == 6) then
      (ZbT (⟨[108, 97, 99, 107]⟩ : Str) ([a_a.A] : List Int)).bind fun v5 =>
      some (v5, true)
     else
      bif (a_a.Kind == 4) then
       some ((⟨[114, 111, 117, 110, 100]⟩ : Str), true)
      else
       some ((⟨[121, 101, 97, 114]⟩ : Str), true)

def ZdP (v1 : (List Str) × Bool) (k1 : Nat) (s1 : Int) : Option (Res Int Empty) :=
 gd (0 < v1.1.length) <|
 some (.next (bif (seq (gx ([(⟨[]⟩ : Str), (⟨[97, 100, 109, 105, 116]⟩ : Str), (⟨[115, 117, 98, 109, 105, 116]⟩ : Str), (⟨[115, 101, 119]⟩ : Str), (⟨[114, 111, 117, 110, 100]⟩ : Str), (⟨[121, 101, 97, 114]⟩ : Str), (⟨[108, 97, 99, 107]⟩ : Str)] : List Str) k1) (gx v1.1 0)) then ((k1 : Nat) : Int) else s1))

def Zax (v1 : (List Str) × Bool) (k2 : Nat) (s2 : Int × Int × Int) : Option (Res (Int × Int × Int) (GAct × Bool)) :=
 (Zb4 (gx ((v1.1.drop 1).take (v1.1.length - 1)) k2)).bind fun v3 =>
 bif (!v3.2) then
  some (.ret ((GAct.mk 0 0 0), false))
 else
  some (.next ((bif (((k2 : Nat) : Int) == 0) then (GAct.mk s2.1 v3.1 s2.2.2) else (GAct.mk s2.1 s2.2.1 v3.1)).Kind, (bif (((k2 : Nat) : Int) == 0) then (GAct.mk s2.1 v3.1 s2.2.2) else (GAct.mk s2.1 s2.2.1 v3.1)).A, (bif (((k2 : Nat) : Int) == 0) then (GAct.mk s2.1 v3.1 s2.2.2) else (GAct.mk s2.1 s2.2.1 v3.1)).B))

def Zcw (a_line : Str) : Option (GAct × Bool) :=
 (ZcW a_line).bind fun v1 =>
 (
  bif (!v1.2) then
   some true
  else
   (Zt ((v1.1.length : Nat) : Int) 1 3).bind fun v2 =>
   some (!v2)).bind fun j1 =>
 bif j1 then
  some ((GAct.mk 0 0 0), false)
 else
  gd (([(⟨[]⟩ : Str), (⟨[97, 100, 109, 105, 116]⟩ : Str), (⟨[115, 117, 98, 109, 105, 116]⟩ : Str), (⟨[115, 101, 119]⟩ : Str), (⟨[114, 111, 117, 110, 100]⟩ : Str), (⟨[121, 101, 97, 114]⟩ : Str), (⟨[108, 97, 99, 107]⟩ : Str)] : List Str).length ≤ 4611686018427387904) <|
  (lpO (ZdP v1) (([(⟨[]⟩ : Str), (⟨[97, 100, 109, 105, 116]⟩ : Str), (⟨[115, 117, 98, 109, 105, 116]⟩ : Str), (⟨[115, 101, 119]⟩ : Str), (⟨[114, 111, 117, 110, 100]⟩ : Str), (⟨[121, 101, 97, 114]⟩ : Str), (⟨[108, 97, 99, 107]⟩ : Str)] : List Str).length) 0).bind fun e1 =>
  gd (1 ≤ v1.1.length ∧ v1.1.length ≤ v1.1.length) <|
  gd (((v1.1.drop 1).take (v1.1.length - 1)).length ≤ 4611686018427387904) <|
  sq (forO (Zax v1) (((v1.1.drop 1).take (v1.1.length - 1)).length) 0 (e1, 0, 0)) fun e2 =>
  (ZdK (GAct.mk e2.1 e2.2.1 e2.2.2)).bind fun v4 =>
  (
   bif (!v4.2) then
    some true
   else
    (strings_Join v1.1 (⟨[32]⟩ : Str)).bind fun v5 =>
    some (!(seq v4.1 v5))).bind fun j4 =>
  bif j4 then
   some ((GAct.mk 0 0 0), false)
  else
   some ((GAct.mk e2.1 e2.2.1 e2.2.2), true)

def ZeB (a_list : List GMember) (k1 : Nat) (_ : Unit) : Option (Res Unit Bool) :=
 (
  (Zt ((gx a_list k1).Number) 1 999).bind fun v1 =>
  bif (!v1) then
   some true
  else
   bif (decide (((k1 : Nat) : Int) > 0)) then
    gd (0 ≤ (wr (((k1 : Nat) : Int) - 1)) ∧ (wr (((k1 : Nat) : Int) - 1)) < ((a_list.length : Nat) : Int)) <|
    bif (decide ((gx a_list k1).Number ≤ (gx a_list (((wr (((k1 : Nat) : Int) - 1))).toNat)).Number)) then
     some true
    else
     (Zt ((gx a_list k1).Since) 1900 2999).bind fun v2 =>
     bif (!v2) then
      some true
     else
      (Zt ((gx a_list k1).Paid) (wr ((gx a_list k1).Since - 1)) 2999).bind fun v3 =>
      some (!v3)
   else
    (Zt ((gx a_list k1).Since) 1900 2999).bind fun v4 =>
    bif (!v4) then
     some true
    else
     (Zt ((gx a_list k1).Paid) (wr ((gx a_list k1).Since - 1)) 2999).bind fun v5 =>
     some (!v5)).bind fun j1 =>
 bif j1 then
  some (.ret false)
 else
  some (.next ())

def Zbd (a_list : List GMember) : Option Bool :=
 gd (a_list.length ≤ 4611686018427387904) <|
 sq (forO (ZeB a_list) a_list.length 0 ()) fun _ =>
 some (decide (((a_list.length : Nat) : Int) ≤ 40))

def Zcu (a_list : List Int) (a_a : Int) (a_b : Int) (k1 : Nat) (_ : Unit) : Option (Res Unit Bool) :=
 (Zt (gx a_list k1) a_a a_b).bind fun v1 =>
 bif (!v1) then
  some (.ret false)
 else
  some (.next ())

def ZbG (a_list : List Int) (a_a : Int) (a_b : Int) : Option Bool :=
 gd (a_list.length ≤ 4611686018427387904) <|
 sq (forO (Zcu a_list a_a a_b) a_list.length 0 ()) fun _ =>
 some true

def Zc0 (a_stock : List Int) : Option Bool :=
 (
  bif (((a_stock.length : Nat) : Int) == 6) then
   (ZbG a_stock 0 1000000).bind fun v1 =>
   some v1
  else
   some false).bind fun j1 =>
 some j1

def ZfF (a_list : List GBooking) (k1 : Nat) (_ : Unit) : Option (Res Unit Bool) :=
 (
  (Zt ((gx a_list k1).Day) 0 9999).bind fun v1 =>
  bif (!v1) then
   some true
  else
   bif (decide (((k1 : Nat) : Int) > 0)) then
    gd (0 ≤ (wr (((k1 : Nat) : Int) - 1)) ∧ (wr (((k1 : Nat) : Int) - 1)) < ((a_list.length : Nat) : Int)) <|
    bif (decide ((gx a_list k1).Day < (gx a_list (((wr (((k1 : Nat) : Int) - 1))).toNat)).Day)) then
     some true
    else
     (Zt ((gx a_list k1).From) 0 4).bind fun v2 =>
     bif (!v2) then
      some true
     else
      (Zt ((gx a_list k1).To) 0 4).bind fun v3 =>
      bif (!v3) then
       some true
      else
       bif ((gx a_list k1).From == (gx a_list k1).To) then
        some true
       else
        (Zt ((gx a_list k1).Sum) 1 100000).bind fun v4 =>
        some (!v4)
   else
    (Zt ((gx a_list k1).From) 0 4).bind fun v5 =>
    bif (!v5) then
     some true
    else
     (Zt ((gx a_list k1).To) 0 4).bind fun v6 =>
     bif (!v6) then
      some true
     else
      bif ((gx a_list k1).From == (gx a_list k1).To) then
       some true
      else
       (Zt ((gx a_list k1).Sum) 1 100000).bind fun v7 =>
       some (!v7)).bind fun j1 =>
 bif j1 then
  some (.ret false)
 else
  some (.next ())

def Zdd (a_list : List GBooking) : Option Bool :=
 gd (a_list.length ≤ 4611686018427387904) <|
 sq (forO (ZfF a_list) a_list.length 0 ()) fun _ =>
 some (decide (((a_list.length : Nat) : Int) ≤ 60))

def ZdT (a_a : Int) : Option Bool :=
 (Zt a_a 0 5).bind fun v1 =>
 some v1

def ZaR (a_c : GCell) : Option Bool :=
 (
  (Zt a_c.Split 0 2).bind fun v1 =>
  bif v1 then
   (ZdT a_c.A).bind fun v2 =>
   bif v2 then
    (ZdT a_c.B).bind fun v3 =>
    bif v3 then
     some ((a_c.Split == 0) == (a_c.A == a_c.B))
    else
     some false
   else
    some false
  else
   some false).bind fun j1 =>
 some j1

def Zgn (a_b : GBlock) (k1 : Nat) (_ : Unit) : Option (Res Unit Bool) :=
 (ZaR (gx a_b.Cells k1)).bind fun v2 =>
 bif (!v2) then
  some (.ret false)
 else
  some (.next ())

def ZY (a_b : GBlock) : Option Bool :=
 (
  (Zt a_b.Size 1 4).bind fun v1 =>
  bif (!v1) then
   some true
  else
   some (((a_b.Cells.length : Nat) : Int) != (wr (a_b.Size * a_b.Size)))).bind fun j1 =>
 bif j1 then
  some false
 else
  gd (a_b.Cells.length ≤ 4611686018427387904) <|
  sq (forO (Zgn a_b) a_b.Cells.length 0 ()) fun _ =>
  some true

def Zcl (a_e : GEntry) : Option Bool :=
 (
  (Zt a_e.Owner 0 99).bind fun v1 =>
  bif v1 then
   (Zt a_e.Day 0 9999).bind fun v2 =>
   bif v2 then
    (ZY a_e.Block).bind fun v3 =>
    some v3
   else
    some false
  else
   some false).bind fun j1 =>
 some j1

def Zfz (a_list : List GMember) (a_number : Int) (k1 : Nat) (_ : Unit) : Option (Res Unit Bool) :=
 bif ((gx a_list k1).Number == a_number) then
  some (.ret true)
 else
  some (.next ())

def ZfO (a_list : List GMember) (a_number : Int) : Option Bool :=
 gd (a_list.length ≤ 4611686018427387904) <|
 sq (forO (Zfz a_list a_number) a_list.length 0 ()) fun _ =>
 some false

def ZdC (a_list : List GMember) (a_year : Int) (k1 : Nat) (s1 : List Int) : Option (Res (List Int) Empty) :=
 (
  bif (decide ((gx a_list k1).Paid ≥ a_year)) then
   gd (s1.length + 1 ≤ 1099511627776) <|
   some (s1 ++ [(gx a_list k1).Number])
  else
   some s1).bind fun j1 =>
 some (.next j1)

def Zdl (a_list : List GMember) (a_year : Int) : Option (List Int) :=
 (Zbd a_list).bind fun v1 =>
 bif (!v1) then
  some ([] : List Int)
 else
  gd (a_list.length ≤ 4611686018427387904) <|
  (lpO (ZdC a_list a_year) a_list.length ([] : List Int)).bind fun e1 =>
  some e1

def Zcj (a_g : GGuild) : Option Int :=
 (Zdl a_g.Members a_g.Year).bind fun v1 =>
 (Zt ((v1.length : Nat) : Int) 2 10).bind fun v2 =>
 bif v2 then
  some (wr (((v1.length : Nat) : Int) - 1))
 else
  some 0

def Zgk (a_g : GGuild) (k1 : Nat) (_ : Unit) : Option (Res Unit Bool) :=
 (
  (Zcl (GEntry.mk ((gx a_g.Entries k1).Owner) ((gx a_g.Entries k1).Day) ((gx a_g.Entries k1).Block))).bind fun v4 =>
  bif (!v4) then
   some true
  else
   (ZfO a_g.Members ((gx a_g.Entries k1).Owner)).bind fun v5 =>
   bif (!v5) then
    some true
   else
    bif (decide (((k1 : Nat) : Int) > 0)) then
     gd (0 ≤ (wr (((k1 : Nat) : Int) - 1)) ∧ (wr (((k1 : Nat) : Int) - 1)) < ((a_g.Entries.length : Nat) : Int)) <|
     some (decide ((gx a_g.Entries k1).Day < (gx a_g.Entries (((wr (((k1 : Nat) : Int) - 1))).toNat)).Day))
    else
     some false).bind fun j2 =>
 bif j2 then
  some (.ret false)
 else
  some (.next ())

def Za8 (a_g : GGuild) : Option Bool :=
 (
  (Zbd a_g.Members).bind fun v1 =>
  bif (!v1) then
   some true
  else
   (Zc0 a_g.Stock).bind fun v2 =>
   bif (!v2) then
    some true
   else
    (Zdd a_g.Books).bind fun v3 =>
    bif (!v3) then
     some true
    else
     some (decide (((a_g.Entries.length : Nat) : Int) > 10))).bind fun j1 =>
 bif j1 then
  some false
 else
  gd (a_g.Entries.length ≤ 4611686018427387904) <|
  sq (forO (Zgk a_g) a_g.Entries.length 0 ()) fun _ =>
  (
   (Zt a_g.Year 1900 2999).bind fun v6 =>
   bif v6 then
    (Zcj a_g).bind fun v7 =>
    (Zt a_g.Round 0 v7).bind fun v8 =>
    some v8
   else
    some false).bind fun j3 =>
  some j3

def ZfV (a_year : Int) : Option (GGuild × Bool) :=
 (Za8 (GGuild.mk ([] : List GMember) ([1000, 1000, 1000, 1000, 1000, 1000] : List Int) ([] : List GEntry) ([] : List GBooking) 0 a_year)).bind fun v1 =>
 bif (!v1) then
  some ((GGuild.mk ([] : List GMember) ([] : List Int) ([] : List GEntry) ([] : List GBooking) 0 0), false)
 else
  some ((GGuild.mk ([] : List GMember) ([1000, 1000, 1000, 1000, 1000, 1000] : List Int) ([] : List GEntry) ([] : List GBooking) 0 a_year), true)

def Zbu (a_list : List GMember) : Option (List GMember) :=
 gd (([] : List GMember).length + a_list.length ≤ 1099511627776) <|
 some (([] : List GMember) ++ a_list)

def Zf7 (a_list : List Int) : Option (List Int) :=
 gd (([] : List Int).length + a_list.length ≤ 1099511627776) <|
 some (([] : List Int) ++ a_list)

def Zam (a_b : GBlock) : Option GBlock :=
 gd (([] : List GCell).length + a_b.Cells.length ≤ 1099511627776) <|
 some (GBlock.mk a_b.Size (([] : List GCell) ++ a_b.Cells))

def Zds (a_g : GGuild) (k1 : Nat) (s1 : List GEntry) : Option (Res (List GEntry) Empty) :=
 (Zam ((gx a_g.Entries k1).Block)).bind fun v3 =>
 gd (s1.length + 1 ≤ 1099511627776) <|
 some (.next (s1 ++ [(GEntry.mk ((gx a_g.Entries k1).Owner) ((gx a_g.Entries k1).Day) v3)]))

def Z8 (a_g : GGuild) : Option GGuild :=
 (Zbu a_g.Members).bind fun v1 =>
 (Zf7 a_g.Stock).bind fun v2 =>
 gd (([] : List GBooking).length + a_g.Books.length ≤ 1099511627776) <|
 gd (a_g.Entries.length ≤ 4611686018427387904) <|
 (lpO (Zds a_g) a_g.Entries.length ([] : List GEntry)).bind fun e1 =>
 some (GGuild.mk v1 v2 e1 (([] : List GBooking) ++ a_g.Books) a_g.Round a_g.Year)

def Zhq (a_list : List GMember) (a_number : Int) (s1 : Int) : Option (Res Int Empty) :=
 (
  bif (decide (s1 < ((a_list.length : Nat) : Int))) then
   gd (0 ≤ s1 ∧ s1 < ((a_list.length : Nat) : Int)) <|
   some (decide ((gx a_list ((s1).toNat)).Number < a_number))
  else
   some false).bind fun j1 =>
 bif j1 then
  some (.next (wr (s1 + 1)))
 else
  some (.brk s1)

def ZcX (a_list : List GMember) (a_number : Int) (a_year : Int) : Option ((List GMember) × Bool) :=
 (wlO (Zhq a_list a_number) 18446744073709551616 0).bind fun e1 =>
 gd (0 ≤ e1 ∧ 0 ≤ (e1).toNat ∧ (e1).toNat ≤ a_list.length) <|
 gd (([] : List GMember).length + ((a_list.drop 0).take ((e1).toNat - 0)).length ≤ 1099511627776) <|
 gd ((([] : List GMember) ++ ((a_list.drop 0).take ((e1).toNat - 0))).length + 1 ≤ 1099511627776) <|
 gd (0 ≤ e1 ∧ (e1).toNat ≤ a_list.length ∧ a_list.length ≤ a_list.length) <|
 gd (((([] : List GMember) ++ ((a_list.drop 0).take ((e1).toNat - 0))) ++ [(GMember.mk a_number a_year (wr (a_year - 1)))]).length + ((a_list.drop ((e1).toNat)).take (a_list.length - ((e1).toNat))).length ≤ 1099511627776) <|
 (
  (Zbd a_list).bind fun v1 =>
  bif (!v1) then
   some true
  else
   (Zbd (((([] : List GMember) ++ ((a_list.drop 0).take ((e1).toNat - 0))) ++ [(GMember.mk a_number a_year (wr (a_year - 1)))]) ++ ((a_list.drop ((e1).toNat)).take (a_list.length - ((e1).toNat))))).bind fun v2 =>
   some (!v2)).bind fun j2 =>
 bif j2 then
  (Zbu a_list).bind fun v3 =>
  some (v3, false)
 else
  some ((((([] : List GMember) ++ ((a_list.drop 0).take ((e1).toNat - 0))) ++ [(GMember.mk a_number a_year (wr (a_year - 1)))]) ++ ((a_list.drop ((e1).toNat)).take (a_list.length - ((e1).toNat)))), true)

def Zgu (a_number : Int) (a_years : Int) (k1 : Nat) (s1 : (List GMember) × Bool) : Option (Res ((List GMember) × Bool) Empty) :=
 gd (k1 < s1.1.length) <|
 some (.next ((bif ((gx s1.1 k1).Number == a_number) then (s1.1.set k1 (GMember.mk ((gx s1.1 k1).Number) ((gx s1.1 k1).Since) (wr ((gx s1.1 k1).Paid + a_years)))) else s1.1), (((gx s1.1 k1).Number == a_number) || s1.2)))

def ZgK (a_list : List GMember) (a_number : Int) (a_years : Int) : Option ((List GMember) × Bool) :=
 (Zbu a_list).bind fun v1 =>
 (
  (Zbd a_list).bind fun v2 =>
  bif (!v2) then
   some true
  else
   (Zt a_years 1 10).bind fun v3 =>
   some (!v3)).bind fun j1 =>
 bif j1 then
  some (v1, false)
 else
  gd (v1.length ≤ 4611686018427387904) <|
  (lpO (Zgu a_number a_years) v1.length (v1, false)).bind fun e1 =>
  (
   bif (!e1.2) then
    some true
   else
    (Zbd e1.1).bind fun v4 =>
    some (!v4)).bind fun j3 =>
  bif j3 then
   (Zbu a_list).bind fun v5 =>
   some (v5, false)
  else
   some (e1.1, true)

def ZgH (a_list : List GBooking) (a_b : GBooking) : Option ((List GBooking) × Bool) :=
 gd (([] : List GBooking).length + a_list.length ≤ 1099511627776) <|
 gd ((([] : List GBooking) ++ a_list).length + 1 ≤ 1099511627776) <|
 (
  (Zdd a_list).bind fun v1 =>
  bif (!v1) then
   some true
  else
   (Zdd ((([] : List GBooking) ++ a_list) ++ [a_b])).bind fun v2 =>
   some (!v2)).bind fun j1 =>
 bif j1 then
  some ((([] : List GBooking) ++ a_list), false)
 else
  some (((([] : List GBooking) ++ a_list) ++ [a_b]), true)

def Zaq (a_g : GGuild) (a_next : GGuild) (a_ok : Bool) : Option (GGuild × Bool) :=
 (
  (Za8 a_g).bind fun v1 =>
  bif (!v1) then
   some true
  else
   bif (!a_ok) then
    some true
   else
    (Za8 a_next).bind fun v2 =>
    some (!v2)).bind fun j1 =>
 bif j1 then
  (Z8 a_g).bind fun v3 =>
  some (v3, false)
 else
  some (a_next, true)

def Zdt (a_g : GGuild) (a_number : Int) : Option (GGuild × Bool) :=
 (Z8 a_g).bind fun v1 =>
 (
  bif (decide (((a_g.Books.length : Nat) : Int) > 0)) then
   gd (0 ≤ (wr (((a_g.Books.length : Nat) : Int) - 1)) ∧ (wr (((a_g.Books.length : Nat) : Int) - 1)) < ((a_g.Books.length : Nat) : Int)) <|
   some ((gx a_g.Books (((wr (((a_g.Books.length : Nat) : Int) - 1))).toNat)).Day)
  else
   some 0).bind fun j1 =>
 (ZcX v1.Members a_number a_g.Year).bind fun v2 =>
 (ZgK v2.1 a_number 1).bind fun v3 =>
 (ZgH v1.Books (GBooking.mk j1 0 1 20)).bind fun v4 =>
 (
  bif v2.2 then
   bif v3.2 then
    bif v4.2 then
     (Zaq a_g (GGuild.mk v3.1 v1.Stock v1.Entries v4.1 v1.Round v1.Year) (a_g.Round == 0)).bind fun v5 =>
     some (v5.2, v5.1)
    else
     (Zaq a_g (GGuild.mk v3.1 v1.Stock v1.Entries v4.1 v1.Round v1.Year) false).bind fun v6 =>
     some (v6.2, v6.1)
   else
    (Zaq a_g (GGuild.mk v3.1 v1.Stock v1.Entries v4.1 v1.Round v1.Year) false).bind fun v7 =>
    some (v7.2, v7.1)
  else
   (Zaq a_g (GGuild.mk v3.1 v1.Stock v1.Entries v4.1 v1.Round v1.Year) false).bind fun v8 =>
   some (v8.2, v8.1)).bind fun j2 =>
 some ((j2.2), j2.1)

def Zgd (k1 : Nat) (s1 : (List GMember) × (List Int) × (List GEntry) × (List GBooking) × Int × Int) : Option (Res ((List GMember) × (List Int) × (List GEntry) × (List GBooking) × Int × Int) Empty) :=
 (Zdt (GGuild.mk s1.1 s1.2.1 s1.2.2.1 s1.2.2.2.1 s1.2.2.2.2.1 s1.2.2.2.2.2) (((k1 + 1) : Nat) : Int)).bind fun v2 =>
 some (.next (v2.1.Members, v2.1.Stock, v2.1.Entries, v2.1.Books, v2.1.Round, v2.1.Year))

def ZcT  : Option GGuild :=
 (ZfV 2020).bind fun v1 =>
 (lpO Zgd 3 (v1.1.Members, v1.1.Stock, v1.1.Entries, v1.1.Books, v1.1.Round, v1.1.Year)).bind fun e1 =>
 some (GGuild.mk e1.1 e1.2.1 e1.2.2.1 e1.2.2.2.1 e1.2.2.2.2.1 e1.2.2.2.2.2)

def ZcL (a_a : Int) : Option GCell :=
 (ZdT a_a).bind fun v1 =>
 bif (!v1) then
  some (GCell.mk 0 0 0)
 else
  some (GCell.mk 0 a_a a_a)

def Zbf (a_split : Int) (a_a : Int) (a_b : Int) : Option GCell :=
 bif (a_a == a_b) then
  (ZcL a_a).bind fun v1 =>
  some v1
 else
  (ZaR (GCell.mk a_split a_a a_b)).bind fun v2 =>
  bif (!v2) then
   some (GCell.mk 0 0 0)
  else
   some (GCell.mk a_split a_a a_b)

def Zg0  : Option GBlock :=
 (ZcL 1).bind fun v1 =>
 (Zbf 1 0 1).bind fun v2 =>
 (Zbf 2 1 0).bind fun v3 =>
 (Zbf 2 0 1).bind fun v4 =>
 (Zbf 1 1 0).bind fun v5 =>
 some (GBlock.mk 3 ([v2, v1, v3, v1, v1, v1, v4, v1, v5] : List GCell))

def Zd1 (a_x : Int) (a_y : Int) (c_p2 : Int) : Option GCell :=
 bif (decide ((wr ((wr (2 * a_y)) + a_x)) < (c_p2.tmod 5))) then
  (Zbf 1 0 1).bind fun v1 =>
  some v1
 else
  (ZcL (wr ((wr (c_p2.tdiv 5)) + 1))).bind fun v2 =>
  some v2

def Zh7 (a_one : Int → Int → Option GCell) (k1 : Nat) (k2 : Nat) (s2 : List GCell) : Option (Res (List GCell) Empty) :=
 (a_one ((k2 : Nat) : Int) ((k1 : Nat) : Int)).bind fun v1 =>
 gd (s2.length + 1 ≤ 1099511627776) <|
 some (.next (s2 ++ [v1]))

def Zh8 (a_size : Int) (a_one : Int → Int → Option GCell) (k1 : Nat) (s1 : List GCell) : Option (Res (List GCell) Empty) :=
 (lpO (Zh7 a_one k1) ((a_size).toNat) s1).bind fun e2 =>
 some (.next e2)

def Zff (a_size : Int) (a_one : Int → Int → Option GCell) : Option GBlock :=
 gd ((a_size).toNat ≤ 4611686018427387904) <|
 (lpO (Zh8 a_size a_one) ((a_size).toNat) ([] : List GCell)).bind fun e1 =>
 some (GBlock.mk a_size e1)

def ZdO (a_n : Int) : Option GBlock :=
 bif (a_n == 0) then
  Zg0.bind fun v1 =>
  some v1
 else
  (Zt a_n 1 9).bind fun v2 =>
  bif (!v2) then
   some (GBlock.mk 0 ([] : List GCell))
  else
   (Zff 2 (fun z0 z1 => Zd1 z0 z1 a_n)).bind fun v3 =>
   some v3

def ZcZ (a_b : GBlock) (a_x : Int) (a_y : Int) : Option Bool :=
 (
  (ZY a_b).bind fun v1 =>
  bif v1 then
   (Zt a_x 0 (wr (a_b.Size - 1))).bind fun v2 =>
   bif v2 then
    (Zt a_y 0 (wr (a_b.Size - 1))).bind fun v3 =>
    some v3
   else
    some false
  else
   some false).bind fun j1 =>
 some j1

def ZdE (a_b : GBlock) (a_x : Int) (a_y : Int) : Option GCell :=
 (ZcZ a_b a_x a_y).bind fun v1 =>
 bif (!v1) then
  some (GCell.mk 0 0 0)
 else
  gd (0 ≤ (wr ((wr (a_y * a_b.Size)) + a_x)) ∧ (wr ((wr (a_y * a_b.Size)) + a_x)) < ((a_b.Cells.length : Nat) : Int)) <|
  some (gx a_b.Cells (((wr ((wr (a_y * a_b.Size)) + a_x))).toNat))

def Zen (a_c : GCell) : Option GCell :=
 (ZaR a_c).bind fun v1 =>
 bif (!v1) then
  some (GCell.mk 0 0 0)
 else
  bif (a_c.Split == 0) then
   some a_c
  else
   some (GCell.mk (wr (3 - a_c.Split)) a_c.B a_c.A)

def ZcE (a_x : Int) (a_y : Int) (c_p2 : GBlock) : Option GCell :=
 (ZdE c_p2 (wr ((wr (c_p2.Size - 1)) - a_x)) a_y).bind fun v1 =>
 (Zen v1).bind fun v2 =>
 some v2

def ZdS (a_b : GBlock) : Option GBlock :=
 (ZY a_b).bind fun v1 =>
 bif (!v1) then
  some (GBlock.mk 0 ([] : List GCell))
 else
  (Zff a_b.Size (fun z0 z1 => ZcE z0 z1 a_b)).bind fun v2 =>
  some v2

def ZfW (a_c : GCell) : Option GCell :=
 (ZaR a_c).bind fun v1 =>
 bif (!v1) then
  some (GCell.mk 0 0 0)
 else
  bif (a_c.Split == 1) then
   some (GCell.mk 2 a_c.B a_c.A)
  else
   bif (a_c.Split == 2) then
    some (GCell.mk 1 a_c.A a_c.B)
   else
    some a_c

def Zdf (a_x : Int) (a_y : Int) (c_p2 : GBlock) : Option GCell :=
 (ZdE c_p2 a_y (wr ((wr (c_p2.Size - 1)) - a_x))).bind fun v1 =>
 (ZfW v1).bind fun v2 =>
 some v2

def ZeU (a_b : GBlock) : Option GBlock :=
 (ZY a_b).bind fun v1 =>
 bif (!v1) then
  some (GBlock.mk 0 ([] : List GCell))
 else
  (Zff a_b.Size (fun z0 z1 => Zdf z0 z1 a_b)).bind fun v2 =>
  some v2

def Zfv (_ : Nat) (s1 : Int × (List GCell)) : Option (Res (Int × (List GCell)) Empty) :=
 (ZeU (GBlock.mk s1.1 s1.2)).bind fun v5 =>
 some (.next (v5.Size, v5.Cells))

def ZfR (a_b : GBlock) (a_k : Int) : Option GBlock :=
 (
  (ZY a_b).bind fun v1 =>
  bif (!v1) then
   some true
  else
   (Zt a_k 0 7).bind fun v2 =>
   some (!v2)).bind fun j1 =>
 bif j1 then
  some (GBlock.mk 0 ([] : List GCell))
 else
  (Zam a_b).bind fun v3 =>
  (
   bif (decide (a_k ≥ 4)) then
    (ZdS a_b).bind fun v4 =>
    some v4
   else
    some v3).bind fun j2 =>
  gd (((a_k.tmod 4)).toNat ≤ 4611686018427387904) <|
  (lpO Zfv (((a_k.tmod 4)).toNat) ((j2).Size, (j2).Cells)).bind fun e1 =>
  some (GBlock.mk e1.1 e1.2)

def ZhF (a_b : GBlock) (k1 : Nat) (s1 : List GBlock) : Option (Res (List GBlock) Empty) :=
 (ZfR a_b ((k1 : Nat) : Int)).bind fun v1 =>
 gd (s1.length + 1 ≤ 1099511627776) <|
 some (.next (s1 ++ [v1]))

def Zhm (a_b : GBlock) : Option (List GBlock) :=
 (lpO (ZhF a_b) 8 ([] : List GBlock)).bind fun e1 =>
 some e1

def Zgw (a_list : List Int) (a_n : Int) (k1 : Nat) (_ : Unit) : Option (Res Unit Int) :=
 bif ((gx a_list k1) == a_n) then
  some (.ret ((k1 : Nat) : Int))
 else
  some (.next ())

def ZdY (a_list : List Int) (a_n : Int) : Option Int :=
 gd (a_list.length ≤ 4611686018427387904) <|
 sq (forO (Zgw a_list a_n) a_list.length 0 ()) fun _ =>
 some (-1)

def ZiQ (a_list : List Int) (a_n : Int) (k1 : Nat) (s1 : (List Int) × Bool) : Option (Res ((List Int) × Bool) Empty) :=
 (
  bif ((!s1.2) && (decide (a_n ≤ (gx a_list k1)))) then
   gd (s1.1.length + 1 ≤ 1099511627776) <|
   some ((s1.1 ++ [a_n]), true)
  else
   some (s1.1, s1.2)).bind fun j2 =>
 gd (j2.1.length + 1 ≤ 1099511627776) <|
 some (.next ((j2.1 ++ [(gx a_list k1)]), j2.2))

def ZjS (a_list : List Int) (a_n : Int) : Option (List Int) :=
 gd (a_list.length ≤ 4611686018427387904) <|
 (lpO (ZiQ a_list a_n) a_list.length (([] : List Int), false)).bind fun e1 =>
 (
  bif (!e1.2) then
   gd (e1.1.length + 1 ≤ 1099511627776) <|
   some (e1.1 ++ [a_n])
  else
   some e1.1).bind fun j3 =>
 some j3

def Zg1 (a_list : List Int) (k1 : Nat) (s1 : List Int) : Option (Res (List Int) Empty) :=
 (ZjS s1 (gx a_list k1)).bind fun v1 =>
 some (.next v1)

def Zhz (a_list : List Int) : Option (List Int) :=
 gd (a_list.length ≤ 4611686018427387904) <|
 (lpO (Zg1 a_list) a_list.length ([] : List Int)).bind fun e1 =>
 some e1

def ZfA (a_list : List Int) (k1 : Nat) (_ : Unit) : Option (Res Unit Bool) :=
 (
  bif (decide (((k1 : Nat) : Int) > 0)) then
   gd (0 ≤ (wr (((k1 : Nat) : Int) - 1)) ∧ (wr (((k1 : Nat) : Int) - 1)) < ((a_list.length : Nat) : Int)) <|
   some (decide ((gx a_list k1) ≤ (gx a_list (((wr (((k1 : Nat) : Int) - 1))).toNat))))
  else
   some false).bind fun j1 =>
 bif j1 then
  some (.ret false)
 else
  some (.next ())

def ZfX (a_list : List Int) (a_a : Int) (a_b : Int) : Option Bool :=
 gd (a_list.length ≤ 4611686018427387904) <|
 sq (forO (ZfA a_list) a_list.length 0 ()) fun _ =>
 (ZbG a_list a_a a_b).bind fun v1 =>
 some v1

def Zew (a_l : List Int) : Option Bool :=
 (
  bif (((a_l.length : Nat) : Int) == 6) then
   (Zhz a_l).bind fun v1 =>
   (ZfX v1 0 5).bind fun v2 =>
   some v2
  else
   some false).bind fun j1 =>
 some j1

def Zfu (a_l : List Int) (k1 : Nat) (s1 : List Int) : Option (Res (List Int) Empty) :=
 gd (0 ≤ (gx a_l k1) ∧ (gx a_l k1) < ((s1.length : Nat) : Int)) <|
 some (.next (s1.set (((gx a_l k1)).toNat) ((k1 : Nat) : Int)))

def ZfQ (a_l : List Int) : Option (List Int) :=
 (Zew a_l).bind fun v1 =>
 bif (!v1) then
  some ([] : List Int)
 else
  gd (a_l.length ≤ 4611686018427387904) <|
  (lpO (Zfu a_l) a_l.length (List.replicate 6 (0 : Int))).bind fun e1 =>
  some e1

def ZfB (a_b : GBlock) (k1 : Nat) (k2 : Nat) (s2 : List Int) : Option (Res (List Int) Empty) :=
 (ZdY s2 (gx ([(gx a_b.Cells k1).A, (gx a_b.Cells k1).B] : List Int) k2)).bind fun v2 =>
 (
  bif (decide (v2 < 0)) then
   gd (s2.length + 1 ≤ 1099511627776) <|
   some (s2 ++ [(gx ([(gx a_b.Cells k1).A, (gx a_b.Cells k1).B] : List Int) k2)])
  else
   some s2).bind fun j1 =>
 some (.next j1)

def ZfD (a_b : GBlock) (k1 : Nat) (s1 : List Int) : Option (Res (List Int) Empty) :=
 gd (([(gx a_b.Cells k1).A, (gx a_b.Cells k1).B] : List Int).length ≤ 4611686018427387904) <|
 (lpO (ZfB a_b k1) (([(gx a_b.Cells k1).A, (gx a_b.Cells k1).B] : List Int).length) s1).bind fun e2 =>
 some (.next e2)

def Zfx (k3 : Nat) (s3 : List Int) : Option (Res (List Int) Empty) :=
 (ZdY s3 ((k3 : Nat) : Int)).bind fun v3 =>
 (
  bif (decide (v3 < 0)) then
   gd (s3.length + 1 ≤ 1099511627776) <|
   some (s3 ++ [((k3 : Nat) : Int)])
  else
   some s3).bind fun j2 =>
 some (.next j2)

def ZfS (a_b : GBlock) : Option (List Int) :=
 (ZY a_b).bind fun v1 =>
 bif (!v1) then
  some ([] : List Int)
 else
  gd (a_b.Cells.length ≤ 4611686018427387904) <|
  (lpO (ZfD a_b) a_b.Cells.length ([] : List Int)).bind fun e1 =>
  (lpO Zfx 6 e1).bind fun e3 =>
  (ZfQ e3).bind fun v4 =>
  some v4

def Zf1 (a_l : List Int) : Option Bool :=
 (
  bif (((a_l.length : Nat) : Int) == 6) then
   (ZbG a_l 0 5).bind fun v1 =>
   some v1
  else
   some false).bind fun j1 =>
 some j1

def Zdk (a_c : GCell) (a_l : List Int) : Option GCell :=
 (
  (ZaR a_c).bind fun v1 =>
  bif (!v1) then
   some true
  else
   (Zf1 a_l).bind fun v2 =>
   some (!v2)).bind fun j1 =>
 bif j1 then
  some (GCell.mk 0 0 0)
 else
  gd (0 ≤ a_c.A ∧ a_c.A < ((a_l.length : Nat) : Int)) <|
  gd (0 ≤ a_c.B ∧ a_c.B < ((a_l.length : Nat) : Int)) <|
  (Zbf a_c.Split (gx a_l ((a_c.A).toNat)) (gx a_l ((a_c.B).toNat))).bind fun v3 =>
  some v3

def Zb2 (a_x : Int) (a_y : Int) (c_p2 : GBlock) (c_p3 : List Int) : Option GCell :=
 (ZdE c_p2 a_x a_y).bind fun v1 =>
 (Zdk v1 c_p3).bind fun v2 =>
 some v2

def ZbZ (a_b : GBlock) (a_l : List Int) : Option (GBlock × Bool) :=
 (
  (ZY a_b).bind fun v1 =>
  bif (!v1) then
   some true
  else
   (Zf1 a_l).bind fun v2 =>
   some (!v2)).bind fun j1 =>
 bif j1 then
  (Zam a_b).bind fun v3 =>
  some (v3, false)
 else
  (Zff a_b.Size (fun z0 z1 => Zb2 z0 z1 a_b a_l)).bind fun v4 =>
  some (v4, true)

def Zic (a_b : GBlock) : Option GBlock :=
 (ZfS a_b).bind fun v1 =>
 (ZbZ a_b v1).bind fun v2 =>
 some v2.1

def Zem (a_c : GCell) : Option Str :=
 (ZaR a_c).bind fun v1 =>
 bif (!v1) then
  some (⟨[]⟩ : Str)
 else
  gd (0 ≤ a_c.Split ∧ a_c.Split < ((([(⟨[]⟩ : Str), (⟨[47]⟩ : Str), (⟨[92]⟩ : Str)] : List Str).length : Nat) : Int)) <|
  bif (seq (gx ([(⟨[]⟩ : Str), (⟨[47]⟩ : Str), (⟨[92]⟩ : Str)] : List Str) ((a_c.Split).toNat)) (⟨[]⟩ : Str)) then
   (ZcM a_c.A).bind fun v2 =>
   some v2
  else
   (ZcM a_c.A).bind fun v3 =>
   gd (v3.b.length + (gx ([(⟨[]⟩ : Str), (⟨[47]⟩ : Str), (⟨[92]⟩ : Str)] : List Str) ((a_c.Split).toNat)).b.length ≤ 1099511627776) <|
   (ZcM a_c.B).bind fun v4 =>
   gd ((sadd v3 (gx ([(⟨[]⟩ : Str), (⟨[47]⟩ : Str), (⟨[92]⟩ : Str)] : List Str) ((a_c.Split).toNat))).b.length + v4.b.length ≤ 1099511627776) <|
   some (sadd (sadd v3 (gx ([(⟨[]⟩ : Str), (⟨[47]⟩ : Str), (⟨[92]⟩ : Str)] : List Str) ((a_c.Split).toNat))) v4)

def Zg4 (a_b : GBlock) (k1 : Nat) (s1 : Str) : Option (Res Str Empty) :=
 (Zem (gx a_b.Cells k1)).bind fun v2 =>
 gd (v2.b.length + (⟨[59]⟩ : Str).b.length ≤ 1099511627776) <|
 gd (s1.b.length + (sadd v2 (⟨[59]⟩ : Str)).b.length ≤ 1099511627776) <|
 some (.next (sadd s1 (sadd v2 (⟨[59]⟩ : Str))))

def Zf3 (a_b : GBlock) : Option Str :=
 (ZY a_b).bind fun v1 =>
 bif (!v1) then
  some (⟨[]⟩ : Str)
 else
  gd (a_b.Cells.length ≤ 4611686018427387904) <|
  (lpO (Zg4 a_b) a_b.Cells.length (⟨[]⟩ : Str)).bind fun e1 =>
  some e1

def ZhG (a_list : List GBlock) (k1 : Nat) (s1 : Nat) : Option (Res Nat Empty) :=
 gd (s1 < a_list.length) <|
 (Zf3 (gx a_list k1)).bind fun v1 =>
 (Zf3 (gx a_list s1)).bind fun v2 =>
 some (.next (bif slt v1 v2 then k1 else s1))

def Zip (a_list : List GBlock) : Option GBlock :=
 gd (0 < a_list.length) <|
 gd (a_list.length ≤ 4611686018427387904) <|
 (lpO (ZhG a_list) a_list.length 0).bind fun e1 =>
 gd (e1 < a_list.length) <|
 some (gx a_list e1)

def Zdw (v2 : List GBlock) (k1 : Nat) (s1 : List GBlock) : Option (Res (List GBlock) Empty) :=
 (Zic (gx v2 k1)).bind fun v3 =>
 gd (s1.length + 1 ≤ 1099511627776) <|
 some (.next (s1 ++ [v3]))

def Zcm (a_b : GBlock) : Option GBlock :=
 (ZY a_b).bind fun v1 =>
 bif (!v1) then
  some (GBlock.mk 0 ([] : List GCell))
 else
  (Zhm a_b).bind fun v2 =>
  gd (v2.length ≤ 4611686018427387904) <|
  (lpO (Zdw v2) v2.length ([] : List GBlock)).bind fun e1 =>
  (Zip e1).bind fun v4 =>
  some v4

def ZeN (a_b : GBlock) (a_d : GBlock) (k1 : Nat) (_ : Unit) : Option (Res Unit Bool) :=
 gd (k1 < a_d.Cells.length) <|
 bif (!(beqs [(gx a_b.Cells k1).Split, (gx a_b.Cells k1).A, (gx a_b.Cells k1).B] [(gx a_d.Cells k1).Split, (gx a_d.Cells k1).A, (gx a_d.Cells k1).B])) then
  some (.ret false)
 else
  some (.next ())

def ZeX (a_b : GBlock) (a_d : GBlock) : Option Bool :=
 bif ((a_b.Size != a_d.Size) || (((a_b.Cells.length : Nat) : Int) != ((a_d.Cells.length : Nat) : Int))) then
  some false
 else
  gd (a_b.Cells.length ≤ 4611686018427387904) <|
  sq (forO (ZeN a_b a_d) a_b.Cells.length 0 ()) fun _ =>
  some true

def Zce (a_b : GBlock) (a_d : GBlock) : Option Bool :=
 (
  (ZY a_b).bind fun v1 =>
  bif v1 then
   (ZY a_d).bind fun v2 =>
   bif v2 then
    (Zcm a_b).bind fun v3 =>
    (Zcm a_d).bind fun v4 =>
    (ZeX v3 v4).bind fun v5 =>
    some v5
   else
    some false
  else
   some false).bind fun j1 =>
 some j1

def ZcO (a_b : GBlock) (a_d : GBlock) : Option Bool :=
 (
  (ZY a_b).bind fun v1 =>
  bif v1 then
   (ZY a_d).bind fun v2 =>
   bif v2 then
    some (a_b.Size == a_d.Size)
   else
    some false
  else
   some false).bind fun j1 =>
 some j1

def ZfZ (a_c : GCell) (a_a : Int) : Option Int :=
 (
  (ZaR a_c).bind fun v1 =>
  bif v1 then
   some (a_c.A == a_a)
  else
   some false).bind fun j1 =>
 (
  (ZaR a_c).bind fun v2 =>
  bif v2 then
   some (a_c.B == a_a)
  else
   some false).bind fun j3 =>
 some (bif j3 then (wr ((bif j1 then (wr (0 + 2)) else 0) + 2)) else (bif j1 then (wr (0 + 2)) else 0))

def Zhj (a_b : GBlock) (a_a : Int) (k1 : Nat) (s1 : Int) : Option (Res Int Empty) :=
 (ZfZ (gx a_b.Cells k1) a_a).bind fun v2 =>
 some (.next (wr (s1 + v2)))

def Zf6 (a_b : GBlock) (a_a : Int) : Option Int :=
 (ZY a_b).bind fun v1 =>
 bif (!v1) then
  some 0
 else
  gd (a_b.Cells.length ≤ 4611686018427387904) <|
  (lpO (Zhj a_b a_a) a_b.Cells.length 0).bind fun e1 =>
  some e1

def Zft (a_b : GBlock) (k1 : Nat) (s1 : List Int) : Option (Res (List Int) Empty) :=
 (Zf6 a_b ((k1 : Nat) : Int)).bind fun v2 =>
 (
  bif (decide (v2 > 0)) then
   gd (s1.length + 1 ≤ 1099511627776) <|
   some (s1 ++ [((k1 : Nat) : Int)])
  else
   some s1).bind fun j1 =>
 some (.next j1)

def Zc9 (a_b : GBlock) : Option (List Int) :=
 (ZY a_b).bind fun v1 =>
 bif (!v1) then
  some ([] : List Int)
 else
  (lpO (Zft a_b) 6 ([] : List Int)).bind fun e1 =>
  some e1

def Zkf (k1 : Nat) (s1 : Int) : Option (Res Int Empty) :=
 some (.next (wr (s1 * (wr (6 - ((k1 : Nat) : Int))))))

def Zcb (a_n : Int) : Option Int :=
 gd ((a_n).toNat ≤ 4611686018427387904) <|
 (lpO Zkf ((a_n).toNat) 1).bind fun e1 =>
 some e1

def Za5 (a_b : GBlock) : Option Int :=
 (ZY a_b).bind fun v1 =>
 bif (!v1) then
  some 0
 else
  (Zc9 a_b).bind fun v2 =>
  (Zcb ((v2.length : Nat) : Int)).bind fun v3 =>
  some v3

def ZmC (k1 : Nat) (s1 : List Int) : Option (Res (List Int) Empty) :=
 gd (s1.length + 1 ≤ 1099511627776) <|
 some (.next (s1 ++ [((k1 : Nat) : Int)]))

def Zkg (a_n : Int) : Option (List Int) :=
 gd ((a_n).toNat ≤ 4611686018427387904) <|
 (lpO ZmC ((a_n).toNat) ([] : List Int)).bind fun e1 =>
 some e1

def ZbX (v3 : List Int) (k1 : Nat) (s1 : Int × (List Int) × (List Int)) : Option (Res (Int × (List Int) × (List Int)) Empty) :=
 (Zcb ((v3.length : Nat) : Int)).bind fun v5 =>
 (Zcb ((k1 + 1 : Nat) : Int)).bind fun v6 =>
 gd (v6 ≠ 0) <|
 gd ((wr (v5.tdiv v6)) ≠ 0) <|
 gd (0 ≤ (wr (s1.1.tdiv (wr (v5.tdiv v6)))) ∧ (wr (s1.1.tdiv (wr (v5.tdiv v6)))) < ((s1.2.1.length : Nat) : Int)) <|
 gd (0 ≤ (gx v3 k1) ∧ (gx v3 k1) < ((s1.2.2.length : Nat) : Int)) <|
 gd (0 ≤ (wr (s1.1.tdiv (wr (v5.tdiv v6)))) ∧ 0 ≤ ((wr (s1.1.tdiv (wr (v5.tdiv v6))))).toNat ∧ ((wr (s1.1.tdiv (wr (v5.tdiv v6))))).toNat ≤ s1.2.1.length) <|
 gd (0 ≤ (wr ((wr (s1.1.tdiv (wr (v5.tdiv v6)))) + 1)) ∧ ((wr ((wr (s1.1.tdiv (wr (v5.tdiv v6)))) + 1))).toNat ≤ s1.2.1.length ∧ s1.2.1.length ≤ s1.2.1.length) <|
 gd (([] : List Int).length + ((s1.2.1.drop 0).take (((wr (s1.1.tdiv (wr (v5.tdiv v6))))).toNat - 0)).length ≤ 1099511627776) <|
 gd ((([] : List Int) ++ ((s1.2.1.drop 0).take (((wr (s1.1.tdiv (wr (v5.tdiv v6))))).toNat - 0))).length + ((s1.2.1.drop (((wr ((wr (s1.1.tdiv (wr (v5.tdiv v6)))) + 1))).toNat)).take (s1.2.1.length - (((wr ((wr (s1.1.tdiv (wr (v5.tdiv v6)))) + 1))).toNat))).length ≤ 1099511627776) <|
 some (.next ((s1.1.tmod (wr (v5.tdiv v6))), ((([] : List Int) ++ ((s1.2.1.drop 0).take (((wr (s1.1.tdiv (wr (v5.tdiv v6))))).toNat - 0))) ++ ((s1.2.1.drop (((wr ((wr (s1.1.tdiv (wr (v5.tdiv v6)))) + 1))).toNat)).take (s1.2.1.length - (((wr ((wr (s1.1.tdiv (wr (v5.tdiv v6)))) + 1))).toNat)))), (s1.2.2.set (((gx v3 k1)).toNat) (gx s1.2.1 (((wr (s1.1.tdiv (wr (v5.tdiv v6))))).toNat)))))

def Zep (a_b : GBlock) (a_index : Int) : Option (GBlock × Bool) :=
 (Za5 a_b).bind fun v1 =>
 (Zt a_index 0 (wr (v1 - 1))).bind fun v2 =>
 bif (!v2) then
  some ((GBlock.mk 0 ([] : List GCell)), false)
 else
  (Zc9 a_b).bind fun v3 =>
  (Zkg 6).bind fun v4 =>
  gd (v3.length ≤ 4611686018427387904) <|
  (lpO (ZbX v3) v3.length (a_index, v4, (List.replicate 6 (0 : Int)))).bind fun e1 =>
  (ZbZ a_b e1.2.2).bind fun v7 =>
  some (v7.1, v7.2)

def Zfd (a_c : GCell) (a_side : Int) : Option Int :=
 (
  (ZaR a_c).bind fun v1 =>
  bif (!v1) then
   some true
  else
   (Zt a_side 0 3).bind fun v2 =>
   some (!v2)).bind fun j1 =>
 bif j1 then
  some (-1)
 else
  bif ((a_side == 0) || (bif (a_c.Split == 1) then ((a_side == 1) || ((a_c.Split == 2) && (a_side == 3))) else ((a_c.Split == 2) && (a_side == 3)))) then
   some a_c.A
  else
   some a_c.B

def Zdz (a_c : GCell) (a_d : GCell) (k1 : Nat) (s1 : Int) : Option (Res Int Empty) :=
 (Zfd a_c ((k1 : Nat) : Int)).bind fun v3 =>
 (Zfd a_d ((k1 : Nat) : Int)).bind fun v4 =>
 some (.next (bif (v3 == v4) then (wr (s1 + 1)) else s1))

def Zdq (a_c : GCell) (a_d : GCell) : Option Int :=
 (
  (ZaR a_c).bind fun v1 =>
  bif (!v1) then
   some true
  else
   (ZaR a_d).bind fun v2 =>
   some (!v2)).bind fun j1 =>
 bif j1 then
  some 0
 else
  (lpO (Zdz a_c a_d) 4 0).bind fun e1 =>
  some e1

def Zfn (a_b : GBlock) (a_d : GBlock) (k1 : Nat) (s1 : Int) : Option (Res Int Empty) :=
 gd (k1 < a_d.Cells.length) <|
 (Zdq (gx a_b.Cells k1) (gx a_d.Cells k1)).bind fun v2 =>
 some (.next (wr (s1 + v2)))

def ZfP (a_b : GBlock) (a_d : GBlock) : Option Int :=
 (ZcO a_b a_d).bind fun v1 =>
 bif (!v1) then
  some 0
 else
  gd (a_b.Cells.length ≤ 4611686018427387904) <|
  (lpO (Zfn a_b a_d) a_b.Cells.length 0).bind fun e1 =>
  some e1

def Zdy (a_b : GBlock) (v2 : List GBlock) (k1 : Nat) (s1 : Int) : Option (Res Int Empty) :=
 (ZfP a_b (gx v2 k1)).bind fun v3 =>
 some (.next (if v3 > s1 then v3 else s1))

def Zdo (a_b : GBlock) (a_d : GBlock) : Option Int :=
 (ZcO a_b a_d).bind fun v1 =>
 bif (!v1) then
  some 0
 else
  (Zhm a_d).bind fun v2 =>
  gd (v2.length ≤ 4611686018427387904) <|
  (lpO (Zdy a_b v2) v2.length 0).bind fun e1 =>
  some e1

def ZcB (a_b : GBlock) (a_d : GBlock) (k1 : Nat) (s1 : Int) : Option (Res Int Empty) :=
 (Zep a_d ((k1 : Nat) : Int)).bind fun v4 =>
 (Zdo a_b v4.1).bind fun v5 =>
 some (.next (if v5 > s1 then v5 else s1))

def Zca (a_b : GBlock) (a_d : GBlock) : Option Int :=
 (
  (ZcO a_b a_d).bind fun v1 =>
  bif (!v1) then
   some true
  else
   (Zc9 a_d).bind fun v2 =>
   some (decide (((v2.length : Nat) : Int) > 3))).bind fun j1 =>
 bif j1 then
  some 0
 else
  (Za5 a_d).bind fun v3 =>
  gd ((v3).toNat ≤ 4611686018427387904) <|
  (lpO (ZcB a_b a_d) ((v3).toNat) 0).bind fun e1 =>
  some e1

def ZeT (a_e : GEntry) (a_f : GEntry) : Option Int :=
 (
  (Zcl a_e).bind fun v1 =>
  bif (!v1) then
   some true
  else
   (Zcl a_f).bind fun v2 =>
   bif (!v2) then
    some true
   else
    some (a_e.Block.Size != a_f.Block.Size)).bind fun j1 =>
 bif j1 then
  some 0
 else
  (Zce a_e.Block a_f.Block).bind fun v3 =>
  bif v3 then
   some 3
  else
   (Zca a_e.Block a_f.Block).bind fun v4 =>
   bif (decide ((wr (10 * v4)) ≥ (wr (36 * ((a_e.Block.Cells.length : Nat) : Int))))) then
    some 2
   else
    some 1

def Zgb (a_e : GEntry) (a_f : GEntry) : Option Bool :=
 (
  bif (a_e.Owner != a_f.Owner) then
   bif (decide (a_e.Day > a_f.Day)) then
    (ZeT a_e a_f).bind fun v1 =>
    some (decide (v1 ≥ 2))
   else
    some false
  else
   some false).bind fun j1 =>
 some j1

def Zg8 (a_g : GGuild) (a_number : Int) (a_day : Int) (v1 : GGuild) (v2 : GBlock) (k1 : Nat) (_ : Unit) : Option (Res Unit (GGuild × Bool)) :=
 (Zgb (GEntry.mk a_number a_day v2) (GEntry.mk ((gx a_g.Entries k1).Owner) ((gx a_g.Entries k1).Day) ((gx a_g.Entries k1).Block))).bind fun v4 =>
 bif v4 then
  some (.ret (v1, false))
 else
  some (.next ())

def Zht (a_g : GGuild) (a_number : Int) (a_day : Int) (a_b : GBlock) : Option (GGuild × Bool) :=
 (Z8 a_g).bind fun v1 =>
 (Zam a_b).bind fun v2 =>
 (Za8 a_g).bind fun v3 =>
 bif (!v3) then
  some (v1, false)
 else
  gd (a_g.Entries.length ≤ 4611686018427387904) <|
  sq (forO (Zg8 a_g a_number a_day v1 v2) a_g.Entries.length 0 ()) fun _ =>
  gd (v1.Entries.length + 1 ≤ 1099511627776) <|
  (Zaq a_g (GGuild.mk v1.Members v1.Stock (v1.Entries ++ [(GEntry.mk a_number a_day v2)]) v1.Books v1.Round v1.Year) true).bind fun v5 =>
  some (v5.1, v5.2)

def ZeI (a_b : GBlock) (k1 : Nat) (s1 : List Int) : Option (Res (List Int) Empty) :=
 (Zf6 a_b ((k1 : Nat) : Int)).bind fun v2 =>
 gd (s1.length + 1 ≤ 1099511627776) <|
 some (.next (s1 ++ [v2]))

def ZdG (a_b : GBlock) : Option (List Int) :=
 (ZY a_b).bind fun v1 =>
 bif (!v1) then
  some ([] : List Int)
 else
  (lpO (ZeI a_b) 6 ([] : List Int)).bind fun e1 =>
  some e1

def Ze4 (a_stock : List Int) (a_a : Int) (a_length : Int) : Option ((List Int) × Bool) :=
 (Zf7 a_stock).bind fun v1 =>
 (
  (Zc0 a_stock).bind fun v2 =>
  bif (!v2) then
   some true
  else
   (ZdT a_a).bind fun v3 =>
   bif (!v3) then
    some true
   else
    gd (0 ≤ a_a ∧ a_a < ((a_stock.length : Nat) : Int)) <|
    (Zt a_length 0 (gx a_stock ((a_a).toNat))).bind fun v4 =>
    some (!v4)).bind fun j1 =>
 bif j1 then
  some (v1, false)
 else
  gd (0 ≤ a_a ∧ a_a < ((v1.length : Nat) : Int)) <|
  some ((v1.set ((a_a).toNat) (wr ((gx v1 ((a_a).toNat)) - a_length))), true)

def Zfj (a_g : GGuild) (v4 : List Int) (k1 : Nat) (s1 : List Int) : Option (Res (List Int) (GGuild × Bool)) :=
 (Ze4 s1 ((k1 : Nat) : Int) (gx v4 k1)).bind fun v5 =>
 bif (!v5.2) then
  (Z8 a_g).bind fun v6 =>
  some (.ret (v6, false))
 else
  some (.next v5.1)

def Zeg (a_g : GGuild) (a_k : Int) : Option (GGuild × Bool) :=
 (Z8 a_g).bind fun v1 =>
 (
  (Za8 a_g).bind fun v2 =>
  bif (!v2) then
   some true
  else
   (Zt a_k 0 (wr (((a_g.Entries.length : Nat) : Int) - 1))).bind fun v3 =>
   some (!v3)).bind fun j1 =>
 bif j1 then
  some (v1, false)
 else
  gd (0 ≤ a_k ∧ a_k < ((a_g.Entries.length : Nat) : Int)) <|
  (ZdG ((gx a_g.Entries ((a_k).toNat)).Block)).bind fun v4 =>
  gd (v4.length ≤ 4611686018427387904) <|
  sq (forO (Zfj a_g v4) v4.length 0 v1.Stock) fun e1 =>
  some ((GGuild.mk v1.Members e1 v1.Entries v1.Books v1.Round v1.Year), true)

def Ze6 (a_g : GGuild) : Option (GGuild × Bool) :=
 (Z8 a_g).bind fun v1 =>
 (Zaq a_g (GGuild.mk v1.Members v1.Stock v1.Entries v1.Books (wr (v1.Round + 1)) v1.Year) true).bind fun v2 =>
 some (v2.1, v2.2)

def ZgB (a_g : GGuild) : Option (GGuild × Bool) :=
 (Z8 a_g).bind fun v1 =>
 (Zcj a_g).bind fun v4 =>
 (Zaq a_g (GGuild.mk v1.Members v1.Stock v1.Entries v1.Books 0 (wr (v1.Year + 1))) (decide (a_g.Round ≥ v4))).bind fun v5 =>
 some (v5.1, v5.2)

def Zhd (a_stock : List Int) (a_need : List Int) (k1 : Nat) (s1 : List Int) : Option (Res (List Int) Empty) :=
 gd (k1 < a_need.length) <|
 gd (s1.length + 1 ≤ 1099511627776) <|
 some (.next (s1 ++ [(if 0 > (wr ((gx a_need k1) - (gx a_stock k1))) then 0 else (wr ((gx a_need k1) - (gx a_stock k1))))]))

def Zhv (a_stock : List Int) (a_need : List Int) : Option (List Int) :=
 (
  (Zc0 a_stock).bind fun v1 =>
  bif (!v1) then
   some true
  else
   (Zc0 a_need).bind fun v2 =>
   some (!v2)).bind fun j1 =>
 bif j1 then
  some ([] : List Int)
 else
  gd (a_stock.length ≤ 4611686018427387904) <|
  (lpO (Zhd a_stock a_need) a_stock.length ([] : List Int)).bind fun e1 =>
  some e1

def ZjT (v3 : List Int) (k1 : Nat) (s1 : Int) : Option (Res Int Empty) :=
 some (.next (wr (s1 + (gx v3 k1))))

def ZhU (a_g : GGuild) (a_k : Int) : Option Int :=
 (Zt a_k 0 (wr (((a_g.Entries.length : Nat) : Int) - 1))).bind fun v1 =>
 bif (!v1) then
  some 0
 else
  gd (0 ≤ a_k ∧ a_k < ((a_g.Entries.length : Nat) : Int)) <|
  (ZdG ((gx a_g.Entries ((a_k).toNat)).Block)).bind fun v2 =>
  (Zhv a_g.Stock v2).bind fun v3 =>
  gd (v3.length ≤ 4611686018427387904) <|
  (lpO (ZjT v3) v3.length 0).bind fun e1 =>
  some e1

def ZcY (a_g : GGuild) (a_a : GAct) : Option (GGuild × Int) :=
 (
  (Za8 a_g).bind fun v1 =>
  bif (!v1) then
   some true
  else
   (ZgZ a_a).bind fun v2 =>
   some (!v2)).bind fun j1 =>
 bif j1 then
  (Z8 a_g).bind fun v3 =>
  some (v3, (-1))
 else
  (Z8 a_g).bind fun v4 =>
  sq (
   bif (a_a.Kind == 1) then
    (Zdt a_g a_a.A).bind fun v5 =>
    some (.inl (v5.2, v5.1))
   else
    bif (a_a.Kind == 2) then
     (
      bif (decide (((a_g.Entries.length : Nat) : Int) > 0)) then
       gd (0 ≤ (wr (((a_g.Entries.length : Nat) : Int) - 1)) ∧ (wr (((a_g.Entries.length : Nat) : Int) - 1)) < ((a_g.Entries.length : Nat) : Int)) <|
       some (wr ((gx a_g.Entries (((wr (((a_g.Entries.length : Nat) : Int) - 1))).toNat)).Day + 1))
      else
       some 0).bind fun j3 =>
     (ZdO a_a.B).bind fun v6 =>
     (Zht a_g a_a.A j3 v6).bind fun v7 =>
     some (.inl (v7.2, v7.1))
    else
     bif (a_a.Kind == 3) then
      (Zeg a_g a_a.A).bind fun v8 =>
      some (.inl (v8.2, v8.1))
     else
      bif (a_a.Kind == 4) then
       (Ze6 a_g).bind fun v9 =>
       some (.inl (v9.2, v9.1))
      else
       bif (a_a.Kind == 5) then
        (ZgB a_g).bind fun v10 =>
        some (.inl (v10.2, v10.1))
       else
        (ZhU a_g a_a.A).bind fun v11 =>
        some (.inr (v4, v11))) fun j2 =>
  bif j2.1 then
   some ((j2.2), 1)
  else
   some ((j2.2), 0)

def Zgm (a_acts : List GAct) (k1 : Nat) (s1 : (List Int) × (List GMember) × (List Int) × (List GEntry) × (List GBooking) × Int × Int) : Option (Res ((List Int) × (List GMember) × (List Int) × (List GEntry) × (List GBooking) × Int × Int) Empty) :=
 (ZcY (GGuild.mk s1.2.1 s1.2.2.1 s1.2.2.2.1 s1.2.2.2.2.1 s1.2.2.2.2.2.1 s1.2.2.2.2.2.2) (gx a_acts k1)).bind fun v3 =>
 gd (s1.1.length + 1 ≤ 1099511627776) <|
 some (.next ((s1.1 ++ [v3.2]), v3.1.Members, v3.1.Stock, v3.1.Entries, v3.1.Books, v3.1.Round, v3.1.Year))

def ZgE (a_g : GGuild) (a_acts : List GAct) : Option (GGuild × (List Int)) :=
 (Z8 a_g).bind fun v1 =>
 (
  (Za8 a_g).bind fun v2 =>
  bif (!v2) then
   some true
  else
   some (decide (((a_acts.length : Nat) : Int) > 40))).bind fun j1 =>
 bif j1 then
  some (v1, ([] : List Int))
 else
  gd (a_acts.length ≤ 4611686018427387904) <|
  (lpO (Zgm a_acts) a_acts.length (([] : List Int), v1.Members, v1.Stock, v1.Entries, v1.Books, v1.Round, v1.Year)).bind fun e1 =>
  some ((GGuild.mk e1.2.1 e1.2.2.1 e1.2.2.2.1 e1.2.2.2.2.1 e1.2.2.2.2.2.1 e1.2.2.2.2.2.2), e1.1)

def Zdh (a_b : GBlock) (k1 : Nat) (k2 : Nat) (s2 : List Str) : Option (Res (List Str) Empty) :=
 (ZdE a_b ((k2 : Nat) : Int) ((k1 : Nat) : Int)).bind fun v2 =>
 (Zem v2).bind fun v3 =>
 gd (s2.length + 1 ≤ 1099511627776) <|
 some (.next (s2 ++ [v3]))

def ZeD (a_b : GBlock) (k1 : Nat) (s1 : List Str) : Option (Res (List Str) Empty) :=
 (lpO (Zdh a_b k1) ((a_b.Size).toNat) ([] : List Str)).bind fun e2 =>
 (strings_Join e2 (⟨[44]⟩ : Str)).bind fun v4 =>
 gd (s1.length + 1 ≤ 1099511627776) <|
 some (.next (s1 ++ [v4]))

def Ze7 (a_b : GBlock) : Option Str :=
 (ZY a_b).bind fun v1 =>
 bif (!v1) then
  some (⟨[]⟩ : Str)
 else
  gd ((a_b.Size).toNat ≤ 4611686018427387904) <|
  (lpO (ZeD a_b) ((a_b.Size).toNat) ([] : List Str)).bind fun e1 =>
  (strings_Join e1 (⟨[59]⟩ : Str)).bind fun v5 =>
  some v5

def Zd3 (a_g : GGuild) (k1 : Nat) (s1 : List Int) : Option (Res (List Int) Empty) :=
 gd (s1.length + 1 ≤ 1099511627776) <|
 some (.next (s1 ++ [(gx a_g.Members k1).Number]))

def ZdZ (a_g : GGuild) (k2 : Nat) (s2 : List Str) : Option (Res (List Str) Empty) :=
 (Zak ((gx a_g.Entries k2).Owner)).bind fun v4 =>
 gd (v4.b.length + (⟨[32]⟩ : Str).b.length ≤ 1099511627776) <|
 (Zak ((gx a_g.Entries k2).Day)).bind fun v5 =>
 gd ((sadd v4 (⟨[32]⟩ : Str)).b.length + v5.b.length ≤ 1099511627776) <|
 gd ((sadd (sadd v4 (⟨[32]⟩ : Str)) v5).b.length + (⟨[32]⟩ : Str).b.length ≤ 1099511627776) <|
 (Ze7 ((gx a_g.Entries k2).Block)).bind fun v6 =>
 gd ((sadd (sadd (sadd v4 (⟨[32]⟩ : Str)) v5) (⟨[32]⟩ : Str)).b.length + v6.b.length ≤ 1099511627776) <|
 gd (s2.length + 1 ≤ 1099511627776) <|
 some (.next (s2 ++ [(sadd (sadd (sadd (sadd v4 (⟨[32]⟩ : Str)) v5) (⟨[32]⟩ : Str)) v6)]))

def ZcQ (a_g : GGuild) : Option (List Str) :=
 (Za8 a_g).bind fun v1 =>
 bif (!v1) then
  some ([] : List Str)
 else
  gd (a_g.Members.length ≤ 4611686018427387904) <|
  (lpO (Zd3 a_g) a_g.Members.length ([] : List Int)).bind fun e1 =>
  (ZbT (⟨[109, 101, 109, 98, 101, 114, 115]⟩ : Str) e1).bind fun v2 =>
  (ZbT (⟨[115, 116, 111, 99, 107]⟩ : Str) a_g.Stock).bind fun v3 =>
  gd (a_g.Entries.length ≤ 4611686018427387904) <|
  (lpO (ZdZ a_g) a_g.Entries.length ([v2, v3] : List Str)).bind fun e2 =>
  (Zak a_g.Round).bind fun v7 =>
  gd ((⟨[114, 111, 117, 110, 100, 32]⟩ : Str).b.length + v7.b.length ≤ 1099511627776) <|
  gd ((sadd (⟨[114, 111, 117, 110, 100, 32]⟩ : Str) v7).b.length + (⟨[47]⟩ : Str).b.length ≤ 1099511627776) <|
  (Zcj a_g).bind fun v8 =>
  (Zak v8).bind fun v9 =>
  gd ((sadd (sadd (⟨[114, 111, 117, 110, 100, 32]⟩ : Str) v7) (⟨[47]⟩ : Str)).b.length + v9.b.length ≤ 1099511627776) <|
  (ZbT (⟨[121, 101, 97, 114]⟩ : Str) ([a_g.Year] : List Int)).bind fun v10 =>
  gd (e2.length + 2 ≤ 1099511627776) <|
  some (e2 ++ [(sadd (sadd (sadd (⟨[114, 111, 117, 110, 100, 32]⟩ : Str) v7) (⟨[47]⟩ : Str)) v9), v10])

def Zdi (v1 : List Str) (k1 : Nat) (s1 : List GAct) : Option (Res (List GAct) ((List Str) × Bool)) :=
 (ZcW (gx v1 k1)).bind fun v2 =>
 bif (v2.2 && (((v2.1.length : Nat) : Int) == 0)) then
  some (.next s1)
 else
  (Zcw (gx v1 k1)).bind fun v3 =>
  bif (!v3.2) then
   some (.ret (([] : List Str), false))
  else
   gd (s1.length + 1 ≤ 1099511627776) <|
   some (.next (s1 ++ [v3.1]))

def ZeE (v5 : GGuild × (List Int)) (k2 : Nat) (s2 : List Str) : Option (Res (List Str) Empty) :=
 (Zak (gx v5.2 k2)).bind fun v6 =>
 gd (s2.length + 1 ≤ 1099511627776) <|
 some (.next (s2 ++ [v6]))

def ZcH (a_text : Str) : Option ((List Str) × Bool) :=
 bif (decide (((a_text.b.length : Nat) : Int) > 20000)) then
  some (([] : List Str), false)
 else
  (strings_Split a_text (⟨[10]⟩ : Str)).bind fun v1 =>
  gd (v1.length ≤ 4611686018427387904) <|
  sq (forO (Zdi v1) v1.length 0 ([] : List GAct)) fun e1 =>
  bif (decide (((e1.length : Nat) : Int) > 40)) then
   some (([] : List Str), false)
  else
   ZcT.bind fun v4 =>
   (ZgE v4 e1).bind fun v5 =>
   gd (v5.2.length ≤ 4611686018427387904) <|
   (lpO (ZeE v5) v5.2.length ([] : List Str)).bind fun e2 =>
   (ZcQ v5.1).bind fun v7 =>
   gd (e2.length + v7.length ≤ 1099511627776) <|
   some ((e2 ++ v7), true)

def ZeJ (a_a : List Str) (a_b : List Str) (k1 : Nat) (_ : Unit) : Option (Res Unit Bool) :=
 gd (k1 < a_b.length) <|
 bif (!(seq (gx a_a k1) (gx a_b k1))) then
  some (.ret false)
 else
  some (.next ())

def ZdN (a_a : List Str) (a_b : List Str) : Option Bool :=
 bif (((a_a.length : Nat) : Int) != ((a_b.length : Nat) : Int)) then
  some false
 else
  gd (a_a.length ≤ 4611686018427387904) <|
  sq (forO (ZeJ a_a a_b) a_a.length 0 ()) fun _ =>
  some true

def ZfG (s1 : Int × Str) : Option (Res (Int × Str) Empty) :=
 bif (decide (s1.1 > 0)) then
  gd ((⟨([(u8of (wr (48 + (s1.1.tmod 10))))] : List UInt8)⟩ : Str).b.length + s1.2.b.length ≤ 1099511627776) <|
  some (.next ((wr (s1.1.tdiv 10)), (sadd (⟨([(u8of (wr (48 + (s1.1.tmod 10))))] : List UInt8)⟩ : Str) s1.2)))
 else
  some (.brk (s1.1, s1.2))

def Zek (a_k : Int) : Option Str :=
 bif (decide (a_k ≤ 0)) then
  some (⟨[109, 48]⟩ : Str)
 else
  (wlO ZfG 18446744073709551616 (a_k, (⟨[]⟩ : Str))).bind fun e1 =>
  gd ((⟨[109]⟩ : Str).b.length + e1.2.b.length ≤ 1099511627776) <|
  some (sadd (⟨[109]⟩ : Str) e1.2)

def ZcC (k1 : Nat) (s1 : (List Str) × Int) : Option (Res ((List Str) × Int) Empty) :=
 (Zek s1.2).bind fun v1 =>
 some (.next ((s1.1.set k1 v1), (wr (s1.2 + 1))))

def ZdU (a_a : List Str) (a_k : Int) : Option (Int × (List Str)) :=
 gd (a_a.length ≤ 4611686018427387904) <|
 (lpO ZcC a_a.length (a_a, a_k)).bind fun e1 =>
 some (e1.2, e1.1)

def ZbO (a_a : List Str) (k1 : Nat) (s1 : Int) : Option (Res Int Int) :=
 (Zek s1).bind fun v1 =>
 bif (!(seq (gx a_a k1) v1)) then
  some (.ret (-1))
 else
  some (.next (wr (s1 + 1)))

def ZcP (a_a : List Str) (a_k : Int) : Option Int :=
 gd (a_a.length ≤ 4611686018427387904) <|
 sq (forO (ZbO a_a) a_a.length 0 a_k) fun e1 =>
 some e1

def laws_FnExactRunScript (a_aText : Str) : Option Bool :=
 bif (decide (((a_aText.b.length : Nat) : Int) > 1048576)) then
  some true
 else
  (ZdL a_aText).bind fun v1 =>
  (ZcH a_aText).bind fun v2 =>
  (
   (ZdN v2.1 v1.1).bind fun v3 =>
   bif (!v3) then
    some true
   else
    some (!(v2.2 == v1.2))).bind fun j1 =>
  bif j1 then
   some false
  else
   (ZdU v2.1 1).bind fun v4 =>
   (ZcP v4.2 1).bind fun v5 =>
   bif (decide (v5 < 0)) then
    some false
   else
    bif (v5 != v4.1) then
     some false
    else
     (ZcH a_aText).bind fun v6 =>
     (
      (ZdN v6.1 v1.1).bind fun v7 =>
      bif (!v7) then
       some true
      else
       some (!(v6.2 == v1.2))).bind fun j2 =>
     bif j2 then
      some false
     else
      (ZcP v4.2 1).bind fun v8 =>
      bif (decide (v8 < 0)) then
       some false
      else
       bif (v8 != v4.1) then
        some false
       else
        some true

end Go.Proofs.YtjfjbgihojiijacGreatDoor
