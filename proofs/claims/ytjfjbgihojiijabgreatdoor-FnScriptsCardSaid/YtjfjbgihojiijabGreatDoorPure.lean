/-
 What the functions compute, as Lean functions.
-/
import Derived.Test.YtjfjbgihojiijabGreatDoorTypes
import Derived.Lib.ItoaNum
import Derived.Lib.Join
import Derived.Lib.Atoi
import Derived.Lib.SplitLaws
namespace Go.Proofs.YtjfjbgihojiijabGreatDoor
open Go Go.RowKit

def ZlN (a_code : List UInt8) : Option Bool :=
 some (decide (((a_code.length : Nat) : Int) > 1048576))

def Zhf (a_code : List UInt8) (k1 : Nat) (s1 : Int) : Option (Res Int Empty) :=
 bif (decide (((k1 : Nat) : Int) < 4000)) then
  some (.next (andI (wr ((wr ((wr (s1 * 131)) + (((gx a_code k1)).toNat : Int))) + 7)) 1073741823))
 else
  some (.brk s1)

def Zhq (a_code : List UInt8) : Option (Int × Int) :=
 gd (a_code.length ≤ 4611686018427387904) <|
 (lpO (Zhf a_code) a_code.length (wr (33041 + ((a_code.length : Nat) : Int)))).bind fun e1 =>
 some (0, e1)

def Zca (a_c0 : List UInt8) (a_c1 : Int) (a_c2 : Int) : Option (Int × Int × Int) :=
 (
  bif (decide (a_c1 < ((a_c0.length : Nat) : Int))) then
   gd (0 ≤ a_c1 ∧ a_c1 < ((a_c0.length : Nat) : Int)) <|
   some ((andI (wr ((andI (xorI (shrI (wr ((wr (a_c2 * 6364136223846793005)) + 1442695040888963407)) 33) (shrI (wr ((wr (a_c2 * 6364136223846793005)) + 1442695040888963407)) 45)) 255) + (((gx a_c0 ((a_c1).toNat))).toNat : Int))) 255), (wr (a_c1 + 1)))
  else
   some ((andI (xorI (shrI (wr ((wr (a_c2 * 6364136223846793005)) + 1442695040888963407)) 33) (shrI (wr ((wr (a_c2 * 6364136223846793005)) + 1442695040888963407)) 45)) 255), a_c1)).bind fun j1 =>
 some (j1.1, j1.2, (wr ((wr (a_c2 * 6364136223846793005)) + 1442695040888963407)))

def ZN (a_c0 : List UInt8) (a_c1 : Int) (a_c2 : Int) (a_n : Int) : Option (Int × Int × Int) :=
 bif (decide (a_n ≤ 0)) then
  some (0, a_c1, a_c2)
 else
  bif (decide (a_n ≤ 256)) then
   (Zca a_c0 a_c1 a_c2).bind fun v1 =>
   gd (a_n ≠ 0) <|
   some ((v1.1.tmod a_n), v1.2.1, v1.2.2)
  else
   (Zca a_c0 a_c1 a_c2).bind fun v2 =>
   (Zca a_c0 v2.2.1 v2.2.2).bind fun v3 =>
   (Zca a_c0 v3.2.1 v3.2.2).bind fun v4 =>
   (Zca a_c0 v4.2.1 v4.2.2).bind fun v5 =>
   gd (a_n ≠ 0) <|
   some (((wr ((wr ((wr ((wr (v2.1 * 16777216)) + (wr (v3.1 * 65536)))) + (wr (v4.1 * 256)))) + v5.1)).tmod a_n), v5.2.1, v5.2.2)

def ZeZ (a_c0 : List UInt8) (a_c1 : Int) (a_c2 : Int) (a_n : Int) : Option (Bool × Int × Int) :=
 (ZN a_c0 a_c1 a_c2 a_n).bind fun v1 =>
 some ((v1.1 == 0), v1.2.1, v1.2.2)

def ZI (a_x : Int) (a_least : Int) (a_most : Int) : Option Bool :=
 some ((decide (a_x ≥ a_least)) && (decide (a_x ≤ a_most)))

def ZeC (a_list : List GMember) (k1 : Nat) (_ : Unit) : Option (Res Unit Bool) :=
 (
  (ZI ((gx a_list k1).Number) 1 999).bind fun v1 =>
  bif (!v1) then
   some true
  else
   (ZI ((gx a_list k1).Since) 1900 2999).bind fun v2 =>
   bif (!v2) then
    some true
   else
    (ZI ((gx a_list k1).Paid) (wr ((gx a_list k1).Since - 1)) 2999).bind fun v3 =>
    bif (!v3) then
     some true
    else
     bif (decide (((k1 : Nat) : Int) > 0)) then
      gd (0 ≤ (wr (((k1 : Nat) : Int) - 1)) ∧ (wr (((k1 : Nat) : Int) - 1)) < ((a_list.length : Nat) : Int)) <|
      some (decide ((gx a_list k1).Number ≤ (gx a_list (((wr (((k1 : Nat) : Int) - 1))).toNat)).Number))
     else
      some false).bind fun j1 =>
 bif j1 then
  some (.ret false)
 else
  some (.next ())

def Zbe (a_list : List GMember) : Option Bool :=
 gd (a_list.length ≤ 4611686018427387904) <|
 sq (forO (ZeC a_list) a_list.length 0 ()) fun _ =>
 some (decide (((a_list.length : Nat) : Int) ≤ 40))

def Zgd (a_stock : List Int) (k1 : Nat) (_ : Unit) : Option (Res Unit Bool) :=
 (ZI (gx a_stock k1) 0 1000000).bind fun v1 =>
 bif (!v1) then
  some (.ret false)
 else
  some (.next ())

def Zcc (a_stock : List Int) : Option Bool :=
 gd (a_stock.length ≤ 4611686018427387904) <|
 sq (forO (Zgd a_stock) a_stock.length 0 ()) fun _ =>
 some (((a_stock.length : Nat) : Int) == 6)

def Zfk (a_list : List GBooking) (k1 : Nat) (_ : Unit) : Option (Res Unit Bool) :=
 (
  (ZI ((gx a_list k1).Day) 0 9999).bind fun v1 =>
  bif (!v1) then
   some true
  else
   (ZI ((gx a_list k1).From) 0 4).bind fun v2 =>
   bif (!v2) then
    some true
   else
    (ZI ((gx a_list k1).To) 0 4).bind fun v3 =>
    bif (!v3) then
     some true
    else
     bif ((gx a_list k1).From == (gx a_list k1).To) then
      some true
     else
      (ZI ((gx a_list k1).Sum) 1 100000).bind fun v4 =>
      bif (!v4) then
       some true
      else
       bif (decide (((k1 : Nat) : Int) > 0)) then
        gd (0 ≤ (wr (((k1 : Nat) : Int) - 1)) ∧ (wr (((k1 : Nat) : Int) - 1)) < ((a_list.length : Nat) : Int)) <|
        some (decide ((gx a_list k1).Day < (gx a_list (((wr (((k1 : Nat) : Int) - 1))).toNat)).Day))
       else
        some false).bind fun j1 =>
 bif j1 then
  some (.ret false)
 else
  some (.next ())

def Zc6 (a_list : List GBooking) : Option Bool :=
 gd (a_list.length ≤ 4611686018427387904) <|
 sq (forO (Zfk a_list) a_list.length 0 ()) fun _ =>
 some (decide (((a_list.length : Nat) : Int) ≤ 60))

def Zbr (a_c : GCell) : Option Bool :=
 (
  (ZI a_c.Split 0 2).bind fun v1 =>
  bif (!v1) then
   some true
  else
   (ZI a_c.A 0 5).bind fun v2 =>
   bif (!v2) then
    some true
   else
    (ZI a_c.B 0 5).bind fun v3 =>
    some (!v3)).bind fun j1 =>
 bif j1 then
  some false
 else
  some ((a_c.Split == 0) == (a_c.A == a_c.B))

def Zgk (a_b : GBlock) (k1 : Nat) (_ : Unit) : Option (Res Unit Bool) :=
 (Zbr (gx a_b.Cells k1)).bind fun v2 =>
 bif (!v2) then
  some (.ret false)
 else
  some (.next ())

def Zab (a_b : GBlock) : Option Bool :=
 (
  (ZI a_b.Size 1 4).bind fun v1 =>
  bif (!v1) then
   some true
  else
   some (((a_b.Cells.length : Nat) : Int) != (wr (a_b.Size * a_b.Size)))).bind fun j1 =>
 bif j1 then
  some false
 else
  gd (a_b.Cells.length ≤ 4611686018427387904) <|
  sq (forO (Zgk a_b) a_b.Cells.length 0 ()) fun _ =>
  some true

def Zcf (a_e : GEntry) : Option Bool :=
 (
  (ZI a_e.Owner 0 99).bind fun v1 =>
  bif v1 then
   (ZI a_e.Day 0 9999).bind fun v2 =>
   bif v2 then
    (Zab a_e.Block).bind fun v3 =>
    some v3
   else
    some false
  else
   some false).bind fun j1 =>
 some j1

def ZeB (a_list : List GMember) (a_number : Int) (k1 : Nat) (_ : Unit) : Option (Res Unit Bool) :=
 bif ((gx a_list k1).Number == a_number) then
  some (.ret true)
 else
  some (.next ())

def ZeN (a_list : List GMember) (a_number : Int) : Option Bool :=
 gd (a_list.length ≤ 4611686018427387904) <|
 sq (forO (ZeB a_list a_number) a_list.length 0 ()) fun _ =>
 some false

def ZbA (a_list : List GMember) (a_year : Int) (k1 : Nat) (s1 : List Int) : Option (Res (List Int) Empty) :=
 (Zbe a_list).bind fun v1 =>
 bif v1 then
  (
   bif (decide ((gx a_list k1).Paid ≥ a_year)) then
    gd (s1.length + 1 ≤ 1099511627776) <|
    some (s1 ++ [(gx a_list k1).Number])
   else
    some s1).bind fun j1 =>
  some (.next j1)
 else
  some (.brk s1)

def Zde (a_list : List GMember) (a_year : Int) : Option (List Int) :=
 gd (a_list.length ≤ 4611686018427387904) <|
 (lpO (ZbA a_list a_year) a_list.length ([] : List Int)).bind fun e1 =>
 some e1

def Zb9 (a_g : GGuild) : Option Int :=
 (Zde a_g.Members a_g.Year).bind fun v1 =>
 (ZI ((v1.length : Nat) : Int) 2 10).bind fun v2 =>
 bif (!v2) then
  some 0
 else
  some (wr (((v1.length : Nat) : Int) - 1))

def Zgo (a_g : GGuild) (k1 : Nat) (_ : Unit) : Option (Res Unit Bool) :=
 (
  (Zcf (GEntry.mk ((gx a_g.Entries k1).Owner) ((gx a_g.Entries k1).Day) ((gx a_g.Entries k1).Block))).bind fun v5 =>
  bif (!v5) then
   some true
  else
   (ZeN a_g.Members ((gx a_g.Entries k1).Owner)).bind fun v6 =>
   bif (!v6) then
    some true
   else
    bif (decide (((k1 : Nat) : Int) > 0)) then
     gd (0 ≤ (wr (((k1 : Nat) : Int) - 1)) ∧ (wr (((k1 : Nat) : Int) - 1)) < ((a_g.Entries.length : Nat) : Int)) <|
     some (decide ((gx a_g.Entries k1).Day < (gx a_g.Entries (((wr (((k1 : Nat) : Int) - 1))).toNat)).Day))
    else
     some false).bind fun j2 =>
 bif j2 then
  some (.ret false)
 else
  some (.next ())

def Zas (a_g : GGuild) : Option Bool :=
 (
  (Zbe a_g.Members).bind fun v1 =>
  bif (!v1) then
   some true
  else
   (Zcc a_g.Stock).bind fun v2 =>
   bif (!v2) then
    some true
   else
    (Zc6 a_g.Books).bind fun v3 =>
    bif (!v3) then
     some true
    else
     bif (decide (((a_g.Entries.length : Nat) : Int) > 10)) then
      some true
     else
      (ZI a_g.Year 1900 2999).bind fun v4 =>
      some (!v4)).bind fun j1 =>
 bif j1 then
  some false
 else
  gd (a_g.Entries.length ≤ 4611686018427387904) <|
  sq (forO (Zgo a_g) a_g.Entries.length 0 ()) fun _ =>
  (Zb9 a_g).bind fun v7 =>
  (ZI a_g.Round 0 v7).bind fun v8 =>
  some v8

def Zfp (_ : Nat) (s1 : List Int) : Option (Res (List Int) Empty) :=
 gd (s1.length + 1 ≤ 1099511627776) <|
 some (.next (s1 ++ [1000]))

def Zcr (a_year : Int) : Option (GGuild × Bool) :=
 (lpO Zfp 6 ([] : List Int)).bind fun e1 =>
 (Zas (GGuild.mk ([] : List GMember) e1 ([] : List GEntry) ([] : List GBooking) 0 a_year)).bind fun v1 =>
 bif (!v1) then
  some ((GGuild.mk ([] : List GMember) ([] : List Int) ([] : List GEntry) ([] : List GBooking) 0 0), false)
 else
  some ((GGuild.mk ([] : List GMember) e1 ([] : List GEntry) ([] : List GBooking) 0 a_year), true)

def Za8 (a_b : GBlock) : Option GBlock :=
 gd (([] : List GCell).length + a_b.Cells.length ≤ 1099511627776) <|
 some (GBlock.mk a_b.Size (([] : List GCell) ++ a_b.Cells))

def Zgq (a_g : GGuild) (k1 : Nat) (s1 : List GEntry) : Option (Res (List GEntry) Empty) :=
 (Za8 ((gx a_g.Entries k1).Block)).bind fun v1 =>
 gd (s1.length + 1 ≤ 1099511627776) <|
 some (.next (s1 ++ [(GEntry.mk ((gx a_g.Entries k1).Owner) ((gx a_g.Entries k1).Day) v1)]))

def ZaP (a_g : GGuild) : Option GGuild :=
 gd (([] : List GMember).length + a_g.Members.length ≤ 1099511627776) <|
 gd (([] : List Int).length + a_g.Stock.length ≤ 1099511627776) <|
 gd (([] : List GBooking).length + a_g.Books.length ≤ 1099511627776) <|
 gd (a_g.Entries.length ≤ 4611686018427387904) <|
 (lpO (Zgq a_g) a_g.Entries.length ([] : List GEntry)).bind fun e1 =>
 some (GGuild.mk (([] : List GMember) ++ a_g.Members) (([] : List Int) ++ a_g.Stock) e1 (([] : List GBooking) ++ a_g.Books) a_g.Round a_g.Year)

def Za0 (a_list : List GMember) (a_number : Int) (s1 : Int) : Option (Res Int Empty) :=
 (
  bif (decide (s1 < ((a_list.length : Nat) : Int))) then
   gd (0 ≤ s1 ∧ s1 < ((a_list.length : Nat) : Int)) <|
   some (decide ((gx a_list ((s1).toNat)).Number < a_number))
  else
   some false).bind fun j2 =>
 bif j2 then
  some (.next (wr (s1 + 1)))
 else
  some (.brk s1)

def Zbz (a_list : List GMember) (a_number : Int) (a_year : Int) : Option ((List GMember) × Bool) :=
 gd (([] : List GMember).length + a_list.length ≤ 1099511627776) <|
 (
  (Zbe a_list).bind fun v1 =>
  bif (!v1) then
   some true
  else
   (ZI a_year 1900 2999).bind fun v2 =>
   some (!v2)).bind fun j1 =>
 bif j1 then
  some ((([] : List GMember) ++ a_list), false)
 else
  (wlO (Za0 a_list a_number) 18446744073709551616 0).bind fun e1 =>
  gd (0 ≤ e1 ∧ 0 ≤ (e1).toNat ∧ (e1).toNat ≤ a_list.length) <|
  gd (([] : List GMember).length + ((a_list.drop 0).take ((e1).toNat - 0)).length ≤ 1099511627776) <|
  gd ((([] : List GMember) ++ ((a_list.drop 0).take ((e1).toNat - 0))).length + 1 ≤ 1099511627776) <|
  gd (0 ≤ e1 ∧ (e1).toNat ≤ a_list.length ∧ a_list.length ≤ a_list.length) <|
  gd (((([] : List GMember) ++ ((a_list.drop 0).take ((e1).toNat - 0))) ++ [(GMember.mk a_number a_year (wr (a_year - 1)))]).length + ((a_list.drop ((e1).toNat)).take (a_list.length - ((e1).toNat))).length ≤ 1099511627776) <|
  (Zbe (((([] : List GMember) ++ ((a_list.drop 0).take ((e1).toNat - 0))) ++ [(GMember.mk a_number a_year (wr (a_year - 1)))]) ++ ((a_list.drop ((e1).toNat)).take (a_list.length - ((e1).toNat))))).bind fun v3 =>
  bif (!v3) then
   some ((([] : List GMember) ++ a_list), false)
  else
   some ((((([] : List GMember) ++ ((a_list.drop 0).take ((e1).toNat - 0))) ++ [(GMember.mk a_number a_year (wr (a_year - 1)))]) ++ ((a_list.drop ((e1).toNat)).take (a_list.length - ((e1).toNat)))), true)

def Zgs (a_list : List GMember) (a_number : Int) (a_years : Int) (k1 : Nat) (s1 : (List GMember) × Bool) : Option (Res ((List GMember) × Bool) Empty) :=
 (ZI a_years 1 10).bind fun v1 =>
 bif v1 then
  (
   bif ((gx a_list k1).Number == a_number) then
    gd (k1 < s1.1.length) <|
    some ((s1.1.set k1 (GMember.mk ((gx s1.1 k1).Number) ((gx s1.1 k1).Since) (wr ((gx a_list k1).Paid + a_years)))), true)
   else
    some (s1.1, s1.2)).bind fun j1 =>
  some (.next (j1.1, j1.2))
 else
  some (.brk (s1.1, s1.2))

def ZgI (a_list : List GMember) (a_number : Int) (a_years : Int) : Option ((List GMember) × Bool) :=
 gd (([] : List GMember).length + a_list.length ≤ 1099511627776) <|
 gd (a_list.length ≤ 4611686018427387904) <|
 (lpO (Zgs a_list a_number a_years) a_list.length ((([] : List GMember) ++ a_list), false)).bind fun e1 =>
 (
  (Zbe a_list).bind fun v2 =>
  bif (!v2) then
   some true
  else
   bif (!e1.2) then
    some true
   else
    (Zbe e1.1).bind fun v3 =>
    some (!v3)).bind fun j2 =>
 bif j2 then
  some ((([] : List GMember) ++ a_list), false)
 else
  some (e1.1, true)

def Zgx (a_list : List GBooking) (a_b : GBooking) : Option ((List GBooking) × Bool) :=
 gd (([] : List GBooking).length + a_list.length ≤ 1099511627776) <|
 gd ((([] : List GBooking) ++ a_list).length + 1 ≤ 1099511627776) <|
 (
  (Zc6 a_list).bind fun v1 =>
  bif (!v1) then
   some true
  else
   (Zc6 ((([] : List GBooking) ++ a_list) ++ [a_b])).bind fun v2 =>
   some (!v2)).bind fun j1 =>
 bif j1 then
  some ((([] : List GBooking) ++ a_list), false)
 else
  some (((([] : List GBooking) ++ a_list) ++ [a_b]), true)

def ZcO (a_g : GGuild) (a_number : Int) : Option (GGuild × Bool) :=
 (ZaP a_g).bind fun v1 =>
 (
  (Zas a_g).bind fun v2 =>
  bif (!v2) then
   some true
  else
   some (a_g.Round != 0)).bind fun j1 =>
 bif j1 then
  some (v1, false)
 else
  (
   bif (decide (((a_g.Books.length : Nat) : Int) > 0)) then
    gd (0 ≤ (wr (((a_g.Books.length : Nat) : Int) - 1)) ∧ (wr (((a_g.Books.length : Nat) : Int) - 1)) < ((a_g.Books.length : Nat) : Int)) <|
    some ((gx a_g.Books (((wr (((a_g.Books.length : Nat) : Int) - 1))).toNat)).Day)
   else
    some 0).bind fun j2 =>
  (Zbz a_g.Members a_number a_g.Year).bind fun v3 =>
  (ZgI v3.1 a_number 1).bind fun v4 =>
  (Zgx a_g.Books (GBooking.mk j2 0 1 20)).bind fun v5 =>
  bif ((!v3.2) || ((!v4.2) || (!v5.2))) then
   some (v1, false)
  else
   (ZaP a_g).bind fun v6 =>
   (Zas (GGuild.mk v4.1 v6.Stock v6.Entries v5.1 v6.Round v6.Year)).bind fun v7 =>
   bif (!v7) then
    some (v1, false)
   else
    some ((GGuild.mk v4.1 v6.Stock v6.Entries v5.1 v6.Round v6.Year), true)

def Zcw (k1 : Nat) (s1 : (List GMember) × (List Int) × (List GEntry) × (List GBooking) × Int × Int) : Option (Res ((List GMember) × (List Int) × (List GEntry) × (List GBooking) × Int × Int) Empty) :=
 (ZcO (GGuild.mk s1.1 s1.2.1 s1.2.2.1 s1.2.2.2.1 s1.2.2.2.2.1 s1.2.2.2.2.2) (((k1 + 1) : Nat) : Int)).bind fun v2 =>
 some (.next (v2.1.Members, v2.1.Stock, v2.1.Entries, v2.1.Books, v2.1.Round, v2.1.Year))

def ZbQ  : Option GGuild :=
 (Zcr 2020).bind fun v1 =>
 (lpO Zcw 3 (v1.1.Members, v1.1.Stock, v1.1.Entries, v1.1.Books, v1.1.Round, v1.1.Year)).bind fun e1 =>
 some (GGuild.mk e1.1 e1.2.1 e1.2.2.1 e1.2.2.2.1 e1.2.2.2.2.1 e1.2.2.2.2.2)

def ZcM (a_a : Int) : Option GCell :=
 (ZI a_a 0 5).bind fun v1 =>
 bif (!v1) then
  some (GCell.mk 0 0 0)
 else
  some (GCell.mk 0 a_a a_a)

def ZcG (a_split : Int) (a_a : Int) (a_b : Int) : Option GCell :=
 bif (a_a == a_b) then
  (ZcM a_a).bind fun v1 =>
  some v1
 else
  (Zbr (GCell.mk a_split a_a a_b)).bind fun v2 =>
  bif (!v2) then
   some (GCell.mk 0 0 0)
  else
   some (GCell.mk a_split a_a a_b)

def ZgB (a_c0 : List UInt8) (a_c1 : Int) (a_c2 : Int) : Option (GCell × Int × Int) :=
 (ZN a_c0 a_c1 a_c2 3).bind fun v1 =>
 (ZN a_c0 v1.2.1 v1.2.2 3).bind fun v2 =>
 (ZN a_c0 v2.2.1 v2.2.2 3).bind fun v3 =>
 (ZcG v1.1 v2.1 v3.1).bind fun v4 =>
 some (v4, v3.2.1, v3.2.2)

def ZhJ (_ : Nat) (s1 : List Int) : Option (Res (List Int) Empty) :=
 gd (s1.length + 1 ≤ 1099511627776) <|
 some (.next (s1 ++ [(-1)]))

def Zfr (a_b : GBlock) (k2 : Nat) (s2 : (List Int) × Int) : Option (Res ((List Int) × Int) Empty) :=
 gd (0 ≤ (wr (((k2 : Nat) : Int).tdiv 2)) ∧ (wr (((k2 : Nat) : Int).tdiv 2)) < ((a_b.Cells.length : Nat) : Int)) <|
 gd (0 ≤ (bif ((((k2 : Nat) : Int).tmod 2) == 1) then (gx a_b.Cells (((wr (((k2 : Nat) : Int).tdiv 2))).toNat)).B else (gx a_b.Cells (((wr (((k2 : Nat) : Int).tdiv 2))).toNat)).A) ∧ (bif ((((k2 : Nat) : Int).tmod 2) == 1) then (gx a_b.Cells (((wr (((k2 : Nat) : Int).tdiv 2))).toNat)).B else (gx a_b.Cells (((wr (((k2 : Nat) : Int).tdiv 2))).toNat)).A) < ((s2.1.length : Nat) : Int)) <|
 some (.next ((bif (decide ((gx s2.1 (((bif ((((k2 : Nat) : Int).tmod 2) == 1) then (gx a_b.Cells (((wr (((k2 : Nat) : Int).tdiv 2))).toNat)).B else (gx a_b.Cells (((wr (((k2 : Nat) : Int).tdiv 2))).toNat)).A)).toNat)) < 0)) then (s2.1.set (((bif ((((k2 : Nat) : Int).tmod 2) == 1) then (gx a_b.Cells (((wr (((k2 : Nat) : Int).tdiv 2))).toNat)).B else (gx a_b.Cells (((wr (((k2 : Nat) : Int).tdiv 2))).toNat)).A)).toNat) s2.2) else s2.1), (bif (decide ((gx s2.1 (((bif ((((k2 : Nat) : Int).tmod 2) == 1) then (gx a_b.Cells (((wr (((k2 : Nat) : Int).tdiv 2))).toNat)).B else (gx a_b.Cells (((wr (((k2 : Nat) : Int).tdiv 2))).toNat)).A)).toNat)) < 0)) then (wr (s2.2 + 1)) else s2.2)))

def Zfv (k3 : Nat) (s3 : (List Int) × Int) : Option (Res ((List Int) × Int) Empty) :=
 gd (k3 < s3.1.length) <|
 some (.next ((bif (decide ((gx s3.1 k3) < 0)) then (s3.1.set k3 s3.2) else s3.1), (bif (decide ((gx s3.1 k3) < 0)) then (wr (s3.2 + 1)) else s3.2)))

def ZfH (a_b : GBlock) : Option (List Int) :=
 (Zab a_b).bind fun v1 =>
 bif (!v1) then
  some ([] : List Int)
 else
  (lpO ZhJ 6 ([] : List Int)).bind fun e1 =>
  gd (((wr (2 * ((a_b.Cells.length : Nat) : Int)))).toNat ≤ 4611686018427387904) <|
  (lpO (Zfr a_b) (((wr (2 * ((a_b.Cells.length : Nat) : Int)))).toNat) (e1, 0)).bind fun e2 =>
  (lpO Zfv 6 (e2.1, e2.2)).bind fun e3 =>
  some e3.1

def Zhd (a_l : List Int) (k1 : Nat) (_ : Unit) : Option (Res Unit Bool) :=
 (ZI (gx a_l k1) 0 5).bind fun v1 =>
 bif (!v1) then
  some (.ret false)
 else
  some (.next ())

def ZfV (a_l : List Int) : Option Bool :=
 gd (a_l.length ≤ 4611686018427387904) <|
 sq (forO (Zhd a_l) a_l.length 0 ()) fun _ =>
 some (((a_l.length : Nat) : Int) == 6)

def Zdg (a_c : GCell) (a_l : List Int) : Option GCell :=
 (
  (Zbr a_c).bind fun v1 =>
  bif (!v1) then
   some true
  else
   (ZfV a_l).bind fun v2 =>
   some (!v2)).bind fun j1 =>
 bif j1 then
  some (GCell.mk 0 0 0)
 else
  gd (0 ≤ a_c.A ∧ a_c.A < ((a_l.length : Nat) : Int)) <|
  gd (0 ≤ a_c.B ∧ a_c.B < ((a_l.length : Nat) : Int)) <|
  (ZcG a_c.Split (gx a_l ((a_c.A).toNat)) (gx a_l ((a_c.B).toNat))).bind fun v3 =>
  some v3

def ZcY (a_b : GBlock) (a_l : List Int) (k1 : Nat) (s1 : List GCell) : Option (Res (List GCell) Empty) :=
 (Zdg (gx a_b.Cells k1) a_l).bind fun v4 =>
 gd (s1.length + 1 ≤ 1099511627776) <|
 some (.next (s1 ++ [v4]))

def ZcU (a_b : GBlock) (a_l : List Int) : Option (GBlock × Bool) :=
 (
  (Zab a_b).bind fun v1 =>
  bif (!v1) then
   some true
  else
   (ZfV a_l).bind fun v2 =>
   some (!v2)).bind fun j1 =>
 bif j1 then
  (Za8 a_b).bind fun v3 =>
  some (v3, false)
 else
  gd (a_b.Cells.length ≤ 4611686018427387904) <|
  (lpO (ZcY a_b a_l) a_b.Cells.length ([] : List GCell)).bind fun e1 =>
  some ((GBlock.mk a_b.Size e1), true)

def Zd6 (a_b : GBlock) : Option GBlock :=
 (ZfH a_b).bind fun v1 =>
 (ZcU a_b v1).bind fun v2 =>
 some v2.1

def Zef (a_c : GCell) : Option GCell :=
 (Zbr a_c).bind fun v1 =>
 bif (!v1) then
  some (GCell.mk 0 0 0)
 else
  bif (a_c.Split == 0) then
   some a_c
  else
   some (GCell.mk (wr (3 - a_c.Split)) a_c.B a_c.A)

def Zd0 (a_b : GBlock) (k1 : Nat) (k2 : Nat) (s2 : List GCell) : Option (Res (List GCell) Empty) :=
 gd (0 ≤ (wr ((wr ((wr ((wr (((k1 : Nat) : Int) * a_b.Size)) + a_b.Size)) - 1)) - ((k2 : Nat) : Int))) ∧ (wr ((wr ((wr ((wr (((k1 : Nat) : Int) * a_b.Size)) + a_b.Size)) - 1)) - ((k2 : Nat) : Int))) < ((a_b.Cells.length : Nat) : Int)) <|
 (Zef (gx a_b.Cells (((wr ((wr ((wr ((wr (((k1 : Nat) : Int) * a_b.Size)) + a_b.Size)) - 1)) - ((k2 : Nat) : Int)))).toNat))).bind fun v2 =>
 gd (s2.length + 1 ≤ 1099511627776) <|
 some (.next (s2 ++ [v2]))

def ZdV (a_b : GBlock) (k1 : Nat) (s1 : List GCell) : Option (Res (List GCell) Empty) :=
 (lpO (Zd0 a_b k1) ((a_b.Size).toNat) s1).bind fun e2 =>
 some (.next e2)

def ZdS (a_b : GBlock) : Option GBlock :=
 (Zab a_b).bind fun v1 =>
 bif (!v1) then
  some (GBlock.mk 0 ([] : List GCell))
 else
  gd ((a_b.Size).toNat ≤ 4611686018427387904) <|
  (lpO (ZdV a_b) ((a_b.Size).toNat) ([] : List GCell)).bind fun e1 =>
  some (GBlock.mk a_b.Size e1)

def ZfN (a_c : GCell) : Option GCell :=
 (Zbr a_c).bind fun v1 =>
 bif (!v1) then
  some (GCell.mk 0 0 0)
 else
  bif (a_c.Split == 1) then
   some (GCell.mk 2 a_c.B a_c.A)
  else
   bif (a_c.Split == 2) then
    some (GCell.mk 1 a_c.A a_c.B)
   else
    some a_c

def ZeE (a_b : GBlock) (k1 : Nat) (k2 : Nat) (s2 : List GCell) : Option (Res (List GCell) Empty) :=
 gd (0 ≤ (wr ((wr ((wr ((wr (a_b.Size - 1)) - ((k2 : Nat) : Int))) * a_b.Size)) + ((k1 : Nat) : Int))) ∧ (wr ((wr ((wr ((wr (a_b.Size - 1)) - ((k2 : Nat) : Int))) * a_b.Size)) + ((k1 : Nat) : Int))) < ((a_b.Cells.length : Nat) : Int)) <|
 (ZfN (gx a_b.Cells (((wr ((wr ((wr ((wr (a_b.Size - 1)) - ((k2 : Nat) : Int))) * a_b.Size)) + ((k1 : Nat) : Int)))).toNat))).bind fun v2 =>
 gd (s2.length + 1 ≤ 1099511627776) <|
 some (.next (s2 ++ [v2]))

def Zer (a_b : GBlock) (k1 : Nat) (s1 : List GCell) : Option (Res (List GCell) Empty) :=
 (lpO (ZeE a_b k1) ((a_b.Size).toNat) s1).bind fun e2 =>
 some (.next e2)

def ZeT (a_b : GBlock) : Option GBlock :=
 (Zab a_b).bind fun v1 =>
 bif (!v1) then
  some (GBlock.mk 0 ([] : List GCell))
 else
  gd ((a_b.Size).toNat ≤ 4611686018427387904) <|
  (lpO (Zer a_b) ((a_b.Size).toNat) ([] : List GCell)).bind fun e1 =>
  some (GBlock.mk a_b.Size e1)

def Zfo (_ : Nat) (s1 : Int × (List GCell)) : Option (Res (Int × (List GCell)) Empty) :=
 (ZeT (GBlock.mk s1.1 s1.2)).bind fun v5 =>
 some (.next (v5.Size, v5.Cells))

def Zd8 (a_b : GBlock) (a_k : Int) : Option GBlock :=
 (
  (Zab a_b).bind fun v1 =>
  bif (!v1) then
   some true
  else
   (ZI a_k 0 7).bind fun v2 =>
   some (!v2)).bind fun j1 =>
 bif j1 then
  some (GBlock.mk 0 ([] : List GCell))
 else
  (Za8 a_b).bind fun v3 =>
  (
   bif (decide (a_k ≥ 4)) then
    (ZdS a_b).bind fun v4 =>
    some v4
   else
    some v3).bind fun j2 =>
  gd (((a_k.tmod 4)).toNat ≤ 4611686018427387904) <|
  (lpO Zfo (((a_k.tmod 4)).toNat) ((j2).Size, (j2).Cells)).bind fun e1 =>
  some (GBlock.mk e1.1 e1.2)

def Ze3 (a_x : Int) : Option UInt8 :=
 bif (decide (a_x < 10)) then
  some (u8of (wr (48 + a_x)))
 else
  some (u8of (wr ((wr (97 + a_x)) - 10)))

def Za1 (s1 : Int × Str) : Option (Res (Int × Str) Empty) :=
 bif (s1.1 != 0) then
  (Ze3 (bif (decide ((s1.1.tmod 10) < 0)) then (wr (0 - (s1.1.tmod 10))) else (s1.1.tmod 10))).bind fun v1 =>
  gd ((⟨([v1] : List UInt8)⟩ : Str).b.length + s1.2.b.length ≤ 1099511627776) <|
  some (.next ((wr (s1.1.tdiv 10)), (sadd (⟨([v1] : List UInt8)⟩ : Str) s1.2)))
 else
  some (.brk (s1.1, s1.2))

def ZJ (a_n : Int) : Option Str :=
 bif (a_n == 0) then
  some (⟨[48]⟩ : Str)
 else
  (wlO Za1 18446744073709551616 (a_n, (⟨[]⟩ : Str))).bind fun e1 =>
  bif (decide (a_n < 0)) then
   gd ((⟨[45]⟩ : Str).b.length + e1.2.b.length ≤ 1099511627776) <|
   some (sadd (⟨[45]⟩ : Str) e1.2)
  else
   some e1.2

def Zea (a_c : GCell) : Option Str :=
 (Zbr a_c).bind fun v1 =>
 bif (!v1) then
  some (⟨[]⟩ : Str)
 else
  bif (a_c.Split == 1) then
   (ZJ a_c.A).bind fun v2 =>
   gd (v2.b.length + (⟨[47]⟩ : Str).b.length ≤ 1099511627776) <|
   (ZJ a_c.B).bind fun v3 =>
   gd ((sadd v2 (⟨[47]⟩ : Str)).b.length + v3.b.length ≤ 1099511627776) <|
   some (sadd (sadd v2 (⟨[47]⟩ : Str)) v3)
  else
   bif (a_c.Split == 2) then
    (ZJ a_c.A).bind fun v4 =>
    gd (v4.b.length + (⟨[92]⟩ : Str).b.length ≤ 1099511627776) <|
    (ZJ a_c.B).bind fun v5 =>
    gd ((sadd v4 (⟨[92]⟩ : Str)).b.length + v5.b.length ≤ 1099511627776) <|
    some (sadd (sadd v4 (⟨[92]⟩ : Str)) v5)
   else
    (ZJ a_c.A).bind fun v6 =>
    some v6

def ZgZ (a_b : GBlock) (k1 : Nat) (s1 : Str) : Option (Res Str Empty) :=
 (Zab a_b).bind fun v1 =>
 bif v1 then
  (Zea (gx a_b.Cells k1)).bind fun v2 =>
  gd (s1.b.length + v2.b.length ≤ 1099511627776) <|
  gd ((sadd s1 v2).b.length + (⟨[59]⟩ : Str).b.length ≤ 1099511627776) <|
  some (.next (sadd (sadd s1 v2) (⟨[59]⟩ : Str)))
 else
  some (.brk s1)

def Zep (a_b : GBlock) : Option Str :=
 gd (a_b.Cells.length ≤ 4611686018427387904) <|
 (lpO (ZgZ a_b) a_b.Cells.length (⟨[]⟩ : Str)).bind fun e1 =>
 some e1

def Zdt (a_b : GBlock) (k1 : Nat) (s1 : Int × (List GCell)) : Option (Res (Int × (List GCell)) Empty) :=
 (Zd8 a_b (((k1 + 1) : Nat) : Int)).bind fun v3 =>
 (Zd6 v3).bind fun v4 =>
 (Zep v4).bind fun v5 =>
 (Zep (GBlock.mk s1.1 s1.2)).bind fun v6 =>
 some (.next ((bif (slt v5 v6) then v4 else (GBlock.mk s1.1 s1.2)).Size, (bif (slt v5 v6) then v4 else (GBlock.mk s1.1 s1.2)).Cells))

def Zcm (a_b : GBlock) : Option GBlock :=
 (Zab a_b).bind fun v1 =>
 bif (!v1) then
  some (GBlock.mk 0 ([] : List GCell))
 else
  (Zd6 a_b).bind fun v2 =>
  (lpO (Zdt a_b) 7 (v2.Size, v2.Cells)).bind fun e1 =>
  some (GBlock.mk e1.1 e1.2)

def Zev (a_b : GBlock) (a_d : GBlock) (k1 : Nat) (_ : Unit) : Option (Res Unit Bool) :=
 gd (k1 < a_d.Cells.length) <|
 bif (!(beqs [(gx a_b.Cells k1).Split, (gx a_b.Cells k1).A, (gx a_b.Cells k1).B] [(gx a_d.Cells k1).Split, (gx a_d.Cells k1).A, (gx a_d.Cells k1).B])) then
  some (.ret false)
 else
  some (.next ())

def ZeG (a_b : GBlock) (a_d : GBlock) : Option Bool :=
 bif ((a_b.Size != a_d.Size) || (((a_b.Cells.length : Nat) : Int) != ((a_d.Cells.length : Nat) : Int))) then
  some false
 else
  gd (a_b.Cells.length ≤ 4611686018427387904) <|
  sq (forO (Zev a_b a_d) a_b.Cells.length 0 ()) fun _ =>
  some true

def Zcd (a_b : GBlock) (a_d : GBlock) : Option Bool :=
 (
  (Zab a_b).bind fun v1 =>
  bif v1 then
   (Zab a_d).bind fun v2 =>
   bif v2 then
    (Zcm a_b).bind fun v3 =>
    (Zcm a_d).bind fun v4 =>
    (ZeG v3 v4).bind fun v5 =>
    some v5
   else
    some false
  else
   some false).bind fun j1 =>
 some j1

def Ze9 (a_b : GBlock) (k1 : Nat) (k2 : Nat) (s2 : Bool) : Option (Res Bool Empty) :=
 some (.next (s2 || (((gx a_b.Cells k2).A == ((k1 : Nat) : Int)) || ((gx a_b.Cells k2).B == ((k1 : Nat) : Int)))))

def Zfj (a_b : GBlock) (k1 : Nat) (s1 : List Int) : Option (Res (List Int) Empty) :=
 gd (a_b.Cells.length ≤ 4611686018427387904) <|
 (lpO (Ze9 a_b k1) a_b.Cells.length false).bind fun e2 =>
 (
  bif e2 then
   gd (s1.length + 1 ≤ 1099511627776) <|
   some (s1 ++ [((k1 : Nat) : Int)])
  else
   some s1).bind fun j2 =>
 some (.next j2)

def ZfJ (a_b : GBlock) : Option (List Int) :=
 (Zab a_b).bind fun v1 =>
 bif (!v1) then
  some ([] : List Int)
 else
  (lpO (Zfj a_b) 6 ([] : List Int)).bind fun e1 =>
  some e1

def Zij (a_b : GBlock) (a_d : GBlock) : Option Bool :=
 (
  (Zab a_b).bind fun v1 =>
  bif v1 then
   (Zab a_d).bind fun v2 =>
   bif v2 then
    some (a_b.Size == a_d.Size)
   else
    some false
  else
   some false).bind fun j1 =>
 some j1

def ZeI (a_c : GCell) (a_side : Int) : Option Int :=
 (
  (Zbr a_c).bind fun v1 =>
  bif (!v1) then
   some true
  else
   (ZI a_side 0 3).bind fun v2 =>
   some (!v2)).bind fun j1 =>
 bif j1 then
  some (-1)
 else
  bif ((a_side == 0) || (bif (a_side == 1) then ((a_c.Split == 1) || ((a_side == 3) && (a_c.Split == 2))) else ((a_side == 3) && (a_c.Split == 2)))) then
   some a_c.A
  else
   some a_c.B

def ZhF (_ : Nat) (s1 : List (List Int)) : Option (Res (List (List Int)) Empty) :=
 gd (s1.length + 1 ≤ 1099511627776) <|
 some (.next (s1 ++ [(List.replicate 6 (0 : Int))]))

def Zfy (a_b : GBlock) (a_d : GBlock) (k2 : Nat) (k3 : Nat) (s3 : List (List Int)) : Option (Res (List (List Int)) Empty) :=
 gd (k2 < a_d.Cells.length) <|
 (ZeI (gx a_d.Cells k2) ((k3 : Nat) : Int)).bind fun v1 =>
 (ZeI (gx a_b.Cells k2) ((k3 : Nat) : Int)).bind fun v2 =>
 gd (0 ≤ v1 ∧ v1 < ((s3.length : Nat) : Int)) <|
 gd (0 ≤ v2 ∧ v2 < (((gx s3 ((v1).toNat)).length : Nat) : Int)) <|
 some (.next (s3.set ((v1).toNat) ((gx s3 ((v1).toNat)).set ((v2).toNat) (wr ((gx (gx s3 ((v1).toNat)) ((v2).toNat)) + 1)))))

def Zfm (a_b : GBlock) (a_d : GBlock) (k2 : Nat) (s2 : List (List Int)) : Option (Res (List (List Int)) Empty) :=
 (lpO (Zfy a_b a_d k2) 4 s2).bind fun e3 =>
 some (.next e3)

def ZfD (a_b : GBlock) (a_d : GBlock) : Option (List (List Int)) :=
 (lpO ZhF 6 ([] : List (List Int))).bind fun e1 =>
 gd (a_b.Cells.length ≤ 4611686018427387904) <|
 (lpO (Zfm a_b a_d) a_b.Cells.length e1).bind fun e2 =>
 some e2

def Zgn (rec : (List (List Int)) → (List Int) → Int → Int → Option Int) (a_t : List (List Int)) (a_l : List Int) (a_at : Int) (a_used : Int) (k1 : Nat) (s1 : Int) : Option (Res Int Empty) :=
 gd (0 ≤ ((k1 : Nat) : Int)) <|
 (
  bif ((andI (shrI a_used ((k1 : Nat) : Int)) 1) == 0) then
   gd (0 ≤ a_at ∧ a_at < ((a_l.length : Nat) : Int)) <|
   gd (0 ≤ (gx a_l ((a_at).toNat)) ∧ (gx a_l ((a_at).toNat)) < ((a_t.length : Nat) : Int)) <|
   gd (k1 < (gx a_t (((gx a_l ((a_at).toNat))).toNat)).length) <|
   (rec a_t a_l (wr (a_at + 1)) (orI a_used (shlI 1 ((k1 : Nat) : Int)))).bind fun v1 =>
   some (if (wr ((gx (gx a_t (((gx a_l ((a_at).toNat))).toNat)) k1) + v1)) > s1 then (wr ((gx (gx a_t (((gx a_l ((a_at).toNat))).toNat)) k1) + v1)) else s1)
  else
   some s1).bind fun j1 =>
 some (.next j1)

def Zcb : Nat → (List (List Int)) → (List Int) → Int → Int → Option Int
 | 0, _, _, _, _ => none
 | fuel + 1, a_t, a_l, a_at, a_used =>
  bif (a_at == ((a_l.length : Nat) : Int)) then
   some 0
  else
   (lpO (Zgn (Zcb fuel) a_t a_l a_at a_used) 6 0).bind fun e1 =>
   some e1

def Zcs (a_b : GBlock) (a_d : GBlock) (v1 : List Int) (k1 : Nat) (s1 : Int) : Option (Res Int Empty) :=
 (Zd8 a_d ((k1 : Nat) : Int)).bind fun v3 =>
 (ZfD a_b v3).bind fun v4 =>
 (Zcb (v1.length + 1) v4 v1 0 0).bind fun v5 =>
 some (.next (if v5 > s1 then v5 else s1))

def Zb3 (a_b : GBlock) (a_d : GBlock) : Option Int :=
 (ZfJ a_d).bind fun v1 =>
 (
  (Zij a_b a_d).bind fun v2 =>
  bif (!v2) then
   some true
  else
   some (decide (((v1.length : Nat) : Int) > 3))).bind fun j1 =>
 bif j1 then
  some 0
 else
  (lpO (Zcs a_b a_d v1) 8 0).bind fun e1 =>
  some e1

def Ze2 (a_e : GEntry) (a_f : GEntry) : Option Int :=
 (
  (Zcf a_e).bind fun v1 =>
  bif (!v1) then
   some true
  else
   (Zcf a_f).bind fun v2 =>
   bif (!v2) then
    some true
   else
    some (a_e.Block.Size != a_f.Block.Size)).bind fun j1 =>
 bif j1 then
  some 0
 else
  (Zcd a_e.Block a_f.Block).bind fun v3 =>
  bif v3 then
   some 3
  else
   (Zb3 a_e.Block a_f.Block).bind fun v4 =>
   bif (decide ((wr (10 * v4)) ≥ (wr (36 * ((a_e.Block.Cells.length : Nat) : Int))))) then
    some 2
   else
    some 1

def Zhs (a_e : GEntry) (a_f : GEntry) : Option Bool :=
 (Ze2 a_e a_f).bind fun v1 =>
 some (bif (v1 == 3) then ((a_e.Owner != a_f.Owner) && (decide (a_e.Day > a_f.Day))) else ((v1 == 2) && ((a_e.Owner != a_f.Owner) && (decide (a_e.Day > a_f.Day)))))

def ZgR (a_g : GGuild) (a_number : Int) (a_day : Int) (v1 : GGuild) (v2 : GBlock) (k1 : Nat) (_ : Unit) : Option (Res Unit (GGuild × Bool)) :=
 (Zhs (GEntry.mk a_number a_day v2) (gx a_g.Entries k1)).bind fun v4 =>
 bif v4 then
  some (.ret (v1, false))
 else
  some (.next ())

def Zf2 (a_g : GGuild) (a_number : Int) (a_day : Int) (a_b : GBlock) : Option (GGuild × Bool) :=
 (ZaP a_g).bind fun v1 =>
 (Za8 a_b).bind fun v2 =>
 (Zas a_g).bind fun v3 =>
 bif (!v3) then
  some (v1, false)
 else
  gd (a_g.Entries.length ≤ 4611686018427387904) <|
  sq (forO (ZgR a_g a_number a_day v1 v2) a_g.Entries.length 0 ()) fun _ =>
  (ZaP a_g).bind fun v5 =>
  gd (v5.Entries.length + 1 ≤ 1099511627776) <|
  (Zas (GGuild.mk v5.Members v5.Stock (v5.Entries ++ [(GEntry.mk a_number a_day v2)]) v5.Books v5.Round v5.Year)).bind fun v6 =>
  bif (!v6) then
   some (v1, false)
  else
   some ((GGuild.mk v5.Members v5.Stock (v5.Entries ++ [(GEntry.mk a_number a_day v2)]) v5.Books v5.Round v5.Year), true)

def ZdA (a_g : GGuild) : Option (GGuild × Bool) :=
 (ZaP a_g).bind fun v1 =>
 (
  (Zas a_g).bind fun v2 =>
  bif (!v2) then
   some true
  else
   (Zas (GGuild.mk v1.Members v1.Stock v1.Entries v1.Books (wr (v1.Round + 1)) v1.Year)).bind fun v3 =>
   some (!v3)).bind fun j1 =>
 bif j1 then
  (ZaP a_g).bind fun v4 =>
  some (v4, false)
 else
  some ((GGuild.mk v1.Members v1.Stock v1.Entries v1.Books (wr (v1.Round + 1)) v1.Year), true)

def Zft (a_c0 : List UInt8) (a_top : Int) (_ : Nat) (s1 : (List Int) × Int × Int) : Option (Res ((List Int) × Int × Int) Empty) :=
 (ZN a_c0 s1.2.1 s1.2.2 a_top).bind fun v1 =>
 gd (s1.1.length + 1 ≤ 1099511627776) <|
 some (.next ((s1.1 ++ [v1.1]), v1.2.1, v1.2.2))

def ZfS (a_c0 : List UInt8) (a_c1 : Int) (a_c2 : Int) (a_top : Int) : Option ((List Int) × Int × Int) :=
 (lpO (Zft a_c0 a_top) 6 (([] : List Int), a_c1, a_c2)).bind fun e1 =>
 some (e1.1, e1.2.1, e1.2.2)

def ZdO (a_c0 : List UInt8) (s1 : Int × Int × Int × (List GMember) × (List Int) × (List GEntry) × (List GBooking) × Int × Int) : Option (Res (Int × Int × Int × (List GMember) × (List Int) × (List GEntry) × (List GBooking) × Int × Int) Empty) :=
 bif (decide (s1.1 > 0)) then
  (ZN a_c0 s1.2.1 s1.2.2.1 8).bind fun v4 =>
  (ZcO (GGuild.mk s1.2.2.2.1 s1.2.2.2.2.1 s1.2.2.2.2.2.1 s1.2.2.2.2.2.2.1 s1.2.2.2.2.2.2.2.1 s1.2.2.2.2.2.2.2.2) (wr (1 + v4.1))).bind fun v5 =>
  some (.next ((wr (s1.1 - 1)), v4.2.1, v4.2.2, v5.1.Members, v5.1.Stock, v5.1.Entries, v5.1.Books, v5.1.Round, v5.1.Year))
 else
  some (.brk (s1.1, s1.2.1, s1.2.2.1, s1.2.2.2.1, s1.2.2.2.2.1, s1.2.2.2.2.2.1, s1.2.2.2.2.2.2.1, s1.2.2.2.2.2.2.2.1, s1.2.2.2.2.2.2.2.2))

def ZdQ (a_c0 : List UInt8) (_ : Nat) (s3 : (List GCell) × Int × Int) : Option (Res ((List GCell) × Int × Int) Empty) :=
 (ZgB a_c0 s3.2.1 s3.2.2).bind fun v8 =>
 gd (s3.1.length + 1 ≤ 1099511627776) <|
 some (.next ((s3.1 ++ [v8.1]), v8.2.1, v8.2.2))

def ZdL (a_c0 : List UInt8) (s2 : Int × Int × Int × Int × (List GMember) × (List Int) × (List GEntry) × (List GBooking) × Int × Int) : Option (Res (Int × Int × Int × Int × (List GMember) × (List Int) × (List GEntry) × (List GBooking) × Int × Int) Empty) :=
 bif ((decide (s2.2.1 > 0)) && (decide (((s2.2.2.2.2.1.length : Nat) : Int) > 0))) then
  (ZN a_c0 s2.2.2.1 s2.2.2.2.1 3).bind fun v7 =>
  (lpO (ZdQ a_c0) 4 (([] : List GCell), v7.2.1, v7.2.2)).bind fun e3 =>
  (ZN a_c0 e3.2.1 e3.2.2 ((s2.2.2.2.2.1.length : Nat) : Int)).bind fun v9 =>
  gd (0 ≤ v9.1 ∧ v9.1 < ((s2.2.2.2.2.1.length : Nat) : Int)) <|
  (Zf2 (GGuild.mk s2.2.2.2.2.1 s2.2.2.2.2.2.1 s2.2.2.2.2.2.2.1 s2.2.2.2.2.2.2.2.1 s2.2.2.2.2.2.2.2.2.1 s2.2.2.2.2.2.2.2.2.2) ((gx s2.2.2.2.2.1 ((v9.1).toNat)).Number) (wr (s2.1 + v7.1)) (GBlock.mk 2 e3.1)).bind fun v10 =>
  some (.next ((wr (s2.1 + v7.1)), (wr (s2.2.1 - 1)), v9.2.1, v9.2.2, v10.1.Members, v10.1.Stock, v10.1.Entries, v10.1.Books, v10.1.Round, v10.1.Year))
 else
  some (.brk (s2.1, s2.2.1, s2.2.2.1, s2.2.2.2.1, s2.2.2.2.2.1, s2.2.2.2.2.2.1, s2.2.2.2.2.2.2.1, s2.2.2.2.2.2.2.2.1, s2.2.2.2.2.2.2.2.2.1, s2.2.2.2.2.2.2.2.2.2))

def ZdF (s4 : Int × (List GMember) × (List Int) × (List GEntry) × (List GBooking) × Int × Int) : Option (Res (Int × (List GMember) × (List Int) × (List GEntry) × (List GBooking) × Int × Int) Empty) :=
 bif (decide (s4.1 > 0)) then
  (ZdA (GGuild.mk s4.2.1 s4.2.2.1 s4.2.2.2.1 s4.2.2.2.2.1 s4.2.2.2.2.2.1 s4.2.2.2.2.2.2)).bind fun v12 =>
  some (.next ((wr (s4.1 - 1)), v12.1.Members, v12.1.Stock, v12.1.Entries, v12.1.Books, v12.1.Round, v12.1.Year))
 else
  some (.brk (s4.1, s4.2.1, s4.2.2.1, s4.2.2.2.1, s4.2.2.2.2.1, s4.2.2.2.2.2.1, s4.2.2.2.2.2.2))

def ZfB (a_c0 : List UInt8) (a_c1 : Int) (a_c2 : Int) : Option (GGuild × Int × Int) :=
 (ZN a_c0 a_c1 a_c2 20).bind fun v1 =>
 (Zcr (wr (2000 + v1.1))).bind fun v2 =>
 (ZN a_c0 v1.2.1 v1.2.2 5).bind fun v3 =>
 (wlO (ZdO a_c0) 18446744073709551616 (v3.1, v3.2.1, v3.2.2, v2.1.Members, v2.1.Stock, v2.1.Entries, v2.1.Books, v2.1.Round, v2.1.Year)).bind fun e1 =>
 (ZN a_c0 e1.2.1 e1.2.2.1 4).bind fun v6 =>
 (wlO (ZdL a_c0) 18446744073709551616 (0, v6.1, v6.2.1, v6.2.2, e1.2.2.2.1, e1.2.2.2.2.1, e1.2.2.2.2.2.1, e1.2.2.2.2.2.2.1, e1.2.2.2.2.2.2.2.1, e1.2.2.2.2.2.2.2.2)).bind fun e2 =>
 (ZN a_c0 e2.2.2.1 e2.2.2.2.1 4).bind fun v11 =>
 (wlO ZdF 18446744073709551616 (v11.1, e2.2.2.2.2.1, e2.2.2.2.2.2.1, e2.2.2.2.2.2.2.1, e2.2.2.2.2.2.2.2.1, e2.2.2.2.2.2.2.2.2.1, e2.2.2.2.2.2.2.2.2.2)).bind fun e4 =>
 (ZeZ a_c0 v11.2.1 v11.2.2 3).bind fun v13 =>
 (
  bif v13.1 then
   (ZfS a_c0 v13.2.1 v13.2.2 60).bind fun v14 =>
   some (v14.1, (Gl01Cur.mk a_c0 v14.2.1 v14.2.2))
  else
   some (e4.2.2.1, (Gl01Cur.mk a_c0 v13.2.1 v13.2.2))).bind fun j2 =>
 some ((GGuild.mk e4.2.1 j2.1 e4.2.2.2.1 e4.2.2.2.2.1 e4.2.2.2.2.2.1 e4.2.2.2.2.2.2), (j2.2).i, (j2.2).h)

def ZfG (a_c0 : List UInt8) (a_c1 : Int) (a_c2 : Int) : Option (GGuild × Int × Int) :=
 (ZeZ a_c0 a_c1 a_c2 2).bind fun v1 =>
 bif v1.1 then
  ZbQ.bind fun v2 =>
  some (v2, v1.2.1, v1.2.2)
 else
  (ZfB a_c0 v1.2.1 v1.2.2).bind fun v3 =>
  some (v3.1, v3.2.1, v3.2.2)

def Zhn (a_c0 : List UInt8) (a_c1 : Int) (a_c2 : Int) : Option (GAct × Int × Int) :=
 (ZN a_c0 a_c1 a_c2 8).bind fun v1 =>
 bif (v1.1 == 0) then
  (ZN a_c0 v1.2.1 v1.2.2 8).bind fun v2 =>
  some ((GAct.mk 1 (wr (1 + v2.1)) 0), v2.2.1, v2.2.2)
 else
  bif ((v1.1 == 1) || (v1.1 == 2)) then
   (ZN a_c0 v1.2.1 v1.2.2 5).bind fun v3 =>
   (ZN a_c0 v3.2.1 v3.2.2 10).bind fun v4 =>
   some ((GAct.mk 2 (wr (1 + v3.1)) v4.1), v4.2.1, v4.2.2)
  else
   bif (v1.1 == 3) then
    (ZN a_c0 v1.2.1 v1.2.2 4).bind fun v5 =>
    some ((GAct.mk 3 v5.1 0), v5.2.1, v5.2.2)
   else
    bif ((v1.1 == 4) || (v1.1 == 5)) then
     some ((GAct.mk 4 0 0), v1.2.1, v1.2.2)
    else
     bif (v1.1 == 6) then
      some ((GAct.mk 5 0 0), v1.2.1, v1.2.2)
     else
      (ZN a_c0 v1.2.1 v1.2.2 4).bind fun v6 =>
      some ((GAct.mk 6 v6.1 0), v6.2.1, v6.2.2)

def Zgj (a_c0 : List UInt8) (_ : Nat) (s1 : (List GAct) × Int × Int) : Option (Res ((List GAct) × Int × Int) Empty) :=
 (Zhn a_c0 s1.2.1 s1.2.2).bind fun v2 =>
 gd (s1.1.length + 1 ≤ 1099511627776) <|
 some (.next ((s1.1 ++ [v2.1]), v2.2.1, v2.2.2))

def ZgM (a_c0 : List UInt8) (a_c1 : Int) (a_c2 : Int) : Option ((List GAct) × Int × Int) :=
 (ZN a_c0 a_c1 a_c2 14).bind fun v1 =>
 gd ((v1.1).toNat ≤ 4611686018427387904) <|
 (lpO (Zgj a_c0) ((v1.1).toNat) (([] : List GAct), v1.2.1, v1.2.2)).bind fun e1 =>
 some (e1.1, e1.2.1, e1.2.2)

def ZfE (a_code : List UInt8) : Option (GGuild × (List GAct)) :=
 (Zhq a_code).bind fun v1 =>
 (ZfG a_code v1.1 v1.2).bind fun v2 =>
 (ZgM a_code v2.2.1 v2.2.2).bind fun v3 =>
 some (v2.1, v3.1)

def Zq (a_n : Int) (a_a : Int) (a_b : Int) : Option Bool :=
 some ((decide (a_n ≥ a_a)) && (decide (a_n ≤ a_b)))

def ZgV (a_a : GAct) : Option Bool :=
 bif (a_a.Kind == 1) then
  (
   (Zq a_a.A 1 999).bind fun v1 =>
   bif v1 then
    some (a_a.B == 0)
   else
    some false).bind fun j1 =>
  some j1
 else
  bif (a_a.Kind == 2) then
   (
    (Zq a_a.A 1 999).bind fun v2 =>
    bif v2 then
     (Zq a_a.B 0 9).bind fun v3 =>
     some v3
    else
     some false).bind fun j2 =>
   some j2
  else
   bif ((a_a.Kind == 3) || (a_a.Kind == 6)) then
    (
     (Zq a_a.A 0 9).bind fun v4 =>
     bif v4 then
      some (a_a.B == 0)
     else
      some false).bind fun j4 =>
    some j4
   else
    some (bif (a_a.Kind == 4) then ((a_a.A == 0) && (a_a.B == 0)) else ((a_a.Kind == 5) && ((a_a.A == 0) && (a_a.B == 0))))

def strconv_Itoa (a_i : Int) : Option Str :=
 gd (0 ≤ a_i ∧ a_i < 10) <|
 some (⟨[UInt8.ofNat (48 + a_i.toNat)]⟩ : Str)

def ZeY (a_i : Int) : Option Str :=
 gd (-9223372036854775808 ≤ a_i ∧ a_i ≤ 9223372036854775807) <|
 some (⟨Lib.itoa a_i⟩ : Str)

def ZcA (a_n : Int) : Option Str :=
 (strconv_Itoa a_n).bind fun v1 =>
 some v1

def Zae (a_n : Int) : Option Str :=
 (ZeY a_n).bind fun v1 =>
 some v1

def strings_Join (a_elems : List Str) (a_sep : Str) : Option Str :=
 gd (a_elems.length ≤ 140737488355328 ∧ (Lib.join (a_elems.map Str.b) a_sep.b).length ≤ 140737488355328) <|
 some (⟨Lib.join (a_elems.map Str.b) a_sep.b⟩ : Str)

def Zg3 (a_list : List Int) (k1 : Nat) (s1 : List Str) : Option (Res (List Str) Empty) :=
 (Zae (gx a_list k1)).bind fun v1 =>
 gd (s1.length + 1 ≤ 1099511627776) <|
 some (.next (s1 ++ [v1]))

def ZbM (a_word : Str) (a_list : List Int) : Option Str :=
 gd (a_list.length ≤ 4611686018427387904) <|
 (lpO (Zg3 a_list) a_list.length ([a_word] : List Str)).bind fun e1 =>
 (strings_Join e1 (⟨[32]⟩ : Str)).bind fun v2 =>
 some v2

def ZcC (a_a : GAct) : Option (Str × Bool) :=
 (ZgV a_a).bind fun v1 =>
 bif (!v1) then
  some ((⟨[]⟩ : Str), false)
 else
  bif (a_a.Kind == 1) then
   (ZbM (⟨[97, 100, 109, 105, 116]⟩ : Str) ([a_a.A] : List Int)).bind fun v2 =>
   some (v2, true)
  else
   bif (a_a.Kind == 2) then
    (ZbM (⟨[115, 117, 98, 109, 105, 116]⟩ : Str) ([a_a.A, a_a.B] : List Int)).bind fun v3 =>
    some (v3, true)
   else
    bif (a_a.Kind == 3) then
     (ZbM (⟨[115, 101, 119]⟩ : Str) ([a_a.A] : List Int)).bind fun v4 =>
     some (v4, true)
    else
     bif (a_a.Kind == 6) then
      (ZbM (⟨[108, 97, 99, 107]⟩ : Str) ([a_a.A] : List Int)).bind fun v5 =>
      some (v5, true)
     else
      bif (a_a.Kind == 4) then
       some ((⟨[114, 111, 117, 110, 100]⟩ : Str), true)
      else
       some ((⟨[121, 101, 97, 114]⟩ : Str), true)

def Zel (a_acts : List GAct) (k1 : Nat) (s1 : Str) : Option (Res Str (Str × Bool)) :=
 (ZcC (gx a_acts k1)).bind fun v1 =>
 bif (!v1.2) then
  some (.ret ((⟨[]⟩ : Str), false))
 else
  gd (v1.1.b.length + (⟨[10]⟩ : Str).b.length ≤ 1099511627776) <|
  gd (s1.b.length + (sadd v1.1 (⟨[10]⟩ : Str)).b.length ≤ 1099511627776) <|
  some (.next (sadd s1 (sadd v1.1 (⟨[10]⟩ : Str))))

def Zee (a_acts : List GAct) : Option (Str × Bool) :=
 bif (decide (((a_acts.length : Nat) : Int) > 40)) then
  some ((⟨[]⟩ : Str), false)
 else
  gd (a_acts.length ≤ 4611686018427387904) <|
  sq (forO (Zel a_acts) a_acts.length 0 (⟨[]⟩ : Str)) fun e1 =>
  some (e1, true)

def Zr5 (a_s a_sep : Str) : List Str := (Lib.splitB ⟨a_sep.b.toArray⟩ 0 (Lib.countB ⟨a_s.b.toArray⟩ ⟨a_sep.b.toArray⟩) ⟨a_s.b.toArray⟩).map fun x => ⟨x.data.toList⟩
def strings_Split (a_s : Str) (a_sep : Str) : Option (List Str) :=
 gd (a_s.b.length < 4294967281 ∧ 1 ≤ a_sep.b.length) <|
 some (Zr5 a_s a_sep)

def ZbJ (a_line : Str) (k1 : Nat) (s1 : (List Str) × Int) : Option (Res ((List Str) × Int) ((List Str) × Bool)) :=
 bif ((decide ((((sat_ a_line k1)).toNat : Int) < 32)) || (decide ((((sat_ a_line k1)).toNat : Int) > 126))) then
  some (.ret (([] : List Str), false))
 else
  (
   bif ((((sat_ a_line k1)).toNat : Int) == 32) then
    (
     bif (decide (s1.2 ≥ 0)) then
      gd (0 ≤ s1.2 ∧ (s1.2).toNat ≤ k1 ∧ k1 ≤ a_line.b.length) <|
      gd (s1.1.length + 1 ≤ 1099511627776) <|
      some (s1.1 ++ [(ssub a_line ((s1.2).toNat) k1)])
     else
      some s1.1).bind fun j3 =>
    some (j3, (-1))
   else
    bif (decide (s1.2 < 0)) then
     some (s1.1, ((k1 : Nat) : Int))
    else
     some (s1.1, s1.2)).bind fun j2 =>
  some (.next (j2.1, j2.2))

def ZcE (a_line : Str) : Option ((List Str) × Bool) :=
 bif (decide (((a_line.b.length : Nat) : Int) > 600)) then
  some (([] : List Str), false)
 else
  gd (a_line.b.length ≤ 4611686018427387904) <|
  sq (forO (ZbJ a_line) a_line.b.length 0 (([] : List Str), (-1))) fun e1 =>
  (
   bif (decide (e1.2 ≥ 0)) then
    gd (0 ≤ e1.2 ∧ (e1.2).toNat ≤ a_line.b.length ∧ a_line.b.length ≤ a_line.b.length) <|
    gd (e1.1.length + 1 ≤ 1099511627776) <|
    some (e1.1 ++ [(ssub a_line ((e1.2).toNat) a_line.b.length)])
   else
    some e1.1).bind fun j4 =>
  bif (decide (((j4.length : Nat) : Int) > 24)) then
   some (([] : List Str), false)
  else
   some (j4, true)

def strconv_Atoi (a_s : Str) : Option (Int × Bool) :=
 gd (a_s.b.length ≤ 18) <|
 some (match Lib.atoi a_s.b with
  | some n => (n, false)
  | none => (0, true))

def ZbT (a_s : Str) : Option (Int × Bool) :=
 bif (decide (((a_s.b.length : Nat) : Int) > 10)) then
  some (0, false)
 else
  (strconv_Atoi a_s).bind fun v1 =>
  (
   bif v1.2 then
    some true
   else
    (Zq v1.1 0 1000000000).bind fun v2 =>
    bif (!v2) then
     some true
    else
     (Zae v1.1).bind fun v3 =>
     some (!(seq v3 a_s))).bind fun j1 =>
  bif j1 then
   some (0, false)
  else
   some (v1.1, true)

def ZdM (v1 : (List Str) × Bool) (k1 : Nat) (s1 : Int) : Option (Res Int Empty) :=
 gd (0 < v1.1.length) <|
 some (.next (bif (seq (gx ([(⟨[]⟩ : Str), (⟨[97, 100, 109, 105, 116]⟩ : Str), (⟨[115, 117, 98, 109, 105, 116]⟩ : Str), (⟨[115, 101, 119]⟩ : Str), (⟨[114, 111, 117, 110, 100]⟩ : Str), (⟨[121, 101, 97, 114]⟩ : Str), (⟨[108, 97, 99, 107]⟩ : Str)] : List Str) k1) (gx v1.1 0)) then ((k1 : Nat) : Int) else s1))

def Zar (v1 : (List Str) × Bool) (k2 : Nat) (s2 : Int × Int × Int) : Option (Res (Int × Int × Int) (GAct × Bool)) :=
 (ZbT (gx ((v1.1.drop 1).take (v1.1.length - 1)) k2)).bind fun v3 =>
 bif (!v3.2) then
  some (.ret ((GAct.mk 0 0 0), false))
 else
  some (.next ((bif (((k2 : Nat) : Int) == 0) then (GAct.mk s2.1 v3.1 s2.2.2) else (GAct.mk s2.1 s2.2.1 v3.1)).Kind, (bif (((k2 : Nat) : Int) == 0) then (GAct.mk s2.1 v3.1 s2.2.2) else (GAct.mk s2.1 s2.2.1 v3.1)).A, (bif (((k2 : Nat) : Int) == 0) then (GAct.mk s2.1 v3.1 s2.2.2) else (GAct.mk s2.1 s2.2.1 v3.1)).B))

def Zco (a_line : Str) : Option (GAct × Bool) :=
 (ZcE a_line).bind fun v1 =>
 (
  bif (!v1.2) then
   some true
  else
   (Zq ((v1.1.length : Nat) : Int) 1 3).bind fun v2 =>
   some (!v2)).bind fun j1 =>
 bif j1 then
  some ((GAct.mk 0 0 0), false)
 else
  gd (([(⟨[]⟩ : Str), (⟨[97, 100, 109, 105, 116]⟩ : Str), (⟨[115, 117, 98, 109, 105, 116]⟩ : Str), (⟨[115, 101, 119]⟩ : Str), (⟨[114, 111, 117, 110, 100]⟩ : Str), (⟨[121, 101, 97, 114]⟩ : Str), (⟨[108, 97, 99, 107]⟩ : Str)] : List Str).length ≤ 4611686018427387904) <|
  (lpO (ZdM v1) (([(⟨[]⟩ : Str), (⟨[97, 100, 109, 105, 116]⟩ : Str), (⟨[115, 117, 98, 109, 105, 116]⟩ : Str), (⟨[115, 101, 119]⟩ : Str), (⟨[114, 111, 117, 110, 100]⟩ : Str), (⟨[121, 101, 97, 114]⟩ : Str), (⟨[108, 97, 99, 107]⟩ : Str)] : List Str).length) 0).bind fun e1 =>
  gd (1 ≤ v1.1.length ∧ v1.1.length ≤ v1.1.length) <|
  gd (((v1.1.drop 1).take (v1.1.length - 1)).length ≤ 4611686018427387904) <|
  sq (forO (Zar v1) (((v1.1.drop 1).take (v1.1.length - 1)).length) 0 (e1, 0, 0)) fun e2 =>
  (ZcC (GAct.mk e2.1 e2.2.1 e2.2.2)).bind fun v4 =>
  (
   bif (!v4.2) then
    some true
   else
    (strings_Join v1.1 (⟨[32]⟩ : Str)).bind fun v5 =>
    some (!(seq v4.1 v5))).bind fun j4 =>
  bif j4 then
   some ((GAct.mk 0 0 0), false)
  else
   some ((GAct.mk e2.1 e2.2.1 e2.2.2), true)

def Zes (a_list : List GMember) (k1 : Nat) (_ : Unit) : Option (Res Unit Bool) :=
 (
  (Zq ((gx a_list k1).Number) 1 999).bind fun v1 =>
  bif (!v1) then
   some true
  else
   bif (decide (((k1 : Nat) : Int) > 0)) then
    gd (0 ≤ (wr (((k1 : Nat) : Int) - 1)) ∧ (wr (((k1 : Nat) : Int) - 1)) < ((a_list.length : Nat) : Int)) <|
    bif (decide ((gx a_list k1).Number ≤ (gx a_list (((wr (((k1 : Nat) : Int) - 1))).toNat)).Number)) then
     some true
    else
     (Zq ((gx a_list k1).Since) 1900 2999).bind fun v2 =>
     bif (!v2) then
      some true
     else
      (Zq ((gx a_list k1).Paid) (wr ((gx a_list k1).Since - 1)) 2999).bind fun v3 =>
      some (!v3)
   else
    (Zq ((gx a_list k1).Since) 1900 2999).bind fun v4 =>
    bif (!v4) then
     some true
    else
     (Zq ((gx a_list k1).Paid) (wr ((gx a_list k1).Since - 1)) 2999).bind fun v5 =>
     some (!v5)).bind fun j1 =>
 bif j1 then
  some (.ret false)
 else
  some (.next ())

def Zbd (a_list : List GMember) : Option Bool :=
 gd (a_list.length ≤ 4611686018427387904) <|
 sq (forO (Zes a_list) a_list.length 0 ()) fun _ =>
 some (decide (((a_list.length : Nat) : Int) ≤ 40))

def Zcn (a_list : List Int) (a_a : Int) (a_b : Int) (k1 : Nat) (_ : Unit) : Option (Res Unit Bool) :=
 (Zq (gx a_list k1) a_a a_b).bind fun v1 =>
 bif (!v1) then
  some (.ret false)
 else
  some (.next ())

def Zby (a_list : List Int) (a_a : Int) (a_b : Int) : Option Bool :=
 gd (a_list.length ≤ 4611686018427387904) <|
 sq (forO (Zcn a_list a_a a_b) a_list.length 0 ()) fun _ =>
 some true

def ZcT (a_stock : List Int) : Option Bool :=
 (
  bif (((a_stock.length : Nat) : Int) == 6) then
   (Zby a_stock 0 1000000).bind fun v1 =>
   some v1
  else
   some false).bind fun j1 =>
 some j1

def Zfu (a_list : List GBooking) (k1 : Nat) (_ : Unit) : Option (Res Unit Bool) :=
 (
  (Zq ((gx a_list k1).Day) 0 9999).bind fun v1 =>
  bif (!v1) then
   some true
  else
   bif (decide (((k1 : Nat) : Int) > 0)) then
    gd (0 ≤ (wr (((k1 : Nat) : Int) - 1)) ∧ (wr (((k1 : Nat) : Int) - 1)) < ((a_list.length : Nat) : Int)) <|
    bif (decide ((gx a_list k1).Day < (gx a_list (((wr (((k1 : Nat) : Int) - 1))).toNat)).Day)) then
     some true
    else
     (Zq ((gx a_list k1).From) 0 4).bind fun v2 =>
     bif (!v2) then
      some true
     else
      (Zq ((gx a_list k1).To) 0 4).bind fun v3 =>
      bif (!v3) then
       some true
      else
       bif ((gx a_list k1).From == (gx a_list k1).To) then
        some true
       else
        (Zq ((gx a_list k1).Sum) 1 100000).bind fun v4 =>
        some (!v4)
   else
    (Zq ((gx a_list k1).From) 0 4).bind fun v5 =>
    bif (!v5) then
     some true
    else
     (Zq ((gx a_list k1).To) 0 4).bind fun v6 =>
     bif (!v6) then
      some true
     else
      bif ((gx a_list k1).From == (gx a_list k1).To) then
       some true
      else
       (Zq ((gx a_list k1).Sum) 1 100000).bind fun v7 =>
       some (!v7)).bind fun j1 =>
 bif j1 then
  some (.ret false)
 else
  some (.next ())

def Zc8 (a_list : List GBooking) : Option Bool :=
 gd (a_list.length ≤ 4611686018427387904) <|
 sq (forO (Zfu a_list) a_list.length 0 ()) fun _ =>
 some (decide (((a_list.length : Nat) : Int) ≤ 60))

def ZdN (a_a : Int) : Option Bool :=
 (Zq a_a 0 5).bind fun v1 =>
 some v1

def ZaV (a_c : GCell) : Option Bool :=
 (
  (Zq a_c.Split 0 2).bind fun v1 =>
  bif v1 then
   (ZdN a_c.A).bind fun v2 =>
   bif v2 then
    (ZdN a_c.B).bind fun v3 =>
    bif v3 then
     some ((a_c.Split == 0) == (a_c.A == a_c.B))
    else
     some false
   else
    some false
  else
   some false).bind fun j1 =>
 some j1

def Zgm (a_b : GBlock) (k1 : Nat) (_ : Unit) : Option (Res Unit Bool) :=
 (ZaV (gx a_b.Cells k1)).bind fun v2 =>
 bif (!v2) then
  some (.ret false)
 else
  some (.next ())

def ZY (a_b : GBlock) : Option Bool :=
 (
  (Zq a_b.Size 1 4).bind fun v1 =>
  bif (!v1) then
   some true
  else
   some (((a_b.Cells.length : Nat) : Int) != (wr (a_b.Size * a_b.Size)))).bind fun j1 =>
 bif j1 then
  some false
 else
  gd (a_b.Cells.length ≤ 4611686018427387904) <|
  sq (forO (Zgm a_b) a_b.Cells.length 0 ()) fun _ =>
  some true

def Zce (a_e : GEntry) : Option Bool :=
 (
  (Zq a_e.Owner 0 99).bind fun v1 =>
  bif v1 then
   (Zq a_e.Day 0 9999).bind fun v2 =>
   bif v2 then
    (ZY a_e.Block).bind fun v3 =>
    some v3
   else
    some false
  else
   some false).bind fun j1 =>
 some j1

def Ze8 (a_list : List GMember) (a_number : Int) (k1 : Nat) (_ : Unit) : Option (Res Unit Bool) :=
 bif ((gx a_list k1).Number == a_number) then
  some (.ret true)
 else
  some (.next ())

def ZfM (a_list : List GMember) (a_number : Int) : Option Bool :=
 gd (a_list.length ≤ 4611686018427387904) <|
 sq (forO (Ze8 a_list a_number) a_list.length 0 ()) fun _ =>
 some false

def Zdm (a_list : List GMember) (a_year : Int) (k1 : Nat) (s1 : List Int) : Option (Res (List Int) Empty) :=
 (
  bif (decide ((gx a_list k1).Paid ≥ a_year)) then
   gd (s1.length + 1 ≤ 1099511627776) <|
   some (s1 ++ [(gx a_list k1).Number])
  else
   some s1).bind fun j1 =>
 some (.next j1)

def Zdb (a_list : List GMember) (a_year : Int) : Option (List Int) :=
 (Zbd a_list).bind fun v1 =>
 bif (!v1) then
  some ([] : List Int)
 else
  gd (a_list.length ≤ 4611686018427387904) <|
  (lpO (Zdm a_list a_year) a_list.length ([] : List Int)).bind fun e1 =>
  some e1

def Zb8 (a_g : GGuild) : Option Int :=
 (Zdb a_g.Members a_g.Year).bind fun v1 =>
 (Zq ((v1.length : Nat) : Int) 2 10).bind fun v2 =>
 bif v2 then
  some (wr (((v1.length : Nat) : Int) - 1))
 else
  some 0

def Zgg (a_g : GGuild) (k1 : Nat) (_ : Unit) : Option (Res Unit Bool) :=
 (
  (Zce (GEntry.mk ((gx a_g.Entries k1).Owner) ((gx a_g.Entries k1).Day) ((gx a_g.Entries k1).Block))).bind fun v4 =>
  bif (!v4) then
   some true
  else
   (ZfM a_g.Members ((gx a_g.Entries k1).Owner)).bind fun v5 =>
   bif (!v5) then
    some true
   else
    bif (decide (((k1 : Nat) : Int) > 0)) then
     gd (0 ≤ (wr (((k1 : Nat) : Int) - 1)) ∧ (wr (((k1 : Nat) : Int) - 1)) < ((a_g.Entries.length : Nat) : Int)) <|
     some (decide ((gx a_g.Entries k1).Day < (gx a_g.Entries (((wr (((k1 : Nat) : Int) - 1))).toNat)).Day))
    else
     some false).bind fun j2 =>
 bif j2 then
  some (.ret false)
 else
  some (.next ())

def Zba (a_g : GGuild) : Option Bool :=
 (
  (Zbd a_g.Members).bind fun v1 =>
  bif (!v1) then
   some true
  else
   (ZcT a_g.Stock).bind fun v2 =>
   bif (!v2) then
    some true
   else
    (Zc8 a_g.Books).bind fun v3 =>
    bif (!v3) then
     some true
    else
     some (decide (((a_g.Entries.length : Nat) : Int) > 10))).bind fun j1 =>
 bif j1 then
  some false
 else
  gd (a_g.Entries.length ≤ 4611686018427387904) <|
  sq (forO (Zgg a_g) a_g.Entries.length 0 ()) fun _ =>
  (
   (Zq a_g.Year 1900 2999).bind fun v6 =>
   bif v6 then
    (Zb8 a_g).bind fun v7 =>
    (Zq a_g.Round 0 v7).bind fun v8 =>
    some v8
   else
    some false).bind fun j3 =>
  some j3

def ZfT (a_year : Int) : Option (GGuild × Bool) :=
 (Zba (GGuild.mk ([] : List GMember) ([1000, 1000, 1000, 1000, 1000, 1000] : List Int) ([] : List GEntry) ([] : List GBooking) 0 a_year)).bind fun v1 =>
 bif (!v1) then
  some ((GGuild.mk ([] : List GMember) ([] : List Int) ([] : List GEntry) ([] : List GBooking) 0 0), false)
 else
  some ((GGuild.mk ([] : List GMember) ([1000, 1000, 1000, 1000, 1000, 1000] : List Int) ([] : List GEntry) ([] : List GBooking) 0 a_year), true)

def Zbp (a_list : List GMember) : Option (List GMember) :=
 gd (([] : List GMember).length + a_list.length ≤ 1099511627776) <|
 some (([] : List GMember) ++ a_list)

def ZfW (a_list : List Int) : Option (List Int) :=
 gd (([] : List Int).length + a_list.length ≤ 1099511627776) <|
 some (([] : List Int) ++ a_list)

def Zal (a_b : GBlock) : Option GBlock :=
 gd (([] : List GCell).length + a_b.Cells.length ≤ 1099511627776) <|
 some (GBlock.mk a_b.Size (([] : List GCell) ++ a_b.Cells))

def Zdo (a_g : GGuild) (k1 : Nat) (s1 : List GEntry) : Option (Res (List GEntry) Empty) :=
 (Zal ((gx a_g.Entries k1).Block)).bind fun v3 =>
 gd (s1.length + 1 ≤ 1099511627776) <|
 some (.next (s1 ++ [(GEntry.mk ((gx a_g.Entries k1).Owner) ((gx a_g.Entries k1).Day) v3)]))

def Z6 (a_g : GGuild) : Option GGuild :=
 (Zbp a_g.Members).bind fun v1 =>
 (ZfW a_g.Stock).bind fun v2 =>
 gd (([] : List GBooking).length + a_g.Books.length ≤ 1099511627776) <|
 gd (a_g.Entries.length ≤ 4611686018427387904) <|
 (lpO (Zdo a_g) a_g.Entries.length ([] : List GEntry)).bind fun e1 =>
 some (GGuild.mk v1 v2 e1 (([] : List GBooking) ++ a_g.Books) a_g.Round a_g.Year)

def Zhg (a_list : List GMember) (a_number : Int) (s1 : Int) : Option (Res Int Empty) :=
 (
  bif (decide (s1 < ((a_list.length : Nat) : Int))) then
   gd (0 ≤ s1 ∧ s1 < ((a_list.length : Nat) : Int)) <|
   some (decide ((gx a_list ((s1).toNat)).Number < a_number))
  else
   some false).bind fun j1 =>
 bif j1 then
  some (.next (wr (s1 + 1)))
 else
  some (.brk s1)

def Zcz (a_list : List GMember) (a_number : Int) (a_year : Int) : Option ((List GMember) × Bool) :=
 (wlO (Zhg a_list a_number) 18446744073709551616 0).bind fun e1 =>
 gd (0 ≤ e1 ∧ 0 ≤ (e1).toNat ∧ (e1).toNat ≤ a_list.length) <|
 gd (([] : List GMember).length + ((a_list.drop 0).take ((e1).toNat - 0)).length ≤ 1099511627776) <|
 gd ((([] : List GMember) ++ ((a_list.drop 0).take ((e1).toNat - 0))).length + 1 ≤ 1099511627776) <|
 gd (0 ≤ e1 ∧ (e1).toNat ≤ a_list.length ∧ a_list.length ≤ a_list.length) <|
 gd (((([] : List GMember) ++ ((a_list.drop 0).take ((e1).toNat - 0))) ++ [(GMember.mk a_number a_year (wr (a_year - 1)))]).length + ((a_list.drop ((e1).toNat)).take (a_list.length - ((e1).toNat))).length ≤ 1099511627776) <|
 (
  (Zbd a_list).bind fun v1 =>
  bif (!v1) then
   some true
  else
   (Zbd (((([] : List GMember) ++ ((a_list.drop 0).take ((e1).toNat - 0))) ++ [(GMember.mk a_number a_year (wr (a_year - 1)))]) ++ ((a_list.drop ((e1).toNat)).take (a_list.length - ((e1).toNat))))).bind fun v2 =>
   some (!v2)).bind fun j2 =>
 bif j2 then
  (Zbp a_list).bind fun v3 =>
  some (v3, false)
 else
  some ((((([] : List GMember) ++ ((a_list.drop 0).take ((e1).toNat - 0))) ++ [(GMember.mk a_number a_year (wr (a_year - 1)))]) ++ ((a_list.drop ((e1).toNat)).take (a_list.length - ((e1).toNat)))), true)

def Zgt (a_number : Int) (a_years : Int) (k1 : Nat) (s1 : (List GMember) × Bool) : Option (Res ((List GMember) × Bool) Empty) :=
 gd (k1 < s1.1.length) <|
 some (.next ((bif ((gx s1.1 k1).Number == a_number) then (s1.1.set k1 (GMember.mk ((gx s1.1 k1).Number) ((gx s1.1 k1).Since) (wr ((gx s1.1 k1).Paid + a_years)))) else s1.1), (((gx s1.1 k1).Number == a_number) || s1.2)))

def ZgD (a_list : List GMember) (a_number : Int) (a_years : Int) : Option ((List GMember) × Bool) :=
 (Zbp a_list).bind fun v1 =>
 (
  (Zbd a_list).bind fun v2 =>
  bif (!v2) then
   some true
  else
   (Zq a_years 1 10).bind fun v3 =>
   some (!v3)).bind fun j1 =>
 bif j1 then
  some (v1, false)
 else
  gd (v1.length ≤ 4611686018427387904) <|
  (lpO (Zgt a_number a_years) v1.length (v1, false)).bind fun e1 =>
  (
   bif (!e1.2) then
    some true
   else
    (Zbd e1.1).bind fun v4 =>
    some (!v4)).bind fun j3 =>
  bif j3 then
   (Zbp a_list).bind fun v5 =>
   some (v5, false)
  else
   some (e1.1, true)

def ZgE (a_list : List GBooking) (a_b : GBooking) : Option ((List GBooking) × Bool) :=
 gd (([] : List GBooking).length + a_list.length ≤ 1099511627776) <|
 gd ((([] : List GBooking) ++ a_list).length + 1 ≤ 1099511627776) <|
 (
  (Zc8 a_list).bind fun v1 =>
  bif (!v1) then
   some true
  else
   (Zc8 ((([] : List GBooking) ++ a_list) ++ [a_b])).bind fun v2 =>
   some (!v2)).bind fun j1 =>
 bif j1 then
  some ((([] : List GBooking) ++ a_list), false)
 else
  some (((([] : List GBooking) ++ a_list) ++ [a_b]), true)

def Zam (a_g : GGuild) (a_next : GGuild) (a_ok : Bool) : Option (GGuild × Bool) :=
 (
  (Zba a_g).bind fun v1 =>
  bif (!v1) then
   some true
  else
   bif (!a_ok) then
    some true
   else
    (Zba a_next).bind fun v2 =>
    some (!v2)).bind fun j1 =>
 bif j1 then
  (Z6 a_g).bind fun v3 =>
  some (v3, false)
 else
  some (a_next, true)

def Zds (a_g : GGuild) (a_number : Int) : Option (GGuild × Bool) :=
 (Z6 a_g).bind fun v1 =>
 (
  bif (decide (((a_g.Books.length : Nat) : Int) > 0)) then
   gd (0 ≤ (wr (((a_g.Books.length : Nat) : Int) - 1)) ∧ (wr (((a_g.Books.length : Nat) : Int) - 1)) < ((a_g.Books.length : Nat) : Int)) <|
   some ((gx a_g.Books (((wr (((a_g.Books.length : Nat) : Int) - 1))).toNat)).Day)
  else
   some 0).bind fun j1 =>
 (Zcz v1.Members a_number a_g.Year).bind fun v2 =>
 (ZgD v2.1 a_number 1).bind fun v3 =>
 (ZgE v1.Books (GBooking.mk j1 0 1 20)).bind fun v4 =>
 (
  bif v2.2 then
   bif v3.2 then
    bif v4.2 then
     (Zam a_g (GGuild.mk v3.1 v1.Stock v1.Entries v4.1 v1.Round v1.Year) (a_g.Round == 0)).bind fun v5 =>
     some (v5.2, v5.1)
    else
     (Zam a_g (GGuild.mk v3.1 v1.Stock v1.Entries v4.1 v1.Round v1.Year) false).bind fun v6 =>
     some (v6.2, v6.1)
   else
    (Zam a_g (GGuild.mk v3.1 v1.Stock v1.Entries v4.1 v1.Round v1.Year) false).bind fun v7 =>
    some (v7.2, v7.1)
  else
   (Zam a_g (GGuild.mk v3.1 v1.Stock v1.Entries v4.1 v1.Round v1.Year) false).bind fun v8 =>
   some (v8.2, v8.1)).bind fun j2 =>
 some ((j2.2), j2.1)

def Zf6 (k1 : Nat) (s1 : (List GMember) × (List Int) × (List GEntry) × (List GBooking) × Int × Int) : Option (Res ((List GMember) × (List Int) × (List GEntry) × (List GBooking) × Int × Int) Empty) :=
 (Zds (GGuild.mk s1.1 s1.2.1 s1.2.2.1 s1.2.2.2.1 s1.2.2.2.2.1 s1.2.2.2.2.2) (((k1 + 1) : Nat) : Int)).bind fun v2 =>
 some (.next (v2.1.Members, v2.1.Stock, v2.1.Entries, v2.1.Books, v2.1.Round, v2.1.Year))

def ZbP  : Option GGuild :=
 (ZfT 2020).bind fun v1 =>
 (lpO Zf6 3 (v1.1.Members, v1.1.Stock, v1.1.Entries, v1.1.Books, v1.1.Round, v1.1.Year)).bind fun e1 =>
 some (GGuild.mk e1.1 e1.2.1 e1.2.2.1 e1.2.2.2.1 e1.2.2.2.2.1 e1.2.2.2.2.2)

def ZcJ (a_a : Int) : Option GCell :=
 (ZdN a_a).bind fun v1 =>
 bif (!v1) then
  some (GCell.mk 0 0 0)
 else
  some (GCell.mk 0 a_a a_a)

def Zbc (a_split : Int) (a_a : Int) (a_b : Int) : Option GCell :=
 bif (a_a == a_b) then
  (ZcJ a_a).bind fun v1 =>
  some v1
 else
  (ZaV (GCell.mk a_split a_a a_b)).bind fun v2 =>
  bif (!v2) then
   some (GCell.mk 0 0 0)
  else
   some (GCell.mk a_split a_a a_b)

def ZgO  : Option GBlock :=
 (ZcJ 1).bind fun v1 =>
 (Zbc 1 0 1).bind fun v2 =>
 (Zbc 2 1 0).bind fun v3 =>
 (Zbc 2 0 1).bind fun v4 =>
 (Zbc 1 1 0).bind fun v5 =>
 some (GBlock.mk 3 ([v2, v1, v3, v1, v1, v1, v4, v1, v5] : List GCell))

def ZdW (a_x : Int) (a_y : Int) (c_p2 : Int) : Option GCell :=
 bif (decide ((wr ((wr (2 * a_y)) + a_x)) < (c_p2.tmod 5))) then
  (Zbc 1 0 1).bind fun v1 =>
  some v1
 else
  (ZcJ (wr ((wr (c_p2.tdiv 5)) + 1))).bind fun v2 =>
  some v2

def Zig (a_one : Int → Int → Option GCell) (k1 : Nat) (k2 : Nat) (s2 : List GCell) : Option (Res (List GCell) Empty) :=
 (a_one ((k2 : Nat) : Int) ((k1 : Nat) : Int)).bind fun v1 =>
 gd (s2.length + 1 ≤ 1099511627776) <|
 some (.next (s2 ++ [v1]))

def Zik (a_size : Int) (a_one : Int → Int → Option GCell) (k1 : Nat) (s1 : List GCell) : Option (Res (List GCell) Empty) :=
 (lpO (Zig a_one k1) ((a_size).toNat) s1).bind fun e2 =>
 some (.next e2)

def Ze5 (a_size : Int) (a_one : Int → Int → Option GCell) : Option GBlock :=
 gd ((a_size).toNat ≤ 4611686018427387904) <|
 (lpO (Zik a_size a_one) ((a_size).toNat) ([] : List GCell)).bind fun e1 =>
 some (GBlock.mk a_size e1)

def ZdJ (a_n : Int) : Option GBlock :=
 bif (a_n == 0) then
  ZgO.bind fun v1 =>
  some v1
 else
  (Zq a_n 1 9).bind fun v2 =>
  bif (!v2) then
   some (GBlock.mk 0 ([] : List GCell))
  else
   (Ze5 2 (fun z0 z1 => ZdW z0 z1 a_n)).bind fun v3 =>
   some v3

def ZcS (a_b : GBlock) (a_x : Int) (a_y : Int) : Option Bool :=
 (
  (ZY a_b).bind fun v1 =>
  bif v1 then
   (Zq a_x 0 (wr (a_b.Size - 1))).bind fun v2 =>
   bif v2 then
    (Zq a_y 0 (wr (a_b.Size - 1))).bind fun v3 =>
    some v3
   else
    some false
  else
   some false).bind fun j1 =>
 some j1

def Zdv (a_b : GBlock) (a_x : Int) (a_y : Int) : Option GCell :=
 (ZcS a_b a_x a_y).bind fun v1 =>
 bif (!v1) then
  some (GCell.mk 0 0 0)
 else
  gd (0 ≤ (wr ((wr (a_y * a_b.Size)) + a_x)) ∧ (wr ((wr (a_y * a_b.Size)) + a_x)) < ((a_b.Cells.length : Nat) : Int)) <|
  some (gx a_b.Cells (((wr ((wr (a_y * a_b.Size)) + a_x))).toNat))

def Zen (a_c : GCell) : Option GCell :=
 (ZaV a_c).bind fun v1 =>
 bif (!v1) then
  some (GCell.mk 0 0 0)
 else
  bif (a_c.Split == 0) then
   some a_c
  else
   some (GCell.mk (wr (3 - a_c.Split)) a_c.B a_c.A)

def Zcx (a_x : Int) (a_y : Int) (c_p2 : GBlock) : Option GCell :=
 (Zdv c_p2 (wr ((wr (c_p2.Size - 1)) - a_x)) a_y).bind fun v1 =>
 (Zen v1).bind fun v2 =>
 some v2

def ZdK (a_b : GBlock) : Option GBlock :=
 (ZY a_b).bind fun v1 =>
 bif (!v1) then
  some (GBlock.mk 0 ([] : List GCell))
 else
  (Ze5 a_b.Size (fun z0 z1 => Zcx z0 z1 a_b)).bind fun v2 =>
  some v2

def ZfR (a_c : GCell) : Option GCell :=
 (ZaV a_c).bind fun v1 =>
 bif (!v1) then
  some (GCell.mk 0 0 0)
 else
  bif (a_c.Split == 1) then
   some (GCell.mk 2 a_c.B a_c.A)
  else
   bif (a_c.Split == 2) then
    some (GCell.mk 1 a_c.A a_c.B)
   else
    some a_c

def Zc9 (a_x : Int) (a_y : Int) (c_p2 : GBlock) : Option GCell :=
 (Zdv c_p2 a_y (wr ((wr (c_p2.Size - 1)) - a_x))).bind fun v1 =>
 (ZfR v1).bind fun v2 =>
 some v2

def ZeU (a_b : GBlock) : Option GBlock :=
 (ZY a_b).bind fun v1 =>
 bif (!v1) then
  some (GBlock.mk 0 ([] : List GCell))
 else
  (Ze5 a_b.Size (fun z0 z1 => Zc9 z0 z1 a_b)).bind fun v2 =>
  some v2

def Zfw (_ : Nat) (s1 : Int × (List GCell)) : Option (Res (Int × (List GCell)) Empty) :=
 (ZeU (GBlock.mk s1.1 s1.2)).bind fun v5 =>
 some (.next (v5.Size, v5.Cells))

def ZfL (a_b : GBlock) (a_k : Int) : Option GBlock :=
 (
  (ZY a_b).bind fun v1 =>
  bif (!v1) then
   some true
  else
   (Zq a_k 0 7).bind fun v2 =>
   some (!v2)).bind fun j1 =>
 bif j1 then
  some (GBlock.mk 0 ([] : List GCell))
 else
  (Zal a_b).bind fun v3 =>
  (
   bif (decide (a_k ≥ 4)) then
    (ZdK a_b).bind fun v4 =>
    some v4
   else
    some v3).bind fun j2 =>
  gd (((a_k.tmod 4)).toNat ≤ 4611686018427387904) <|
  (lpO Zfw (((a_k.tmod 4)).toNat) ((j2).Size, (j2).Cells)).bind fun e1 =>
  some (GBlock.mk e1.1 e1.2)

def Zht (a_b : GBlock) (k1 : Nat) (s1 : List GBlock) : Option (Res (List GBlock) Empty) :=
 (ZfL a_b ((k1 : Nat) : Int)).bind fun v1 =>
 gd (s1.length + 1 ≤ 1099511627776) <|
 some (.next (s1 ++ [v1]))

def ZgT (a_b : GBlock) : Option (List GBlock) :=
 (lpO (Zht a_b) 8 ([] : List GBlock)).bind fun e1 =>
 some e1

def Zgc (a_list : List Int) (a_n : Int) (k1 : Nat) (_ : Unit) : Option (Res Unit Int) :=
 bif ((gx a_list k1) == a_n) then
  some (.ret ((k1 : Nat) : Int))
 else
  some (.next ())

def ZdP (a_list : List Int) (a_n : Int) : Option Int :=
 gd (a_list.length ≤ 4611686018427387904) <|
 sq (forO (Zgc a_list a_n) a_list.length 0 ()) fun _ =>
 some (-1)

def ZiG (a_list : List Int) (a_n : Int) (k1 : Nat) (s1 : (List Int) × Bool) : Option (Res ((List Int) × Bool) Empty) :=
 (
  bif ((!s1.2) && (decide (a_n ≤ (gx a_list k1)))) then
   gd (s1.1.length + 1 ≤ 1099511627776) <|
   some ((s1.1 ++ [a_n]), true)
  else
   some (s1.1, s1.2)).bind fun j2 =>
 gd (j2.1.length + 1 ≤ 1099511627776) <|
 some (.next ((j2.1 ++ [(gx a_list k1)]), j2.2))

def ZjG (a_list : List Int) (a_n : Int) : Option (List Int) :=
 gd (a_list.length ≤ 4611686018427387904) <|
 (lpO (ZiG a_list a_n) a_list.length (([] : List Int), false)).bind fun e1 =>
 (
  bif (!e1.2) then
   gd (e1.1.length + 1 ≤ 1099511627776) <|
   some (e1.1 ++ [a_n])
  else
   some e1.1).bind fun j3 =>
 some j3

def Zhc (a_list : List Int) (k1 : Nat) (s1 : List Int) : Option (Res (List Int) Empty) :=
 (ZjG s1 (gx a_list k1)).bind fun v1 =>
 some (.next v1)

def Zho (a_list : List Int) : Option (List Int) :=
 gd (a_list.length ≤ 4611686018427387904) <|
 (lpO (Zhc a_list) a_list.length ([] : List Int)).bind fun e1 =>
 some e1

def Zfq (a_list : List Int) (k1 : Nat) (_ : Unit) : Option (Res Unit Bool) :=
 (
  bif (decide (((k1 : Nat) : Int) > 0)) then
   gd (0 ≤ (wr (((k1 : Nat) : Int) - 1)) ∧ (wr (((k1 : Nat) : Int) - 1)) < ((a_list.length : Nat) : Int)) <|
   some (decide ((gx a_list k1) ≤ (gx a_list (((wr (((k1 : Nat) : Int) - 1))).toNat))))
  else
   some false).bind fun j1 =>
 bif j1 then
  some (.ret false)
 else
  some (.next ())

def ZfF (a_list : List Int) (a_a : Int) (a_b : Int) : Option Bool :=
 gd (a_list.length ≤ 4611686018427387904) <|
 sq (forO (Zfq a_list) a_list.length 0 ()) fun _ =>
 (Zby a_list a_a a_b).bind fun v1 =>
 some v1

def Zed (a_l : List Int) : Option Bool :=
 (
  bif (((a_l.length : Nat) : Int) == 6) then
   (Zho a_l).bind fun v1 =>
   (ZfF v1 0 5).bind fun v2 =>
   some v2
  else
   some false).bind fun j1 =>
 some j1

def Zfz (a_l : List Int) (k1 : Nat) (s1 : List Int) : Option (Res (List Int) Empty) :=
 gd (0 ≤ (gx a_l k1) ∧ (gx a_l k1) < ((s1.length : Nat) : Int)) <|
 some (.next (s1.set (((gx a_l k1)).toNat) ((k1 : Nat) : Int)))

def ZfA (a_l : List Int) : Option (List Int) :=
 (Zed a_l).bind fun v1 =>
 bif (!v1) then
  some ([] : List Int)
 else
  gd (a_l.length ≤ 4611686018427387904) <|
  (lpO (Zfz a_l) a_l.length (List.replicate 6 (0 : Int))).bind fun e1 =>
  some e1

def Zfs (a_b : GBlock) (k1 : Nat) (k2 : Nat) (s2 : List Int) : Option (Res (List Int) Empty) :=
 (ZdP s2 (gx ([(gx a_b.Cells k1).A, (gx a_b.Cells k1).B] : List Int) k2)).bind fun v2 =>
 (
  bif (decide (v2 < 0)) then
   gd (s2.length + 1 ≤ 1099511627776) <|
   some (s2 ++ [(gx ([(gx a_b.Cells k1).A, (gx a_b.Cells k1).B] : List Int) k2)])
  else
   some s2).bind fun j1 =>
 some (.next j1)

def Zfb (a_b : GBlock) (k1 : Nat) (s1 : List Int) : Option (Res (List Int) Empty) :=
 gd (([(gx a_b.Cells k1).A, (gx a_b.Cells k1).B] : List Int).length ≤ 4611686018427387904) <|
 (lpO (Zfs a_b k1) (([(gx a_b.Cells k1).A, (gx a_b.Cells k1).B] : List Int).length) s1).bind fun e2 =>
 some (.next e2)

def Zfi (k3 : Nat) (s3 : List Int) : Option (Res (List Int) Empty) :=
 (ZdP s3 ((k3 : Nat) : Int)).bind fun v3 =>
 (
  bif (decide (v3 < 0)) then
   gd (s3.length + 1 ≤ 1099511627776) <|
   some (s3 ++ [((k3 : Nat) : Int)])
  else
   some s3).bind fun j2 =>
 some (.next j2)

def ZfP (a_b : GBlock) : Option (List Int) :=
 (ZY a_b).bind fun v1 =>
 bif (!v1) then
  some ([] : List Int)
 else
  gd (a_b.Cells.length ≤ 4611686018427387904) <|
  (lpO (Zfb a_b) a_b.Cells.length ([] : List Int)).bind fun e1 =>
  (lpO Zfi 6 e1).bind fun e3 =>
  (ZfA e3).bind fun v4 =>
  some v4

def Zf1 (a_l : List Int) : Option Bool :=
 (
  bif (((a_l.length : Nat) : Int) == 6) then
   (Zby a_l 0 5).bind fun v1 =>
   some v1
  else
   some false).bind fun j1 =>
 some j1

def Zdd (a_c : GCell) (a_l : List Int) : Option GCell :=
 (
  (ZaV a_c).bind fun v1 =>
  bif (!v1) then
   some true
  else
   (Zf1 a_l).bind fun v2 =>
   some (!v2)).bind fun j1 =>
 bif j1 then
  some (GCell.mk 0 0 0)
 else
  gd (0 ≤ a_c.A ∧ a_c.A < ((a_l.length : Nat) : Int)) <|
  gd (0 ≤ a_c.B ∧ a_c.B < ((a_l.length : Nat) : Int)) <|
  (Zbc a_c.Split (gx a_l ((a_c.A).toNat)) (gx a_l ((a_c.B).toNat))).bind fun v3 =>
  some v3

def ZbV (a_x : Int) (a_y : Int) (c_p2 : GBlock) (c_p3 : List Int) : Option GCell :=
 (Zdv c_p2 a_x a_y).bind fun v1 =>
 (Zdd v1 c_p3).bind fun v2 =>
 some v2

def ZbY (a_b : GBlock) (a_l : List Int) : Option (GBlock × Bool) :=
 (
  (ZY a_b).bind fun v1 =>
  bif (!v1) then
   some true
  else
   (Zf1 a_l).bind fun v2 =>
   some (!v2)).bind fun j1 =>
 bif j1 then
  (Zal a_b).bind fun v3 =>
  some (v3, false)
 else
  (Ze5 a_b.Size (fun z0 z1 => ZbV z0 z1 a_b a_l)).bind fun v4 =>
  some (v4, true)

def Zih (a_b : GBlock) : Option GBlock :=
 (ZfP a_b).bind fun v1 =>
 (ZbY a_b v1).bind fun v2 =>
 some v2.1

def Zeb (a_c : GCell) : Option Str :=
 (ZaV a_c).bind fun v1 =>
 bif (!v1) then
  some (⟨[]⟩ : Str)
 else
  gd (0 ≤ a_c.Split ∧ a_c.Split < ((([(⟨[]⟩ : Str), (⟨[47]⟩ : Str), (⟨[92]⟩ : Str)] : List Str).length : Nat) : Int)) <|
  bif (seq (gx ([(⟨[]⟩ : Str), (⟨[47]⟩ : Str), (⟨[92]⟩ : Str)] : List Str) ((a_c.Split).toNat)) (⟨[]⟩ : Str)) then
   (ZcA a_c.A).bind fun v2 =>
   some v2
  else
   (ZcA a_c.A).bind fun v3 =>
   gd (v3.b.length + (gx ([(⟨[]⟩ : Str), (⟨[47]⟩ : Str), (⟨[92]⟩ : Str)] : List Str) ((a_c.Split).toNat)).b.length ≤ 1099511627776) <|
   (ZcA a_c.B).bind fun v4 =>
   gd ((sadd v3 (gx ([(⟨[]⟩ : Str), (⟨[47]⟩ : Str), (⟨[92]⟩ : Str)] : List Str) ((a_c.Split).toNat))).b.length + v4.b.length ≤ 1099511627776) <|
   some (sadd (sadd v3 (gx ([(⟨[]⟩ : Str), (⟨[47]⟩ : Str), (⟨[92]⟩ : Str)] : List Str) ((a_c.Split).toNat))) v4)

def ZgX (a_b : GBlock) (k1 : Nat) (s1 : Str) : Option (Res Str Empty) :=
 (Zeb (gx a_b.Cells k1)).bind fun v2 =>
 gd (v2.b.length + (⟨[59]⟩ : Str).b.length ≤ 1099511627776) <|
 gd (s1.b.length + (sadd v2 (⟨[59]⟩ : Str)).b.length ≤ 1099511627776) <|
 some (.next (sadd s1 (sadd v2 (⟨[59]⟩ : Str))))

def Zf4 (a_b : GBlock) : Option Str :=
 (ZY a_b).bind fun v1 =>
 bif (!v1) then
  some (⟨[]⟩ : Str)
 else
  gd (a_b.Cells.length ≤ 4611686018427387904) <|
  (lpO (ZgX a_b) a_b.Cells.length (⟨[]⟩ : Str)).bind fun e1 =>
  some e1

def Zhx (a_list : List GBlock) (k1 : Nat) (s1 : Nat) : Option (Res Nat Empty) :=
 gd (s1 < a_list.length) <|
 (Zf4 (gx a_list k1)).bind fun v1 =>
 (Zf4 (gx a_list s1)).bind fun v2 =>
 some (.next (bif slt v1 v2 then k1 else s1))

def Zh3 (a_list : List GBlock) : Option GBlock :=
 gd (0 < a_list.length) <|
 gd (a_list.length ≤ 4611686018427387904) <|
 (lpO (Zhx a_list) a_list.length 0).bind fun e1 =>
 gd (e1 < a_list.length) <|
 some (gx a_list e1)

def Zdn (v2 : List GBlock) (k1 : Nat) (s1 : List GBlock) : Option (Res (List GBlock) Empty) :=
 (Zih (gx v2 k1)).bind fun v3 =>
 gd (s1.length + 1 ≤ 1099511627776) <|
 some (.next (s1 ++ [v3]))

def Zck (a_b : GBlock) : Option GBlock :=
 (ZY a_b).bind fun v1 =>
 bif (!v1) then
  some (GBlock.mk 0 ([] : List GCell))
 else
  (ZgT a_b).bind fun v2 =>
  gd (v2.length ≤ 4611686018427387904) <|
  (lpO (Zdn v2) v2.length ([] : List GBlock)).bind fun e1 =>
  (Zh3 e1).bind fun v4 =>
  some v4

def Zex (a_b : GBlock) (a_d : GBlock) (k1 : Nat) (_ : Unit) : Option (Res Unit Bool) :=
 gd (k1 < a_d.Cells.length) <|
 bif (!(beqs [(gx a_b.Cells k1).Split, (gx a_b.Cells k1).A, (gx a_b.Cells k1).B] [(gx a_d.Cells k1).Split, (gx a_d.Cells k1).A, (gx a_d.Cells k1).B])) then
  some (.ret false)
 else
  some (.next ())

def Ze0 (a_b : GBlock) (a_d : GBlock) : Option Bool :=
 bif ((a_b.Size != a_d.Size) || (((a_b.Cells.length : Nat) : Int) != ((a_d.Cells.length : Nat) : Int))) then
  some false
 else
  gd (a_b.Cells.length ≤ 4611686018427387904) <|
  sq (forO (Zex a_b a_d) a_b.Cells.length 0 ()) fun _ =>
  some true

def Zb6 (a_b : GBlock) (a_d : GBlock) : Option Bool :=
 (
  (ZY a_b).bind fun v1 =>
  bif v1 then
   (ZY a_d).bind fun v2 =>
   bif v2 then
    (Zck a_b).bind fun v3 =>
    (Zck a_d).bind fun v4 =>
    (Ze0 v3 v4).bind fun v5 =>
    some v5
   else
    some false
  else
   some false).bind fun j1 =>
 some j1

def ZcL (a_b : GBlock) (a_d : GBlock) : Option Bool :=
 (
  (ZY a_b).bind fun v1 =>
  bif v1 then
   (ZY a_d).bind fun v2 =>
   bif v2 then
    some (a_b.Size == a_d.Size)
   else
    some false
  else
   some false).bind fun j1 =>
 some j1

def ZfQ (a_c : GCell) (a_a : Int) : Option Int :=
 (
  (ZaV a_c).bind fun v1 =>
  bif v1 then
   some (a_c.A == a_a)
  else
   some false).bind fun j1 =>
 (
  (ZaV a_c).bind fun v2 =>
  bif v2 then
   some (a_c.B == a_a)
  else
   some false).bind fun j3 =>
 some (bif j3 then (wr ((bif j1 then (wr (0 + 2)) else 0) + 2)) else (bif j1 then (wr (0 + 2)) else 0))

def ZgS (a_b : GBlock) (a_a : Int) (k1 : Nat) (s1 : Int) : Option (Res Int Empty) :=
 (ZfQ (gx a_b.Cells k1) a_a).bind fun v2 =>
 some (.next (wr (s1 + v2)))

def ZfX (a_b : GBlock) (a_a : Int) : Option Int :=
 (ZY a_b).bind fun v1 =>
 bif (!v1) then
  some 0
 else
  gd (a_b.Cells.length ≤ 4611686018427387904) <|
  (lpO (ZgS a_b a_a) a_b.Cells.length 0).bind fun e1 =>
  some e1

def Zfc (a_b : GBlock) (k1 : Nat) (s1 : List Int) : Option (Res (List Int) Empty) :=
 (ZfX a_b ((k1 : Nat) : Int)).bind fun v2 =>
 (
  bif (decide (v2 > 0)) then
   gd (s1.length + 1 ≤ 1099511627776) <|
   some (s1 ++ [((k1 : Nat) : Int)])
  else
   some s1).bind fun j1 =>
 some (.next j1)

def Zc4 (a_b : GBlock) : Option (List Int) :=
 (ZY a_b).bind fun v1 =>
 bif (!v1) then
  some ([] : List Int)
 else
  (lpO (Zfc a_b) 6 ([] : List Int)).bind fun e1 =>
  some e1

def Zkd (k1 : Nat) (s1 : Int) : Option (Res Int Empty) :=
 some (.next (wr (s1 * (wr (6 - ((k1 : Nat) : Int))))))

def Zb4 (a_n : Int) : Option Int :=
 gd ((a_n).toNat ≤ 4611686018427387904) <|
 (lpO Zkd ((a_n).toNat) 1).bind fun e1 =>
 some e1

def Za3 (a_b : GBlock) : Option Int :=
 (ZY a_b).bind fun v1 =>
 bif (!v1) then
  some 0
 else
  (Zc4 a_b).bind fun v2 =>
  (Zb4 ((v2.length : Nat) : Int)).bind fun v3 =>
  some v3

def ZmX (k1 : Nat) (s1 : List Int) : Option (Res (List Int) Empty) :=
 gd (s1.length + 1 ≤ 1099511627776) <|
 some (.next (s1 ++ [((k1 : Nat) : Int)]))

def Zkr (a_n : Int) : Option (List Int) :=
 gd ((a_n).toNat ≤ 4611686018427387904) <|
 (lpO ZmX ((a_n).toNat) ([] : List Int)).bind fun e1 =>
 some e1

def Zb0 (v3 : List Int) (k1 : Nat) (s1 : Int × (List Int) × (List Int)) : Option (Res (Int × (List Int) × (List Int)) Empty) :=
 (Zb4 ((v3.length : Nat) : Int)).bind fun v5 =>
 (Zb4 ((k1 + 1 : Nat) : Int)).bind fun v6 =>
 gd (v6 ≠ 0) <|
 gd ((wr (v5.tdiv v6)) ≠ 0) <|
 gd (0 ≤ (wr (s1.1.tdiv (wr (v5.tdiv v6)))) ∧ (wr (s1.1.tdiv (wr (v5.tdiv v6)))) < ((s1.2.1.length : Nat) : Int)) <|
 gd (0 ≤ (gx v3 k1) ∧ (gx v3 k1) < ((s1.2.2.length : Nat) : Int)) <|
 gd (0 ≤ (wr (s1.1.tdiv (wr (v5.tdiv v6)))) ∧ 0 ≤ ((wr (s1.1.tdiv (wr (v5.tdiv v6))))).toNat ∧ ((wr (s1.1.tdiv (wr (v5.tdiv v6))))).toNat ≤ s1.2.1.length) <|
 gd (0 ≤ (wr ((wr (s1.1.tdiv (wr (v5.tdiv v6)))) + 1)) ∧ ((wr ((wr (s1.1.tdiv (wr (v5.tdiv v6)))) + 1))).toNat ≤ s1.2.1.length ∧ s1.2.1.length ≤ s1.2.1.length) <|
 gd (([] : List Int).length + ((s1.2.1.drop 0).take (((wr (s1.1.tdiv (wr (v5.tdiv v6))))).toNat - 0)).length ≤ 1099511627776) <|
 gd ((([] : List Int) ++ ((s1.2.1.drop 0).take (((wr (s1.1.tdiv (wr (v5.tdiv v6))))).toNat - 0))).length + ((s1.2.1.drop (((wr ((wr (s1.1.tdiv (wr (v5.tdiv v6)))) + 1))).toNat)).take (s1.2.1.length - (((wr ((wr (s1.1.tdiv (wr (v5.tdiv v6)))) + 1))).toNat))).length ≤ 1099511627776) <|
 some (.next ((s1.1.tmod (wr (v5.tdiv v6))), ((([] : List Int) ++ ((s1.2.1.drop 0).take (((wr (s1.1.tdiv (wr (v5.tdiv v6))))).toNat - 0))) ++ ((s1.2.1.drop (((wr ((wr (s1.1.tdiv (wr (v5.tdiv v6)))) + 1))).toNat)).take (s1.2.1.length - (((wr ((wr (s1.1.tdiv (wr (v5.tdiv v6)))) + 1))).toNat)))), (s1.2.2.set (((gx v3 k1)).toNat) (gx s1.2.1 (((wr (s1.1.tdiv (wr (v5.tdiv v6))))).toNat)))))

def Zek (a_b : GBlock) (a_index : Int) : Option (GBlock × Bool) :=
 (Za3 a_b).bind fun v1 =>
 (Zq a_index 0 (wr (v1 - 1))).bind fun v2 =>
 bif (!v2) then
  some ((GBlock.mk 0 ([] : List GCell)), false)
 else
  (Zc4 a_b).bind fun v3 =>
  (Zkr 6).bind fun v4 =>
  gd (v3.length ≤ 4611686018427387904) <|
  (lpO (Zb0 v3) v3.length (a_index, v4, (List.replicate 6 (0 : Int)))).bind fun e1 =>
  (ZbY a_b e1.2.2).bind fun v7 =>
  some (v7.1, v7.2)

def ZeV (a_c : GCell) (a_side : Int) : Option Int :=
 (
  (ZaV a_c).bind fun v1 =>
  bif (!v1) then
   some true
  else
   (Zq a_side 0 3).bind fun v2 =>
   some (!v2)).bind fun j1 =>
 bif j1 then
  some (-1)
 else
  bif ((a_side == 0) || (bif (a_c.Split == 1) then ((a_side == 1) || ((a_c.Split == 2) && (a_side == 3))) else ((a_c.Split == 2) && (a_side == 3)))) then
   some a_c.A
  else
   some a_c.B

def Zdk (a_c : GCell) (a_d : GCell) (k1 : Nat) (s1 : Int) : Option (Res Int Empty) :=
 (ZeV a_c ((k1 : Nat) : Int)).bind fun v3 =>
 (ZeV a_d ((k1 : Nat) : Int)).bind fun v4 =>
 some (.next (bif (v3 == v4) then (wr (s1 + 1)) else s1))

def Zda (a_c : GCell) (a_d : GCell) : Option Int :=
 (
  (ZaV a_c).bind fun v1 =>
  bif (!v1) then
   some true
  else
   (ZaV a_d).bind fun v2 =>
   some (!v2)).bind fun j1 =>
 bif j1 then
  some 0
 else
  (lpO (Zdk a_c a_d) 4 0).bind fun e1 =>
  some e1

def Zfl (a_b : GBlock) (a_d : GBlock) (k1 : Nat) (s1 : Int) : Option (Res Int Empty) :=
 gd (k1 < a_d.Cells.length) <|
 (Zda (gx a_b.Cells k1) (gx a_d.Cells k1)).bind fun v2 =>
 some (.next (wr (s1 + v2)))

def ZfK (a_b : GBlock) (a_d : GBlock) : Option Int :=
 (ZcL a_b a_d).bind fun v1 =>
 bif (!v1) then
  some 0
 else
  gd (a_b.Cells.length ≤ 4611686018427387904) <|
  (lpO (Zfl a_b a_d) a_b.Cells.length 0).bind fun e1 =>
  some e1

def Zdp (a_b : GBlock) (v2 : List GBlock) (k1 : Nat) (s1 : Int) : Option (Res Int Empty) :=
 (ZfK a_b (gx v2 k1)).bind fun v3 =>
 some (.next (if v3 > s1 then v3 else s1))

def Zdj (a_b : GBlock) (a_d : GBlock) : Option Int :=
 (ZcL a_b a_d).bind fun v1 =>
 bif (!v1) then
  some 0
 else
  (ZgT a_d).bind fun v2 =>
  gd (v2.length ≤ 4611686018427387904) <|
  (lpO (Zdp a_b v2) v2.length 0).bind fun e1 =>
  some e1

def Zct (a_b : GBlock) (a_d : GBlock) (k1 : Nat) (s1 : Int) : Option (Res Int Empty) :=
 (Zek a_d ((k1 : Nat) : Int)).bind fun v4 =>
 (Zdj a_b v4.1).bind fun v5 =>
 some (.next (if v5 > s1 then v5 else s1))

def Zb5 (a_b : GBlock) (a_d : GBlock) : Option Int :=
 (
  (ZcL a_b a_d).bind fun v1 =>
  bif (!v1) then
   some true
  else
   (Zc4 a_d).bind fun v2 =>
   some (decide (((v2.length : Nat) : Int) > 3))).bind fun j1 =>
 bif j1 then
  some 0
 else
  (Za3 a_d).bind fun v3 =>
  gd ((v3).toNat ≤ 4611686018427387904) <|
  (lpO (Zct a_b a_d) ((v3).toNat) 0).bind fun e1 =>
  some e1

def ZeF (a_e : GEntry) (a_f : GEntry) : Option Int :=
 (
  (Zce a_e).bind fun v1 =>
  bif (!v1) then
   some true
  else
   (Zce a_f).bind fun v2 =>
   bif (!v2) then
    some true
   else
    some (a_e.Block.Size != a_f.Block.Size)).bind fun j1 =>
 bif j1 then
  some 0
 else
  (Zb6 a_e.Block a_f.Block).bind fun v3 =>
  bif v3 then
   some 3
  else
   (Zb5 a_e.Block a_f.Block).bind fun v4 =>
   bif (decide ((wr (10 * v4)) ≥ (wr (36 * ((a_e.Block.Cells.length : Nat) : Int))))) then
    some 2
   else
    some 1

def Zf0 (a_e : GEntry) (a_f : GEntry) : Option Bool :=
 (
  bif (a_e.Owner != a_f.Owner) then
   bif (decide (a_e.Day > a_f.Day)) then
    (ZeF a_e a_f).bind fun v1 =>
    some (decide (v1 ≥ 2))
   else
    some false
  else
   some false).bind fun j1 =>
 some j1

def ZgU (a_g : GGuild) (a_number : Int) (a_day : Int) (v1 : GGuild) (v2 : GBlock) (k1 : Nat) (_ : Unit) : Option (Res Unit (GGuild × Bool)) :=
 (Zf0 (GEntry.mk a_number a_day v2) (GEntry.mk ((gx a_g.Entries k1).Owner) ((gx a_g.Entries k1).Day) ((gx a_g.Entries k1).Block))).bind fun v4 =>
 bif v4 then
  some (.ret (v1, false))
 else
  some (.next ())

def Zhl (a_g : GGuild) (a_number : Int) (a_day : Int) (a_b : GBlock) : Option (GGuild × Bool) :=
 (Z6 a_g).bind fun v1 =>
 (Zal a_b).bind fun v2 =>
 (Zba a_g).bind fun v3 =>
 bif (!v3) then
  some (v1, false)
 else
  gd (a_g.Entries.length ≤ 4611686018427387904) <|
  sq (forO (ZgU a_g a_number a_day v1 v2) a_g.Entries.length 0 ()) fun _ =>
  gd (v1.Entries.length + 1 ≤ 1099511627776) <|
  (Zam a_g (GGuild.mk v1.Members v1.Stock (v1.Entries ++ [(GEntry.mk a_number a_day v2)]) v1.Books v1.Round v1.Year) true).bind fun v5 =>
  some (v5.1, v5.2)

def Zew (a_b : GBlock) (k1 : Nat) (s1 : List Int) : Option (Res (List Int) Empty) :=
 (ZfX a_b ((k1 : Nat) : Int)).bind fun v2 =>
 gd (s1.length + 1 ≤ 1099511627776) <|
 some (.next (s1 ++ [v2]))

def ZdD (a_b : GBlock) : Option (List Int) :=
 (ZY a_b).bind fun v1 =>
 bif (!v1) then
  some ([] : List Int)
 else
  (lpO (Zew a_b) 6 ([] : List Int)).bind fun e1 =>
  some e1

def ZeM (a_stock : List Int) (a_a : Int) (a_length : Int) : Option ((List Int) × Bool) :=
 (ZfW a_stock).bind fun v1 =>
 (
  (ZcT a_stock).bind fun v2 =>
  bif (!v2) then
   some true
  else
   (ZdN a_a).bind fun v3 =>
   bif (!v3) then
    some true
   else
    gd (0 ≤ a_a ∧ a_a < ((a_stock.length : Nat) : Int)) <|
    (Zq a_length 0 (gx a_stock ((a_a).toNat))).bind fun v4 =>
    some (!v4)).bind fun j1 =>
 bif j1 then
  some (v1, false)
 else
  gd (0 ≤ a_a ∧ a_a < ((v1.length : Nat) : Int)) <|
  some ((v1.set ((a_a).toNat) (wr ((gx v1 ((a_a).toNat)) - a_length))), true)

def Zfd (a_g : GGuild) (v4 : List Int) (k1 : Nat) (s1 : List Int) : Option (Res (List Int) (GGuild × Bool)) :=
 (ZeM s1 ((k1 : Nat) : Int) (gx v4 k1)).bind fun v5 =>
 bif (!v5.2) then
  (Z6 a_g).bind fun v6 =>
  some (.ret (v6, false))
 else
  some (.next v5.1)

def Zd9 (a_g : GGuild) (a_k : Int) : Option (GGuild × Bool) :=
 (Z6 a_g).bind fun v1 =>
 (
  (Zba a_g).bind fun v2 =>
  bif (!v2) then
   some true
  else
   (Zq a_k 0 (wr (((a_g.Entries.length : Nat) : Int) - 1))).bind fun v3 =>
   some (!v3)).bind fun j1 =>
 bif j1 then
  some (v1, false)
 else
  gd (0 ≤ a_k ∧ a_k < ((a_g.Entries.length : Nat) : Int)) <|
  (ZdD ((gx a_g.Entries ((a_k).toNat)).Block)).bind fun v4 =>
  gd (v4.length ≤ 4611686018427387904) <|
  sq (forO (Zfd a_g v4) v4.length 0 v1.Stock) fun e1 =>
  some ((GGuild.mk v1.Members e1 v1.Entries v1.Books v1.Round v1.Year), true)

def ZeS (a_g : GGuild) : Option (GGuild × Bool) :=
 (Z6 a_g).bind fun v1 =>
 (Zam a_g (GGuild.mk v1.Members v1.Stock v1.Entries v1.Books (wr (v1.Round + 1)) v1.Year) true).bind fun v2 =>
 some (v2.1, v2.2)

def ZgF (a_g : GGuild) : Option (GGuild × Bool) :=
 (Z6 a_g).bind fun v1 =>
 (Zb8 a_g).bind fun v4 =>
 (Zam a_g (GGuild.mk v1.Members v1.Stock v1.Entries v1.Books 0 (wr (v1.Year + 1))) (decide (a_g.Round ≥ v4))).bind fun v5 =>
 some (v5.1, v5.2)

def Zhb (a_stock : List Int) (a_need : List Int) (k1 : Nat) (s1 : List Int) : Option (Res (List Int) Empty) :=
 gd (k1 < a_need.length) <|
 gd (s1.length + 1 ≤ 1099511627776) <|
 some (.next (s1 ++ [(if 0 > (wr ((gx a_need k1) - (gx a_stock k1))) then 0 else (wr ((gx a_need k1) - (gx a_stock k1))))]))

def Zhr (a_stock : List Int) (a_need : List Int) : Option (List Int) :=
 (
  (ZcT a_stock).bind fun v1 =>
  bif (!v1) then
   some true
  else
   (ZcT a_need).bind fun v2 =>
   some (!v2)).bind fun j1 =>
 bif j1 then
  some ([] : List Int)
 else
  gd (a_stock.length ≤ 4611686018427387904) <|
  (lpO (Zhb a_stock a_need) a_stock.length ([] : List Int)).bind fun e1 =>
  some e1

def Zj0 (v3 : List Int) (k1 : Nat) (s1 : Int) : Option (Res Int Empty) :=
 some (.next (wr (s1 + (gx v3 k1))))

def ZhP (a_g : GGuild) (a_k : Int) : Option Int :=
 (Zq a_k 0 (wr (((a_g.Entries.length : Nat) : Int) - 1))).bind fun v1 =>
 bif (!v1) then
  some 0
 else
  gd (0 ≤ a_k ∧ a_k < ((a_g.Entries.length : Nat) : Int)) <|
  (ZdD ((gx a_g.Entries ((a_k).toNat)).Block)).bind fun v2 =>
  (Zhr a_g.Stock v2).bind fun v3 =>
  gd (v3.length ≤ 4611686018427387904) <|
  (lpO (Zj0 v3) v3.length 0).bind fun e1 =>
  some e1

def ZcP (a_g : GGuild) (a_a : GAct) : Option (GGuild × Int) :=
 (
  (Zba a_g).bind fun v1 =>
  bif (!v1) then
   some true
  else
   (ZgV a_a).bind fun v2 =>
   some (!v2)).bind fun j1 =>
 bif j1 then
  (Z6 a_g).bind fun v3 =>
  some (v3, (-1))
 else
  (Z6 a_g).bind fun v4 =>
  sq (
   bif (a_a.Kind == 1) then
    (Zds a_g a_a.A).bind fun v5 =>
    some (.inl (v5.2, v5.1))
   else
    bif (a_a.Kind == 2) then
     (
      bif (decide (((a_g.Entries.length : Nat) : Int) > 0)) then
       gd (0 ≤ (wr (((a_g.Entries.length : Nat) : Int) - 1)) ∧ (wr (((a_g.Entries.length : Nat) : Int) - 1)) < ((a_g.Entries.length : Nat) : Int)) <|
       some (wr ((gx a_g.Entries (((wr (((a_g.Entries.length : Nat) : Int) - 1))).toNat)).Day + 1))
      else
       some 0).bind fun j3 =>
     (ZdJ a_a.B).bind fun v6 =>
     (Zhl a_g a_a.A j3 v6).bind fun v7 =>
     some (.inl (v7.2, v7.1))
    else
     bif (a_a.Kind == 3) then
      (Zd9 a_g a_a.A).bind fun v8 =>
      some (.inl (v8.2, v8.1))
     else
      bif (a_a.Kind == 4) then
       (ZeS a_g).bind fun v9 =>
       some (.inl (v9.2, v9.1))
      else
       bif (a_a.Kind == 5) then
        (ZgF a_g).bind fun v10 =>
        some (.inl (v10.2, v10.1))
       else
        (ZhP a_g a_a.A).bind fun v11 =>
        some (.inr (v4, v11))) fun j2 =>
  bif j2.1 then
   some ((j2.2), 1)
  else
   some ((j2.2), 0)

def Zgp (a_acts : List GAct) (k1 : Nat) (s1 : (List Int) × (List GMember) × (List Int) × (List GEntry) × (List GBooking) × Int × Int) : Option (Res ((List Int) × (List GMember) × (List Int) × (List GEntry) × (List GBooking) × Int × Int) Empty) :=
 (ZcP (GGuild.mk s1.2.1 s1.2.2.1 s1.2.2.2.1 s1.2.2.2.2.1 s1.2.2.2.2.2.1 s1.2.2.2.2.2.2) (gx a_acts k1)).bind fun v3 =>
 gd (s1.1.length + 1 ≤ 1099511627776) <|
 some (.next ((s1.1 ++ [v3.2]), v3.1.Members, v3.1.Stock, v3.1.Entries, v3.1.Books, v3.1.Round, v3.1.Year))

def ZeJ (a_g : GGuild) (a_acts : List GAct) : Option (GGuild × (List Int)) :=
 (Z6 a_g).bind fun v1 =>
 (
  (Zba a_g).bind fun v2 =>
  bif (!v2) then
   some true
  else
   some (decide (((a_acts.length : Nat) : Int) > 40))).bind fun j1 =>
 bif j1 then
  some (v1, ([] : List Int))
 else
  gd (a_acts.length ≤ 4611686018427387904) <|
  (lpO (Zgp a_acts) a_acts.length (([] : List Int), v1.Members, v1.Stock, v1.Entries, v1.Books, v1.Round, v1.Year)).bind fun e1 =>
  some ((GGuild.mk e1.2.1 e1.2.2.1 e1.2.2.2.1 e1.2.2.2.2.1 e1.2.2.2.2.2.1 e1.2.2.2.2.2.2), e1.1)

def Zdc (a_b : GBlock) (k1 : Nat) (k2 : Nat) (s2 : List Str) : Option (Res (List Str) Empty) :=
 (Zdv a_b ((k2 : Nat) : Int) ((k1 : Nat) : Int)).bind fun v2 =>
 (Zeb v2).bind fun v3 =>
 gd (s2.length + 1 ≤ 1099511627776) <|
 some (.next (s2 ++ [v3]))

def ZeA (a_b : GBlock) (k1 : Nat) (s1 : List Str) : Option (Res (List Str) Empty) :=
 (lpO (Zdc a_b k1) ((a_b.Size).toNat) ([] : List Str)).bind fun e2 =>
 (strings_Join e2 (⟨[44]⟩ : Str)).bind fun v4 =>
 gd (s1.length + 1 ≤ 1099511627776) <|
 some (.next (s1 ++ [v4]))

def ZeO (a_b : GBlock) : Option Str :=
 (ZY a_b).bind fun v1 =>
 bif (!v1) then
  some (⟨[]⟩ : Str)
 else
  gd ((a_b.Size).toNat ≤ 4611686018427387904) <|
  (lpO (ZeA a_b) ((a_b.Size).toNat) ([] : List Str)).bind fun e1 =>
  (strings_Join e1 (⟨[59]⟩ : Str)).bind fun v5 =>
  some v5

def ZdY (a_g : GGuild) (k1 : Nat) (s1 : List Int) : Option (Res (List Int) Empty) :=
 gd (s1.length + 1 ≤ 1099511627776) <|
 some (.next (s1 ++ [(gx a_g.Members k1).Number]))

def ZdX (a_g : GGuild) (k2 : Nat) (s2 : List Str) : Option (Res (List Str) Empty) :=
 (Zae ((gx a_g.Entries k2).Owner)).bind fun v4 =>
 gd (v4.b.length + (⟨[32]⟩ : Str).b.length ≤ 1099511627776) <|
 (Zae ((gx a_g.Entries k2).Day)).bind fun v5 =>
 gd ((sadd v4 (⟨[32]⟩ : Str)).b.length + v5.b.length ≤ 1099511627776) <|
 gd ((sadd (sadd v4 (⟨[32]⟩ : Str)) v5).b.length + (⟨[32]⟩ : Str).b.length ≤ 1099511627776) <|
 (ZeO ((gx a_g.Entries k2).Block)).bind fun v6 =>
 gd ((sadd (sadd (sadd v4 (⟨[32]⟩ : Str)) v5) (⟨[32]⟩ : Str)).b.length + v6.b.length ≤ 1099511627776) <|
 gd (s2.length + 1 ≤ 1099511627776) <|
 some (.next (s2 ++ [(sadd (sadd (sadd (sadd v4 (⟨[32]⟩ : Str)) v5) (⟨[32]⟩ : Str)) v6)]))

def ZbO (a_g : GGuild) : Option (List Str) :=
 (Zba a_g).bind fun v1 =>
 bif (!v1) then
  some ([] : List Str)
 else
  gd (a_g.Members.length ≤ 4611686018427387904) <|
  (lpO (ZdY a_g) a_g.Members.length ([] : List Int)).bind fun e1 =>
  (ZbM (⟨[109, 101, 109, 98, 101, 114, 115]⟩ : Str) e1).bind fun v2 =>
  (ZbM (⟨[115, 116, 111, 99, 107]⟩ : Str) a_g.Stock).bind fun v3 =>
  gd (a_g.Entries.length ≤ 4611686018427387904) <|
  (lpO (ZdX a_g) a_g.Entries.length ([v2, v3] : List Str)).bind fun e2 =>
  (Zae a_g.Round).bind fun v7 =>
  gd ((⟨[114, 111, 117, 110, 100, 32]⟩ : Str).b.length + v7.b.length ≤ 1099511627776) <|
  gd ((sadd (⟨[114, 111, 117, 110, 100, 32]⟩ : Str) v7).b.length + (⟨[47]⟩ : Str).b.length ≤ 1099511627776) <|
  (Zb8 a_g).bind fun v8 =>
  (Zae v8).bind fun v9 =>
  gd ((sadd (sadd (⟨[114, 111, 117, 110, 100, 32]⟩ : Str) v7) (⟨[47]⟩ : Str)).b.length + v9.b.length ≤ 1099511627776) <|
  (ZbM (⟨[121, 101, 97, 114]⟩ : Str) ([a_g.Year] : List Int)).bind fun v10 =>
  gd (e2.length + 2 ≤ 1099511627776) <|
  some (e2 ++ [(sadd (sadd (sadd (⟨[114, 111, 117, 110, 100, 32]⟩ : Str) v7) (⟨[47]⟩ : Str)) v9), v10])

def Zdi (v1 : List Str) (k1 : Nat) (s1 : List GAct) : Option (Res (List GAct) ((List Str) × Bool)) :=
 (ZcE (gx v1 k1)).bind fun v2 =>
 bif (v2.2 && (((v2.1.length : Nat) : Int) == 0)) then
  some (.next s1)
 else
  (Zco (gx v1 k1)).bind fun v3 =>
  bif (!v3.2) then
   some (.ret (([] : List Str), false))
  else
   gd (s1.length + 1 ≤ 1099511627776) <|
   some (.next (s1 ++ [v3.1]))

def Zez (v5 : GGuild × (List Int)) (k2 : Nat) (s2 : List Str) : Option (Res (List Str) Empty) :=
 (Zae (gx v5.2 k2)).bind fun v6 =>
 gd (s2.length + 1 ≤ 1099511627776) <|
 some (.next (s2 ++ [v6]))

def ZeH (a_text : Str) : Option ((List Str) × Bool) :=
 bif (decide (((a_text.b.length : Nat) : Int) > 20000)) then
  some (([] : List Str), false)
 else
  (strings_Split a_text (⟨[10]⟩ : Str)).bind fun v1 =>
  gd (v1.length ≤ 4611686018427387904) <|
  sq (forO (Zdi v1) v1.length 0 ([] : List GAct)) fun e1 =>
  bif (decide (((e1.length : Nat) : Int) > 40)) then
   some (([] : List Str), false)
  else
   ZbP.bind fun v4 =>
   (ZeJ v4 e1).bind fun v5 =>
   gd (v5.2.length ≤ 4611686018427387904) <|
   (lpO (Zez v5) v5.2.length ([] : List Str)).bind fun e2 =>
   (ZbO v5.1).bind fun v7 =>
   gd (e2.length + v7.length ≤ 1099511627776) <|
   some ((e2 ++ v7), true)

def ZeD (a_a : List Str) (a_b : List Str) (k1 : Nat) (_ : Unit) : Option (Res Unit Bool) :=
 gd (k1 < a_b.length) <|
 bif (!(seq (gx a_a k1) (gx a_b k1))) then
  some (.ret false)
 else
  some (.next ())

def ZeX (a_a : List Str) (a_b : List Str) : Option Bool :=
 bif (((a_a.length : Nat) : Int) != ((a_b.length : Nat) : Int)) then
  some false
 else
  gd (a_a.length ≤ 4611686018427387904) <|
  sq (forO (ZeD a_a a_b) a_a.length 0 ()) fun _ =>
  some true

def laws_FnScripts_L1 (v6 : GGuild × (List Int)) (k1 : Nat) (s1 : List Str) : Option (Res (List Str) Empty) :=
 (Zae (gx v6.2 k1)).bind fun v7 =>
 gd (s1.length + 1 ≤ 1099511627776) <|
 some (.next (s1 ++ [v7]))

def laws_FnScripts (a_code : List UInt8) : Option Bool :=
 (ZlN a_code).bind fun v1 =>
 bif v1 then
  some true
 else
  (ZfE a_code).bind fun v2 =>
  (Zee v2.2).bind fun v3 =>
  (ZeH v3.1).bind fun v4 =>
  ZbP.bind fun v5 =>
  (ZeJ v5 v2.2).bind fun v6 =>
  gd (v6.2.length ≤ 4611686018427387904) <|
  (lpO (laws_FnScripts_L1 v6) v6.2.length ([] : List Str)).bind fun e1 =>
  (ZbO v6.1).bind fun v8 =>
  gd (e1.length + v8.length ≤ 1099511627776) <|
  (
   bif v3.2 then
    bif v4.2 then
     (ZeX v4.1 (e1 ++ v8)).bind fun v9 =>
     some v9
    else
     some false
   else
    some false).bind fun j1 =>
  some j1

def Zjf (a_a : GAct) : Option Bool :=
 bif (a_a.Kind == 1) then
  (
   (ZI a_a.A 1 999).bind fun v1 =>
   bif v1 then
    some (a_a.B == 0)
   else
    some false).bind fun j1 =>
  some j1
 else
  bif (a_a.Kind == 2) then
   (
    (ZI a_a.A 1 999).bind fun v2 =>
    bif v2 then
     (ZI a_a.B 0 9).bind fun v3 =>
     some v3
    else
     some false).bind fun j2 =>
   some j2
  else
   bif ((a_a.Kind == 3) || (a_a.Kind == 6)) then
    (
     (ZI a_a.A 0 9).bind fun v4 =>
     bif v4 then
      some (a_a.B == 0)
     else
      some false).bind fun j4 =>
    some j4
   else
    bif ((a_a.Kind == 4) || (a_a.Kind == 5)) then
     some ((a_a.A == 0) && (a_a.B == 0))
    else
     some false

def Zld  : Option GBlock :=
 (ZcM 1).bind fun v1 =>
 some (GBlock.mk 3 ([(GCell.mk 1 0 1), v1, (GCell.mk 2 1 0), v1, v1, v1, (GCell.mk 2 0 1), v1, (GCell.mk 1 1 0)] : List GCell))

def Zmj (a_n : Int) (k1 : Nat) (s1 : List GCell) : Option (Res (List GCell) Empty) :=
 (ZcM (wr ((wr (a_n.tdiv 5)) + 1))).bind fun v3 =>
 (
  bif (decide (((k1 : Nat) : Int) < (a_n.tmod 5))) then
   (ZcG 1 0 1).bind fun v4 =>
   some v4
  else
   some v3).bind fun j1 =>
 gd (s1.length + 1 ≤ 1099511627776) <|
 some (.next (s1 ++ [(j1)]))

def ZhK (a_n : Int) : Option GBlock :=
 bif (a_n == 0) then
  Zld.bind fun v1 =>
  some v1
 else
  (ZI a_n 1 9).bind fun v2 =>
  bif (!v2) then
   some (GBlock.mk 0 ([] : List GCell))
  else
   (lpO (Zmj a_n) 4 ([] : List GCell)).bind fun e1 =>
   some (GBlock.mk 2 e1)

def Zi5 (a_c : GCell) (a_a : Int) : Option Int :=
 (Zbr a_c).bind fun v1 =>
 bif (!v1) then
  some 0
 else
  some (bif (a_c.B == a_a) then (wr ((bif (a_c.A == a_a) then (wr (0 + 2)) else 0) + 2)) else (bif (a_c.A == a_a) then (wr (0 + 2)) else 0))

def Zit (a_b : GBlock) (a_a : Int) (k1 : Nat) (s1 : Int) : Option (Res Int Empty) :=
 (Zi5 (gx a_b.Cells k1) a_a).bind fun v2 =>
 some (.next (wr (s1 + v2)))

def ZkA (a_b : GBlock) (a_a : Int) : Option Int :=
 (Zab a_b).bind fun v1 =>
 bif (!v1) then
  some 0
 else
  gd (a_b.Cells.length ≤ 4611686018427387904) <|
  (lpO (Zit a_b a_a) a_b.Cells.length 0).bind fun e1 =>
  some e1

def Zcj (a_b : GBlock) (k1 : Nat) (s1 : List Int) : Option (Res (List Int) Empty) :=
 (Zab a_b).bind fun v1 =>
 bif v1 then
  (ZkA a_b ((k1 : Nat) : Int)).bind fun v2 =>
  gd (s1.length + 1 ≤ 1099511627776) <|
  some (.next (s1 ++ [v2]))
 else
  some (.brk s1)

def ZeL (a_b : GBlock) : Option (List Int) :=
 (lpO (Zcj a_b) 6 ([] : List Int)).bind fun e1 =>
 some e1

def Zhi (a_stock : List Int) (a_need : List Int) (k1 : Nat) (_ : Unit) : Option (Res Unit Bool) :=
 gd (k1 < a_need.length) <|
 gd (k1 < a_stock.length) <|
 bif (decide ((gx a_need k1) > (gx a_stock k1))) then
  some (.ret false)
 else
  some (.next ())

def Ziq (a_stock : List Int) (a_need : List Int) : Option Bool :=
 (
  (Zcc a_stock).bind fun v1 =>
  bif (!v1) then
   some true
  else
   (Zcc a_need).bind fun v2 =>
   some (!v2)).bind fun j1 =>
 bif j1 then
  some false
 else
  sq (forO (Zhi a_stock a_need) 6 0 ()) fun _ =>
  some true

def Zhz (a_g : GGuild) (v6 : List Int) (k1 : Nat) (s1 : List Int) : Option (Res (List Int) Empty) :=
 gd (k1 < a_g.Stock.length) <|
 gd (k1 < v6.length) <|
 gd (k1 < s1.length) <|
 some (.next (s1.set k1 (wr ((gx a_g.Stock k1) - (gx v6 k1)))))

def Zhu (a_g : GGuild) (a_k : Int) : Option (GGuild × Bool) :=
 (ZaP a_g).bind fun v1 =>
 (
  (Zas a_g).bind fun v2 =>
  bif (!v2) then
   some true
  else
   (ZI a_k 0 (wr (((a_g.Entries.length : Nat) : Int) - 1))).bind fun v3 =>
   bif (!v3) then
    some true
   else
    gd (0 ≤ a_k ∧ a_k < ((a_g.Entries.length : Nat) : Int)) <|
    (ZeL ((gx a_g.Entries ((a_k).toNat)).Block)).bind fun v4 =>
    (Ziq a_g.Stock v4).bind fun v5 =>
    some (!v5)).bind fun j1 =>
 bif j1 then
  some (v1, false)
 else
  gd (0 ≤ a_k ∧ a_k < ((a_g.Entries.length : Nat) : Int)) <|
  (ZeL ((gx a_g.Entries ((a_k).toNat)).Block)).bind fun v6 =>
  (lpO (Zhz a_g v6) 6 v1.Stock).bind fun e1 =>
  some ((GGuild.mk v1.Members e1 v1.Entries v1.Books v1.Round v1.Year), true)

def ZjP (a_g : GGuild) : Option (GGuild × Bool) :=
 (ZaP a_g).bind fun v1 =>
 (
  (Zas a_g).bind fun v2 =>
  bif (!v2) then
   some true
  else
   (Zb9 a_g).bind fun v3 =>
   bif (decide (a_g.Round < v3)) then
    some true
   else
    (Zas (GGuild.mk v1.Members v1.Stock v1.Entries v1.Books 0 (wr (v1.Year + 1)))).bind fun v4 =>
    some (!v4)).bind fun j1 =>
 bif j1 then
  (ZaP a_g).bind fun v5 =>
  some (v5, false)
 else
  some ((GGuild.mk v1.Members v1.Stock v1.Entries v1.Books 0 (wr (v1.Year + 1))), true)

def Zix (a_stock : List Int) (a_need : List Int) (k1 : Nat) (s1 : List Int) : Option (Res (List Int) Empty) :=
 (
  (Zcc a_stock).bind fun v1 =>
  bif v1 then
   (Zcc a_need).bind fun v2 =>
   some (v1, v2)
  else
   some (v1, false)).bind fun j1 =>
 bif j1.2 then
  gd (k1 < a_need.length) <|
  gd (k1 < a_stock.length) <|
  gd (s1.length + 1 ≤ 1099511627776) <|
  some (.next (s1 ++ [(if (wr ((gx a_need k1) - (gx a_stock k1))) > 0 then (wr ((gx a_need k1) - (gx a_stock k1))) else 0)]))
 else
  some (.brk s1)

def ZkG (a_stock : List Int) (a_need : List Int) : Option (List Int) :=
 (lpO (Zix a_stock a_need) 6 ([] : List Int)).bind fun e1 =>
 some e1

def ZjS (a_ok : Bool) : Option Int :=
 bif a_ok then
  some 1
 else
  some 0

def ZlT (v11 : List Int) (k1 : Nat) (s1 : Int) : Option (Res Int Empty) :=
 some (.next (wr (s1 + (gx v11 k1))))

def Zh1 (a_g : GGuild) (a_a : GAct) : Option (GGuild × Int) :=
 (ZaP a_g).bind fun v1 =>
 (
  (Zas a_g).bind fun v2 =>
  bif (!v2) then
   some true
  else
   (Zjf a_a).bind fun v3 =>
   some (!v3)).bind fun j1 =>
 bif j1 then
  some (v1, (-1))
 else
  sq (
   bif (a_a.Kind == 1) then
    (ZcO a_g a_a.A).bind fun v4 =>
    some (.inl (v4.2, v4.1))
   else
    bif (a_a.Kind == 2) then
     (
      bif (decide (((a_g.Entries.length : Nat) : Int) > 0)) then
       gd (0 ≤ (wr (((a_g.Entries.length : Nat) : Int) - 1)) ∧ (wr (((a_g.Entries.length : Nat) : Int) - 1)) < ((a_g.Entries.length : Nat) : Int)) <|
       some (wr ((gx a_g.Entries (((wr (((a_g.Entries.length : Nat) : Int) - 1))).toNat)).Day + 1))
      else
       some 0).bind fun j3 =>
     (ZhK a_a.B).bind fun v5 =>
     (Zf2 a_g a_a.A j3 v5).bind fun v6 =>
     some (.inl (v6.2, v6.1))
    else
     bif (a_a.Kind == 3) then
      (Zhu a_g a_a.A).bind fun v7 =>
      some (.inl (v7.2, v7.1))
     else
      bif (a_a.Kind == 4) then
       (ZdA a_g).bind fun v8 =>
       some (.inl (v8.2, v8.1))
      else
       bif (a_a.Kind == 5) then
        (ZjP a_g).bind fun v9 =>
        some (.inl (v9.2, v9.1))
       else
        bif (a_a.Kind == 6) then
         (
          bif (decide (a_a.A < ((a_g.Entries.length : Nat) : Int))) then
           gd (0 ≤ a_a.A ∧ a_a.A < ((a_g.Entries.length : Nat) : Int)) <|
           (ZeL ((gx a_g.Entries ((a_a.A).toNat)).Block)).bind fun v10 =>
           (ZkG a_g.Stock v10).bind fun v11 =>
           gd (v11.length ≤ 4611686018427387904) <|
           (lpO (ZlT v11) v11.length 0).bind fun e1 =>
           some e1
          else
           some 0).bind fun j4 =>
         some (.inr (v1, j4))
        else
         some (.inl (false, v1))) fun j2 =>
  (ZjS j2.1).bind fun v12 =>
  some ((j2.2), v12)

def ZbK (a_line : Str) (k1 : Nat) (s1 : (List Str) × Int) : Option (Res ((List Str) × Int) ((List Str) × Bool)) :=
 (
  bif (decide (((k1 : Nat) : Int) < ((a_line.b.length : Nat) : Int))) then
   gd (k1 < a_line.b.length) <|
   bif (decide ((((sat_ a_line k1)).toNat : Int) < 32)) then
    some true
   else
    some (decide ((((sat_ a_line k1)).toNat : Int) > 126))
  else
   some false).bind fun j1 =>
 bif j1 then
  some (.ret (([] : List Str), false))
 else
  (
   bif (decide (((k1 : Nat) : Int) < ((a_line.b.length : Nat) : Int))) then
    gd (k1 < a_line.b.length) <|
    some ((((sat_ a_line k1)).toNat : Int) != 32)
   else
    some false).bind fun j2 =>
  bif j2 then
   some (.next (s1.1, s1.2))
  else
   (
    bif (decide (s1.2 < ((k1 : Nat) : Int))) then
     gd (0 ≤ s1.2 ∧ (s1.2).toNat ≤ k1 ∧ k1 ≤ a_line.b.length) <|
     gd (s1.1.length + 1 ≤ 1099511627776) <|
     some (s1.1 ++ [(ssub a_line ((s1.2).toNat) k1)])
    else
     some s1.1).bind fun j3 =>
   some (.next (j3, ((k1 + 1 : Nat) : Int)))

def ZhE (a_line : Str) : Option ((List Str) × Bool) :=
 bif (decide (((a_line.b.length : Nat) : Int) > 600)) then
  some (([] : List Str), false)
 else
  gd ((a_line.b.length + 1) ≤ 4611686018427387904) <|
  sq (forO (ZbK a_line) (a_line.b.length + 1) 0 (([] : List Str), 0)) fun e1 =>
  bif (decide (((e1.1.length : Nat) : Int) > 24)) then
   some (([] : List Str), false)
  else
   some (e1.1, true)

def Zey (a_text : Str) (k1 : Nat) (s1 : Int) : Option (Res Int (Int × Bool)) :=
 bif ((decide ((((sat_ a_text k1)).toNat : Int) < 48)) || (decide ((((sat_ a_text k1)).toNat : Int) > 57))) then
  some (.ret (0, false))
 else
  some (.next (wr ((wr ((wr (10 * s1)) + (((sat_ a_text k1)).toNat : Int))) - 48)))

def ZcK (a_text : Str) : Option (Int × Bool) :=
 bif (decide (((a_text.b.length : Nat) : Int) > 10)) then
  some (0, false)
 else
  gd (a_text.b.length ≤ 4611686018427387904) <|
  sq (forO (Zey a_text) a_text.b.length 0 0) fun e1 =>
  (
   bif (decide (e1 > 1000000000)) then
    some true
   else
    (ZJ e1).bind fun v1 =>
    some (!(seq v1 a_text))).bind fun j2 =>
  bif j2 then
   some (0, false)
  else
   some (e1, true)

def ZdE (a_s : Str) : Option Int :=
 (
  bif (decide (((a_s.b.length : Nat) : Int) > 1)) then
   gd (0 < a_s.b.length) <|
   some ((((sat_ a_s 0)).toNat : Int) == 45)
  else
   some false).bind fun j1 =>
 bif j1 then
  gd (1 ≤ a_s.b.length ∧ a_s.b.length ≤ a_s.b.length) <|
  (ZcK (ssub a_s 1 a_s.b.length)).bind fun v1 =>
  some (wr (0 - v1.1))
 else
  (ZcK a_s).bind fun v2 =>
  some v2.1

def Zhj (a_a : GAct) (k1 : Nat) (s1 : Str) : Option (Res Str Empty) :=
 gd (s1.b.length + (⟨[32]⟩ : Str).b.length ≤ 1099511627776) <|
 gd (k1 < ([a_a.A, a_a.B] : List Int).length) <|
 (ZJ (gx ([a_a.A, a_a.B] : List Int) k1)).bind fun v2 =>
 gd ((sadd s1 (⟨[32]⟩ : Str)).b.length + v2.b.length ≤ 1099511627776) <|
 some (.next (sadd (sadd s1 (⟨[32]⟩ : Str)) v2))

def Zip (a_a : GAct) : Option (Str × Bool) :=
 (Zjf a_a).bind fun v1 =>
 bif (!v1) then
  some ((⟨[]⟩ : Str), false)
 else
  gd (0 ≤ a_a.Kind ∧ a_a.Kind < ((([(⟨[]⟩ : Str), (⟨[97, 100, 109, 105, 116]⟩ : Str), (⟨[115, 117, 98, 109, 105, 116]⟩ : Str), (⟨[115, 101, 119]⟩ : Str), (⟨[114, 111, 117, 110, 100]⟩ : Str), (⟨[121, 101, 97, 114]⟩ : Str), (⟨[108, 97, 99, 107]⟩ : Str)] : List Str).length : Nat) : Int)) <|
  gd (0 ≤ a_a.Kind ∧ a_a.Kind < ((([0, 1, 2, 1, 0, 0, 1] : List Int).length : Nat) : Int)) <|
  gd (((gx ([0, 1, 2, 1, 0, 0, 1] : List Int) ((a_a.Kind).toNat))).toNat ≤ 4611686018427387904) <|
  (lpO (Zhj a_a) (((gx ([0, 1, 2, 1, 0, 0, 1] : List Int) ((a_a.Kind).toNat))).toNat) (gx ([(⟨[]⟩ : Str), (⟨[97, 100, 109, 105, 116]⟩ : Str), (⟨[115, 117, 98, 109, 105, 116]⟩ : Str), (⟨[115, 101, 119]⟩ : Str), (⟨[114, 111, 117, 110, 100]⟩ : Str), (⟨[121, 101, 97, 114]⟩ : Str), (⟨[108, 97, 99, 107]⟩ : Str)] : List Str) ((a_a.Kind).toNat))).bind fun e1 =>
  some (e1, true)

def Zfa (v1 : (List Str) × Bool) (k1 : Nat) (s1 : Str × (List Int)) : Option (Res (Str × (List Int)) Empty) :=
 gd (s1.1.b.length + (⟨[32]⟩ : Str).b.length ≤ 1099511627776) <|
 gd ((k1 + 1) < v1.1.length) <|
 gd ((sadd s1.1 (⟨[32]⟩ : Str)).b.length + (gx v1.1 (k1 + 1)).b.length ≤ 1099511627776) <|
 (ZdE (gx v1.1 (k1 + 1))).bind fun v3 =>
 gd (s1.2.length + 1 ≤ 1099511627776) <|
 some (.next ((sadd (sadd s1.1 (⟨[32]⟩ : Str)) (gx v1.1 (k1 + 1))), (s1.2 ++ [v3])))

def ZhD (e1 : Str × (List Int)) (k2 : Nat) (_ : Unit) : Option (Res Unit (GAct × Bool)) :=
 gd (0 < (e1.2 ++ [0, 0]).length) <|
 gd (1 < (e1.2 ++ [0, 0]).length) <|
 (Zip (GAct.mk (((k2 + 1) : Nat) : Int) (gx (e1.2 ++ [0, 0]) 0) (gx (e1.2 ++ [0, 0]) 1))).bind fun v4 =>
 bif (v4.2 && (seq v4.1 e1.1)) then
  some (.ret ((GAct.mk (((k2 + 1) : Nat) : Int) (gx (e1.2 ++ [0, 0]) 0) (gx (e1.2 ++ [0, 0]) 1)), true))
 else
  some (.next ())

def ZfC (a_line : Str) : Option (GAct × Bool) :=
 (ZhE a_line).bind fun v1 =>
 (
  bif (!v1.2) then
   some true
  else
   (ZI ((v1.1.length : Nat) : Int) 1 3).bind fun v2 =>
   some (!v2)).bind fun j1 =>
 bif j1 then
  some ((GAct.mk 0 0 0), false)
 else
  gd (0 < v1.1.length) <|
  gd ((v1.1.length - 1) ≤ 4611686018427387904) <|
  (lpO (Zfa v1) (v1.1.length - 1) ((gx v1.1 0), ([] : List Int))).bind fun e1 =>
  gd (e1.2.length + 2 ≤ 1099511627776) <|
  sq (forO (ZhD e1) 6 0 ()) fun _ =>
  some ((GAct.mk 0 0 0), false)

def Zdh (a_b : GBlock) (k1 : Nat) (s1 : Str) : Option (Res Str Empty) :=
 (Zab a_b).bind fun v1 =>
 bif v1 then
  (
   bif (decide (((k1 : Nat) : Int) > 0)) then
    gd (a_b.Size ≠ 0) <|
    some ((((k1 : Nat) : Int).tmod a_b.Size) == 0)
   else
    some false).bind fun j1 =>
  (
   bif j1 then
    gd (s1.b.length + (⟨[59]⟩ : Str).b.length ≤ 1099511627776) <|
    some (sadd s1 (⟨[59]⟩ : Str))
   else
    bif (decide (((k1 : Nat) : Int) > 0)) then
     gd (s1.b.length + (⟨[44]⟩ : Str).b.length ≤ 1099511627776) <|
     some (sadd s1 (⟨[44]⟩ : Str))
    else
     some s1).bind fun j2 =>
  (Zea (gx a_b.Cells k1)).bind fun v2 =>
  gd (j2.b.length + v2.b.length ≤ 1099511627776) <|
  some (.next (sadd j2 v2))
 else
  some (.brk s1)

def ZiB (a_b : GBlock) : Option Str :=
 gd (a_b.Cells.length ≤ 4611686018427387904) <|
 (lpO (Zdh a_b) a_b.Cells.length (⟨[]⟩ : Str)).bind fun e1 =>
 some e1

def Zf9 (a_g : GGuild) (k1 : Nat) (s1 : Str) : Option (Res Str Empty) :=
 gd (s1.b.length + (⟨[32]⟩ : Str).b.length ≤ 1099511627776) <|
 (ZJ ((gx a_g.Members k1).Number)).bind fun v2 =>
 gd ((sadd s1 (⟨[32]⟩ : Str)).b.length + v2.b.length ≤ 1099511627776) <|
 some (.next (sadd (sadd s1 (⟨[32]⟩ : Str)) v2))

def Zf7 (a_g : GGuild) (k2 : Nat) (s2 : Str) : Option (Res Str Empty) :=
 gd (s2.b.length + (⟨[32]⟩ : Str).b.length ≤ 1099511627776) <|
 (ZJ (gx a_g.Stock k2)).bind fun v3 =>
 gd ((sadd s2 (⟨[32]⟩ : Str)).b.length + v3.b.length ≤ 1099511627776) <|
 some (.next (sadd (sadd s2 (⟨[32]⟩ : Str)) v3))

def Zga (a_g : GGuild) (k3 : Nat) (s3 : List Str) : Option (Res (List Str) Empty) :=
 (ZJ ((gx a_g.Entries k3).Owner)).bind fun v4 =>
 gd (v4.b.length + (⟨[32]⟩ : Str).b.length ≤ 1099511627776) <|
 (ZJ ((gx a_g.Entries k3).Day)).bind fun v5 =>
 gd ((sadd v4 (⟨[32]⟩ : Str)).b.length + v5.b.length ≤ 1099511627776) <|
 gd ((sadd (sadd v4 (⟨[32]⟩ : Str)) v5).b.length + (⟨[32]⟩ : Str).b.length ≤ 1099511627776) <|
 (ZiB ((gx a_g.Entries k3).Block)).bind fun v6 =>
 gd ((sadd (sadd (sadd v4 (⟨[32]⟩ : Str)) v5) (⟨[32]⟩ : Str)).b.length + v6.b.length ≤ 1099511627776) <|
 gd (s3.length + 1 ≤ 1099511627776) <|
 some (.next (s3 ++ [(sadd (sadd (sadd (sadd v4 (⟨[32]⟩ : Str)) v5) (⟨[32]⟩ : Str)) v6)]))

def ZhM (a_g : GGuild) : Option (List Str) :=
 (Zas a_g).bind fun v1 =>
 bif (!v1) then
  some ([] : List Str)
 else
  gd (a_g.Members.length ≤ 4611686018427387904) <|
  (lpO (Zf9 a_g) a_g.Members.length (⟨[109, 101, 109, 98, 101, 114, 115]⟩ : Str)).bind fun e1 =>
  gd (a_g.Stock.length ≤ 4611686018427387904) <|
  (lpO (Zf7 a_g) a_g.Stock.length (⟨[115, 116, 111, 99, 107]⟩ : Str)).bind fun e2 =>
  gd (a_g.Entries.length ≤ 4611686018427387904) <|
  (lpO (Zga a_g) a_g.Entries.length ([e1, e2] : List Str)).bind fun e3 =>
  (ZJ a_g.Round).bind fun v7 =>
  gd ((⟨[114, 111, 117, 110, 100, 32]⟩ : Str).b.length + v7.b.length ≤ 1099511627776) <|
  gd ((sadd (⟨[114, 111, 117, 110, 100, 32]⟩ : Str) v7).b.length + (⟨[47]⟩ : Str).b.length ≤ 1099511627776) <|
  (Zb9 a_g).bind fun v8 =>
  (ZJ v8).bind fun v9 =>
  gd ((sadd (sadd (⟨[114, 111, 117, 110, 100, 32]⟩ : Str) v7) (⟨[47]⟩ : Str)).b.length + v9.b.length ≤ 1099511627776) <|
  (ZJ a_g.Year).bind fun v10 =>
  gd ((⟨[121, 101, 97, 114, 32]⟩ : Str).b.length + v10.b.length ≤ 1099511627776) <|
  gd (e3.length + 2 ≤ 1099511627776) <|
  some (e3 ++ [(sadd (sadd (sadd (⟨[114, 111, 117, 110, 100, 32]⟩ : Str) v7) (⟨[47]⟩ : Str)) v9), (sadd (⟨[121, 101, 97, 114, 32]⟩ : Str) v10)])

end Go.Proofs.YtjfjbgihojiijabGreatDoor
