/-
 What the functions compute, as Lean functions.
-/
import Derived.Test.YtjfjbgihojiijaaGreatDoorTypes
import Derived.Lib.ItoaNum
import Derived.Lib.Join
import Derived.Lib.Atoi
namespace Go.Proofs.YtjfjbgihojiijaaGreatDoor
open Go Go.RowKit

def laws_big (a_code : List UInt8) : Option Bool :=
 some (decide (((a_code.length : Nat) : Int) > 1048576))

def spec_l01New_L1 (a_code : List UInt8) (k1 : Nat) (s1 : Int) : Option (Res Int Empty) :=
 bif (decide (((k1 : Nat) : Int) < 4000)) then
  some (.next (andI (wr ((wr ((wr (s1 * 131)) + (((gx a_code k1)).toNat : Int))) + 7)) 1073741823))
 else
  some (.brk s1)

def spec_l01New (a_code : List UInt8) : Option (Int × Int) :=
 gd (a_code.length ≤ 4611686018427387904) <|
 (lpO (spec_l01New_L1 a_code) a_code.length (wr (33041 + ((a_code.length : Nat) : Int)))).bind fun e1 =>
 some (0, e1)

def spec_l01Byte (a_c0 : List UInt8) (a_c1 : Int) (a_c2 : Int) : Option (Int × Int × Int) :=
 (
  bif (decide (a_c1 < ((a_c0.length : Nat) : Int))) then
   gd (0 ≤ a_c1 ∧ a_c1 < ((a_c0.length : Nat) : Int)) <|
   some ((andI (wr ((andI (xorI (shrI (wr ((wr (a_c2 * 6364136223846793005)) + 1442695040888963407)) 33) (shrI (wr ((wr (a_c2 * 6364136223846793005)) + 1442695040888963407)) 45)) 255) + (((gx a_c0 ((a_c1).toNat))).toNat : Int))) 255), (wr (a_c1 + 1)))
  else
   some ((andI (xorI (shrI (wr ((wr (a_c2 * 6364136223846793005)) + 1442695040888963407)) 33) (shrI (wr ((wr (a_c2 * 6364136223846793005)) + 1442695040888963407)) 45)) 255), a_c1)).bind fun j1 =>
 some (j1.1, j1.2, (wr ((wr (a_c2 * 6364136223846793005)) + 1442695040888963407)))

def spec_l01Below (a_c0 : List UInt8) (a_c1 : Int) (a_c2 : Int) (a_n : Int) : Option (Int × Int × Int) :=
 bif (decide (a_n ≤ 0)) then
  some (0, a_c1, a_c2)
 else
  bif (decide (a_n ≤ 256)) then
   (spec_l01Byte a_c0 a_c1 a_c2).bind fun v1 =>
   gd (a_n ≠ 0) <|
   some ((v1.1.tmod a_n), v1.2.1, v1.2.2)
  else
   (spec_l01Byte a_c0 a_c1 a_c2).bind fun v2 =>
   (spec_l01Byte a_c0 v2.2.1 v2.2.2).bind fun v3 =>
   (spec_l01Byte a_c0 v3.2.1 v3.2.2).bind fun v4 =>
   (spec_l01Byte a_c0 v4.2.1 v4.2.2).bind fun v5 =>
   gd (a_n ≠ 0) <|
   some (((wr ((wr ((wr ((wr (v2.1 * 16777216)) + (wr (v3.1 * 65536)))) + (wr (v4.1 * 256)))) + v5.1)).tmod a_n), v5.2.1, v5.2.2)

def spec_l01Once (a_c0 : List UInt8) (a_c1 : Int) (a_c2 : Int) (a_n : Int) : Option (Bool × Int × Int) :=
 (spec_l01Below a_c0 a_c1 a_c2 a_n).bind fun v1 =>
 some ((v1.1 == 0), v1.2.1, v1.2.2)

def spec_l01In (a_x : Int) (a_least : Int) (a_most : Int) : Option Bool :=
 some ((decide (a_x ≥ a_least)) && (decide (a_x ≤ a_most)))

def spec_MembersOk_L1 (a_list : List GMember) (k1 : Nat) (_ : Unit) : Option (Res Unit Bool) :=
 (
  (spec_l01In ((gx a_list k1).Number) 1 999).bind fun v1 =>
  bif (!v1) then
   some true
  else
   (spec_l01In ((gx a_list k1).Since) 1900 2999).bind fun v2 =>
   bif (!v2) then
    some true
   else
    (spec_l01In ((gx a_list k1).Paid) (wr ((gx a_list k1).Since - 1)) 2999).bind fun v3 =>
    bif (!v3) then
     some true
    else
     bif (decide (((k1 : Nat) : Int) > 0)) then
      gd (0 ≤ (wr (((k1 : Nat) : Int) - 1)) ∧ (wr (((k1 : Nat) : Int) - 1)) < ((a_list.length : Nat) : Int)) <|
      some (decide ((gx a_list k1).Number ≤ (gx a_list (((wr (((k1 : Nat) : Int) - 1))).toNat)).Number))
     else
      some false).bind fun j1 =>
 bif j1 then
  some (.ret false)
 else
  some (.next ())

def spec_MembersOk (a_list : List GMember) : Option Bool :=
 gd (a_list.length ≤ 4611686018427387904) <|
 sq (forO (spec_MembersOk_L1 a_list) a_list.length 0 ()) fun _ =>
 some (decide (((a_list.length : Nat) : Int) ≤ 40))

def spec_StockOk_L1 (a_stock : List Int) (k1 : Nat) (_ : Unit) : Option (Res Unit Bool) :=
 (spec_l01In (gx a_stock k1) 0 1000000).bind fun v1 =>
 bif (!v1) then
  some (.ret false)
 else
  some (.next ())

def spec_StockOk (a_stock : List Int) : Option Bool :=
 gd (a_stock.length ≤ 4611686018427387904) <|
 sq (forO (spec_StockOk_L1 a_stock) a_stock.length 0 ()) fun _ =>
 some (((a_stock.length : Nat) : Int) == 6)

def spec_LedgerOk_L1 (a_list : List GBooking) (k1 : Nat) (_ : Unit) : Option (Res Unit Bool) :=
 (
  (spec_l01In ((gx a_list k1).Day) 0 9999).bind fun v1 =>
  bif (!v1) then
   some true
  else
   (spec_l01In ((gx a_list k1).From) 0 4).bind fun v2 =>
   bif (!v2) then
    some true
   else
    (spec_l01In ((gx a_list k1).To) 0 4).bind fun v3 =>
    bif (!v3) then
     some true
    else
     bif ((gx a_list k1).From == (gx a_list k1).To) then
      some true
     else
      (spec_l01In ((gx a_list k1).Sum) 1 100000).bind fun v4 =>
      bif (!v4) then
       some true
      else
       bif (decide (((k1 : Nat) : Int) > 0)) then
        gd (0 ≤ (wr (((k1 : Nat) : Int) - 1)) ∧ (wr (((k1 : Nat) : Int) - 1)) < ((a_list.length : Nat) : Int)) <|
        some (decide ((gx a_list k1).Day < (gx a_list (((wr (((k1 : Nat) : Int) - 1))).toNat)).Day))
       else
        some false).bind fun j1 =>
 bif j1 then
  some (.ret false)
 else
  some (.next ())

def spec_LedgerOk (a_list : List GBooking) : Option Bool :=
 gd (a_list.length ≤ 4611686018427387904) <|
 sq (forO (spec_LedgerOk_L1 a_list) a_list.length 0 ()) fun _ =>
 some (decide (((a_list.length : Nat) : Int) ≤ 60))

def spec_CellOk (a_c : GCell) : Option Bool :=
 (
  (spec_l01In a_c.Split 0 2).bind fun v1 =>
  bif (!v1) then
   some true
  else
   (spec_l01In a_c.A 0 5).bind fun v2 =>
   bif (!v2) then
    some true
   else
    (spec_l01In a_c.B 0 5).bind fun v3 =>
    some (!v3)).bind fun j1 =>
 bif j1 then
  some false
 else
  some ((a_c.Split == 0) == (a_c.A == a_c.B))

def spec_BlockOk_L1 (a_b : GBlock) (k1 : Nat) (_ : Unit) : Option (Res Unit Bool) :=
 (spec_CellOk (gx a_b.Cells k1)).bind fun v2 =>
 bif (!v2) then
  some (.ret false)
 else
  some (.next ())

def spec_BlockOk (a_b : GBlock) : Option Bool :=
 (
  (spec_l01In a_b.Size 1 4).bind fun v1 =>
  bif (!v1) then
   some true
  else
   some (((a_b.Cells.length : Nat) : Int) != (wr (a_b.Size * a_b.Size)))).bind fun j1 =>
 bif j1 then
  some false
 else
  gd (a_b.Cells.length ≤ 4611686018427387904) <|
  sq (forO (spec_BlockOk_L1 a_b) a_b.Cells.length 0 ()) fun _ =>
  some true

def spec_EntryOk (a_e : GEntry) : Option Bool :=
 (
  (spec_l01In a_e.Owner 0 99).bind fun v1 =>
  bif v1 then
   (spec_l01In a_e.Day 0 9999).bind fun v2 =>
   bif v2 then
    (spec_BlockOk a_e.Block).bind fun v3 =>
    some v3
   else
    some false
  else
   some false).bind fun j1 =>
 some j1

def spec_l38Member_L1 (a_list : List GMember) (a_number : Int) (k1 : Nat) (_ : Unit) : Option (Res Unit Bool) :=
 bif ((gx a_list k1).Number == a_number) then
  some (.ret true)
 else
  some (.next ())

def spec_l38Member (a_list : List GMember) (a_number : Int) : Option Bool :=
 gd (a_list.length ≤ 4611686018427387904) <|
 sq (forO (spec_l38Member_L1 a_list a_number) a_list.length 0 ()) fun _ =>
 some false

def spec_GoodStanding_L1 (a_list : List GMember) (a_year : Int) (k1 : Nat) (s1 : List Int) : Option (Res (List Int) Empty) :=
 (spec_MembersOk a_list).bind fun v1 =>
 bif v1 then
  (
   bif (decide ((gx a_list k1).Paid ≥ a_year)) then
    gd (s1.length + 1 ≤ 1099511627776) <|
    some (s1 ++ [(gx a_list k1).Number])
   else
    some s1).bind fun j1 =>
  some (.next j1)
 else
  some (.brk s1)

def spec_GoodStanding (a_list : List GMember) (a_year : Int) : Option (List Int) :=
 gd (a_list.length ≤ 4611686018427387904) <|
 (lpO (spec_GoodStanding_L1 a_list a_year) a_list.length ([] : List Int)).bind fun e1 =>
 some e1

def spec_SwapRounds (a_g : GGuild) : Option Int :=
 (spec_GoodStanding a_g.Members a_g.Year).bind fun v1 =>
 (spec_l01In ((v1.length : Nat) : Int) 2 10).bind fun v2 =>
 bif (!v2) then
  some 0
 else
  some (wr (((v1.length : Nat) : Int) - 1))

def spec_GuildOk_L1 (a_g : GGuild) (k1 : Nat) (_ : Unit) : Option (Res Unit Bool) :=
 (
  (spec_EntryOk (GEntry.mk ((gx a_g.Entries k1).Owner) ((gx a_g.Entries k1).Day) ((gx a_g.Entries k1).Block))).bind fun v5 =>
  bif (!v5) then
   some true
  else
   (spec_l38Member a_g.Members ((gx a_g.Entries k1).Owner)).bind fun v6 =>
   bif (!v6) then
    some true
   else
    bif (decide (((k1 : Nat) : Int) > 0)) then
     gd (0 ≤ (wr (((k1 : Nat) : Int) - 1)) ∧ (wr (((k1 : Nat) : Int) - 1)) < ((a_g.Entries.length : Nat) : Int)) <|
     some (decide ((gx a_g.Entries k1).Day < (gx a_g.Entries (((wr (((k1 : Nat) : Int) - 1))).toNat)).Day))
    else
     some false).bind fun j2 =>
 bif j2 then
  some (.ret false)
 else
  some (.next ())

def spec_GuildOk (a_g : GGuild) : Option Bool :=
 (
  (spec_MembersOk a_g.Members).bind fun v1 =>
  bif (!v1) then
   some true
  else
   (spec_StockOk a_g.Stock).bind fun v2 =>
   bif (!v2) then
    some true
   else
    (spec_LedgerOk a_g.Books).bind fun v3 =>
    bif (!v3) then
     some true
    else
     bif (decide (((a_g.Entries.length : Nat) : Int) > 10)) then
      some true
     else
      (spec_l01In a_g.Year 1900 2999).bind fun v4 =>
      some (!v4)).bind fun j1 =>
 bif j1 then
  some false
 else
  gd (a_g.Entries.length ≤ 4611686018427387904) <|
  sq (forO (spec_GuildOk_L1 a_g) a_g.Entries.length 0 ()) fun _ =>
  (spec_SwapRounds a_g).bind fun v7 =>
  (spec_l01In a_g.Round 0 v7).bind fun v8 =>
  some v8

def spec_NewGuild_L1 (_ : Nat) (s1 : List Int) : Option (Res (List Int) Empty) :=
 gd (s1.length + 1 ≤ 1099511627776) <|
 some (.next (s1 ++ [1000]))

def spec_NewGuild (a_year : Int) : Option (GGuild × Bool) :=
 (lpO spec_NewGuild_L1 6 ([] : List Int)).bind fun e1 =>
 (spec_GuildOk (GGuild.mk ([] : List GMember) e1 ([] : List GEntry) ([] : List GBooking) 0 a_year)).bind fun v1 =>
 bif (!v1) then
  some ((GGuild.mk ([] : List GMember) ([] : List Int) ([] : List GEntry) ([] : List GBooking) 0 0), false)
 else
  some ((GGuild.mk ([] : List GMember) e1 ([] : List GEntry) ([] : List GBooking) 0 a_year), true)

def spec_l03Copy (a_b : GBlock) : Option GBlock :=
 gd (([] : List GCell).length + a_b.Cells.length ≤ 1099511627776) <|
 some (GBlock.mk a_b.Size (([] : List GCell) ++ a_b.Cells))

def spec_l38Copy_L1 (a_g : GGuild) (k1 : Nat) (s1 : List GEntry) : Option (Res (List GEntry) Empty) :=
 (spec_l03Copy ((gx a_g.Entries k1).Block)).bind fun v1 =>
 gd (s1.length + 1 ≤ 1099511627776) <|
 some (.next (s1 ++ [(GEntry.mk ((gx a_g.Entries k1).Owner) ((gx a_g.Entries k1).Day) v1)]))

def spec_l38Copy (a_g : GGuild) : Option GGuild :=
 gd (([] : List GMember).length + a_g.Members.length ≤ 1099511627776) <|
 gd (([] : List Int).length + a_g.Stock.length ≤ 1099511627776) <|
 gd (([] : List GBooking).length + a_g.Books.length ≤ 1099511627776) <|
 gd (a_g.Entries.length ≤ 4611686018427387904) <|
 (lpO (spec_l38Copy_L1 a_g) a_g.Entries.length ([] : List GEntry)).bind fun e1 =>
 some (GGuild.mk (([] : List GMember) ++ a_g.Members) (([] : List Int) ++ a_g.Stock) e1 (([] : List GBooking) ++ a_g.Books) a_g.Round a_g.Year)

def spec_JoinGuild_L1 (a_list : List GMember) (a_number : Int) (s1 : Int) : Option (Res Int Empty) :=
 (
  bif (decide (s1 < ((a_list.length : Nat) : Int))) then
   gd (0 ≤ s1 ∧ s1 < ((a_list.length : Nat) : Int)) <|
   some (decide ((gx a_list ((s1).toNat)).Number < a_number))
  else
   some false).bind fun j2 =>
 bif j2 then
  some (.next (wr (s1 + 1)))
 else
  some (.brk s1)

def spec_JoinGuild (a_list : List GMember) (a_number : Int) (a_year : Int) : Option ((List GMember) × Bool) :=
 gd (([] : List GMember).length + a_list.length ≤ 1099511627776) <|
 (
  (spec_MembersOk a_list).bind fun v1 =>
  bif (!v1) then
   some true
  else
   (spec_l01In a_year 1900 2999).bind fun v2 =>
   some (!v2)).bind fun j1 =>
 bif j1 then
  some ((([] : List GMember) ++ a_list), false)
 else
  (wlO (spec_JoinGuild_L1 a_list a_number) 18446744073709551616 0).bind fun e1 =>
  gd (0 ≤ e1 ∧ 0 ≤ (e1).toNat ∧ (e1).toNat ≤ a_list.length) <|
  gd (([] : List GMember).length + ((a_list.drop 0).take ((e1).toNat - 0)).length ≤ 1099511627776) <|
  gd ((([] : List GMember) ++ ((a_list.drop 0).take ((e1).toNat - 0))).length + 1 ≤ 1099511627776) <|
  gd (0 ≤ e1 ∧ (e1).toNat ≤ a_list.length ∧ a_list.length ≤ a_list.length) <|
  gd (((([] : List GMember) ++ ((a_list.drop 0).take ((e1).toNat - 0))) ++ [(GMember.mk a_number a_year (wr (a_year - 1)))]).length + ((a_list.drop ((e1).toNat)).take (a_list.length - ((e1).toNat))).length ≤ 1099511627776) <|
  (spec_MembersOk (((([] : List GMember) ++ ((a_list.drop 0).take ((e1).toNat - 0))) ++ [(GMember.mk a_number a_year (wr (a_year - 1)))]) ++ ((a_list.drop ((e1).toNat)).take (a_list.length - ((e1).toNat))))).bind fun v3 =>
  bif (!v3) then
   some ((([] : List GMember) ++ a_list), false)
  else
   some ((((([] : List GMember) ++ ((a_list.drop 0).take ((e1).toNat - 0))) ++ [(GMember.mk a_number a_year (wr (a_year - 1)))]) ++ ((a_list.drop ((e1).toNat)).take (a_list.length - ((e1).toNat)))), true)

def spec_PayDues_L1 (a_list : List GMember) (a_number : Int) (a_years : Int) (k1 : Nat) (s1 : (List GMember) × Bool) : Option (Res ((List GMember) × Bool) Empty) :=
 (spec_l01In a_years 1 10).bind fun v1 =>
 bif v1 then
  (
   bif ((gx a_list k1).Number == a_number) then
    gd (k1 < s1.1.length) <|
    some ((s1.1.set k1 (GMember.mk ((gx s1.1 k1).Number) ((gx s1.1 k1).Since) (wr ((gx a_list k1).Paid + a_years)))), true)
   else
    some (s1.1, s1.2)).bind fun j1 =>
  some (.next (j1.1, j1.2))
 else
  some (.brk (s1.1, s1.2))

def spec_PayDues (a_list : List GMember) (a_number : Int) (a_years : Int) : Option ((List GMember) × Bool) :=
 gd (([] : List GMember).length + a_list.length ≤ 1099511627776) <|
 gd (a_list.length ≤ 4611686018427387904) <|
 (lpO (spec_PayDues_L1 a_list a_number a_years) a_list.length ((([] : List GMember) ++ a_list), false)).bind fun e1 =>
 (
  (spec_MembersOk a_list).bind fun v2 =>
  bif (!v2) then
   some true
  else
   bif (!e1.2) then
    some true
   else
    (spec_MembersOk e1.1).bind fun v3 =>
    some (!v3)).bind fun j2 =>
 bif j2 then
  some ((([] : List GMember) ++ a_list), false)
 else
  some (e1.1, true)

def spec_BookSum (a_list : List GBooking) (a_b : GBooking) : Option ((List GBooking) × Bool) :=
 gd (([] : List GBooking).length + a_list.length ≤ 1099511627776) <|
 gd ((([] : List GBooking) ++ a_list).length + 1 ≤ 1099511627776) <|
 (
  (spec_LedgerOk a_list).bind fun v1 =>
  bif (!v1) then
   some true
  else
   (spec_LedgerOk ((([] : List GBooking) ++ a_list) ++ [a_b])).bind fun v2 =>
   some (!v2)).bind fun j1 =>
 bif j1 then
  some ((([] : List GBooking) ++ a_list), false)
 else
  some (((([] : List GBooking) ++ a_list) ++ [a_b]), true)

def spec_Admit (a_g : GGuild) (a_number : Int) : Option (GGuild × Bool) :=
 (spec_l38Copy a_g).bind fun v1 =>
 (
  (spec_GuildOk a_g).bind fun v2 =>
  bif (!v2) then
   some true
  else
   some (a_g.Round != 0)).bind fun j1 =>
 bif j1 then
  some (v1, false)
 else
  (
   bif (decide (((a_g.Books.length : Nat) : Int) > 0)) then
    gd (0 ≤ (wr (((a_g.Books.length : Nat) : Int) - 1)) ∧ (wr (((a_g.Books.length : Nat) : Int) - 1)) < ((a_g.Books.length : Nat) : Int)) <|
    some ((gx a_g.Books (((wr (((a_g.Books.length : Nat) : Int) - 1))).toNat)).Day)
   else
    some 0).bind fun j2 =>
  (spec_JoinGuild a_g.Members a_number a_g.Year).bind fun v3 =>
  (spec_PayDues v3.1 a_number 1).bind fun v4 =>
  (spec_BookSum a_g.Books (GBooking.mk j2 0 1 20)).bind fun v5 =>
  bif ((!v3.2) || ((!v4.2) || (!v5.2))) then
   some (v1, false)
  else
   (spec_l38Copy a_g).bind fun v6 =>
   (spec_GuildOk (GGuild.mk v4.1 v6.Stock v6.Entries v5.1 v6.Round v6.Year)).bind fun v7 =>
   bif (!v7) then
    some (v1, false)
   else
    some ((GGuild.mk v4.1 v6.Stock v6.Entries v5.1 v6.Round v6.Year), true)

def spec_SampleGuild_L1 (k1 : Nat) (s1 : (List GMember) × (List Int) × (List GEntry) × (List GBooking) × Int × Int) : Option (Res ((List GMember) × (List Int) × (List GEntry) × (List GBooking) × Int × Int) Empty) :=
 (spec_Admit (GGuild.mk s1.1 s1.2.1 s1.2.2.1 s1.2.2.2.1 s1.2.2.2.2.1 s1.2.2.2.2.2) (((k1 + 1) : Nat) : Int)).bind fun v2 =>
 some (.next (v2.1.Members, v2.1.Stock, v2.1.Entries, v2.1.Books, v2.1.Round, v2.1.Year))

def spec_SampleGuild  : Option GGuild :=
 (spec_NewGuild 2020).bind fun v1 =>
 (lpO spec_SampleGuild_L1 3 (v1.1.Members, v1.1.Stock, v1.1.Entries, v1.1.Books, v1.1.Round, v1.1.Year)).bind fun e1 =>
 some (GGuild.mk e1.1 e1.2.1 e1.2.2.1 e1.2.2.2.1 e1.2.2.2.2.1 e1.2.2.2.2.2)

def spec_WholeCell (a_a : Int) : Option GCell :=
 (spec_l01In a_a 0 5).bind fun v1 =>
 bif (!v1) then
  some (GCell.mk 0 0 0)
 else
  some (GCell.mk 0 a_a a_a)

def spec_SplitCell (a_split : Int) (a_a : Int) (a_b : Int) : Option GCell :=
 bif (a_a == a_b) then
  (spec_WholeCell a_a).bind fun v1 =>
  some v1
 else
  (spec_CellOk (GCell.mk a_split a_a a_b)).bind fun v2 =>
  bif (!v2) then
   some (GCell.mk 0 0 0)
  else
   some (GCell.mk a_split a_a a_b)

def spec_l02Cell (a_c0 : List UInt8) (a_c1 : Int) (a_c2 : Int) : Option (GCell × Int × Int) :=
 (spec_l01Below a_c0 a_c1 a_c2 3).bind fun v1 =>
 (spec_l01Below a_c0 v1.2.1 v1.2.2 3).bind fun v2 =>
 (spec_l01Below a_c0 v2.2.1 v2.2.2 3).bind fun v3 =>
 (spec_SplitCell v1.1 v2.1 v3.1).bind fun v4 =>
 some (v4, v3.2.1, v3.2.2)

def spec_FirstUse_L1 (_ : Nat) (s1 : List Int) : Option (Res (List Int) Empty) :=
 gd (s1.length + 1 ≤ 1099511627776) <|
 some (.next (s1 ++ [(-1)]))

def spec_FirstUse_L2 (a_b : GBlock) (k2 : Nat) (s2 : (List Int) × Int) : Option (Res ((List Int) × Int) Empty) :=
 gd (0 ≤ (wr (((k2 : Nat) : Int).tdiv 2)) ∧ (wr (((k2 : Nat) : Int).tdiv 2)) < ((a_b.Cells.length : Nat) : Int)) <|
 gd (0 ≤ (bif ((((k2 : Nat) : Int).tmod 2) == 1) then (gx a_b.Cells (((wr (((k2 : Nat) : Int).tdiv 2))).toNat)).B else (gx a_b.Cells (((wr (((k2 : Nat) : Int).tdiv 2))).toNat)).A) ∧ (bif ((((k2 : Nat) : Int).tmod 2) == 1) then (gx a_b.Cells (((wr (((k2 : Nat) : Int).tdiv 2))).toNat)).B else (gx a_b.Cells (((wr (((k2 : Nat) : Int).tdiv 2))).toNat)).A) < ((s2.1.length : Nat) : Int)) <|
 some (.next ((bif (decide ((gx s2.1 (((bif ((((k2 : Nat) : Int).tmod 2) == 1) then (gx a_b.Cells (((wr (((k2 : Nat) : Int).tdiv 2))).toNat)).B else (gx a_b.Cells (((wr (((k2 : Nat) : Int).tdiv 2))).toNat)).A)).toNat)) < 0)) then (s2.1.set (((bif ((((k2 : Nat) : Int).tmod 2) == 1) then (gx a_b.Cells (((wr (((k2 : Nat) : Int).tdiv 2))).toNat)).B else (gx a_b.Cells (((wr (((k2 : Nat) : Int).tdiv 2))).toNat)).A)).toNat) s2.2) else s2.1), (bif (decide ((gx s2.1 (((bif ((((k2 : Nat) : Int).tmod 2) == 1) then (gx a_b.Cells (((wr (((k2 : Nat) : Int).tdiv 2))).toNat)).B else (gx a_b.Cells (((wr (((k2 : Nat) : Int).tdiv 2))).toNat)).A)).toNat)) < 0)) then (wr (s2.2 + 1)) else s2.2)))

def spec_FirstUse_L3 (k3 : Nat) (s3 : (List Int) × Int) : Option (Res ((List Int) × Int) Empty) :=
 gd (k3 < s3.1.length) <|
 some (.next ((bif (decide ((gx s3.1 k3) < 0)) then (s3.1.set k3 s3.2) else s3.1), (bif (decide ((gx s3.1 k3) < 0)) then (wr (s3.2 + 1)) else s3.2)))

def spec_FirstUse (a_b : GBlock) : Option (List Int) :=
 (spec_BlockOk a_b).bind fun v1 =>
 bif (!v1) then
  some ([] : List Int)
 else
  (lpO spec_FirstUse_L1 6 ([] : List Int)).bind fun e1 =>
  gd (((wr (2 * ((a_b.Cells.length : Nat) : Int)))).toNat ≤ 4611686018427387904) <|
  (lpO (spec_FirstUse_L2 a_b) (((wr (2 * ((a_b.Cells.length : Nat) : Int)))).toNat) (e1, 0)).bind fun e2 =>
  (lpO spec_FirstUse_L3 6 (e2.1, e2.2)).bind fun e3 =>
  some e3.1

def spec_ListOk_L1 (a_l : List Int) (k1 : Nat) (_ : Unit) : Option (Res Unit Bool) :=
 (spec_l01In (gx a_l k1) 0 5).bind fun v1 =>
 bif (!v1) then
  some (.ret false)
 else
  some (.next ())

def spec_ListOk (a_l : List Int) : Option Bool :=
 gd (a_l.length ≤ 4611686018427387904) <|
 sq (forO (spec_ListOk_L1 a_l) a_l.length 0 ()) fun _ =>
 some (((a_l.length : Nat) : Int) == 6)

def spec_ExchangeCell (a_c : GCell) (a_l : List Int) : Option GCell :=
 (
  (spec_CellOk a_c).bind fun v1 =>
  bif (!v1) then
   some true
  else
   (spec_ListOk a_l).bind fun v2 =>
   some (!v2)).bind fun j1 =>
 bif j1 then
  some (GCell.mk 0 0 0)
 else
  gd (0 ≤ a_c.A ∧ a_c.A < ((a_l.length : Nat) : Int)) <|
  gd (0 ≤ a_c.B ∧ a_c.B < ((a_l.length : Nat) : Int)) <|
  (spec_SplitCell a_c.Split (gx a_l ((a_c.A).toNat)) (gx a_l ((a_c.B).toNat))).bind fun v3 =>
  some v3

def spec_ExchangeBlock_L1 (a_b : GBlock) (a_l : List Int) (k1 : Nat) (s1 : List GCell) : Option (Res (List GCell) Empty) :=
 (spec_ExchangeCell (gx a_b.Cells k1) a_l).bind fun v4 =>
 gd (s1.length + 1 ≤ 1099511627776) <|
 some (.next (s1 ++ [v4]))

def spec_ExchangeBlock (a_b : GBlock) (a_l : List Int) : Option (GBlock × Bool) :=
 (
  (spec_BlockOk a_b).bind fun v1 =>
  bif (!v1) then
   some true
  else
   (spec_ListOk a_l).bind fun v2 =>
   some (!v2)).bind fun j1 =>
 bif j1 then
  (spec_l03Copy a_b).bind fun v3 =>
  some (v3, false)
 else
  gd (a_b.Cells.length ≤ 4611686018427387904) <|
  (lpO (spec_ExchangeBlock_L1 a_b a_l) a_b.Cells.length ([] : List GCell)).bind fun e1 =>
  some ((GBlock.mk a_b.Size e1), true)

def spec_l07Plain (a_b : GBlock) : Option GBlock :=
 (spec_FirstUse a_b).bind fun v1 =>
 (spec_ExchangeBlock a_b v1).bind fun v2 =>
 some v2.1

def spec_MirrorCell (a_c : GCell) : Option GCell :=
 (spec_CellOk a_c).bind fun v1 =>
 bif (!v1) then
  some (GCell.mk 0 0 0)
 else
  bif (a_c.Split == 0) then
   some a_c
  else
   some (GCell.mk (wr (3 - a_c.Split)) a_c.B a_c.A)

def spec_MirrorBlock_L2 (a_b : GBlock) (k1 : Nat) (k2 : Nat) (s2 : List GCell) : Option (Res (List GCell) Empty) :=
 gd (0 ≤ (wr ((wr ((wr ((wr (((k1 : Nat) : Int) * a_b.Size)) + a_b.Size)) - 1)) - ((k2 : Nat) : Int))) ∧ (wr ((wr ((wr ((wr (((k1 : Nat) : Int) * a_b.Size)) + a_b.Size)) - 1)) - ((k2 : Nat) : Int))) < ((a_b.Cells.length : Nat) : Int)) <|
 (spec_MirrorCell (gx a_b.Cells (((wr ((wr ((wr ((wr (((k1 : Nat) : Int) * a_b.Size)) + a_b.Size)) - 1)) - ((k2 : Nat) : Int)))).toNat))).bind fun v2 =>
 gd (s2.length + 1 ≤ 1099511627776) <|
 some (.next (s2 ++ [v2]))

def spec_MirrorBlock_L1 (a_b : GBlock) (k1 : Nat) (s1 : List GCell) : Option (Res (List GCell) Empty) :=
 (lpO (spec_MirrorBlock_L2 a_b k1) ((a_b.Size).toNat) s1).bind fun e2 =>
 some (.next e2)

def spec_MirrorBlock (a_b : GBlock) : Option GBlock :=
 (spec_BlockOk a_b).bind fun v1 =>
 bif (!v1) then
  some (GBlock.mk 0 ([] : List GCell))
 else
  gd ((a_b.Size).toNat ≤ 4611686018427387904) <|
  (lpO (spec_MirrorBlock_L1 a_b) ((a_b.Size).toNat) ([] : List GCell)).bind fun e1 =>
  some (GBlock.mk a_b.Size e1)

def spec_TurnCell (a_c : GCell) : Option GCell :=
 (spec_CellOk a_c).bind fun v1 =>
 bif (!v1) then
  some (GCell.mk 0 0 0)
 else
  bif (a_c.Split == 1) then
   some (GCell.mk 2 a_c.B a_c.A)
  else
   bif (a_c.Split == 2) then
    some (GCell.mk 1 a_c.A a_c.B)
   else
    some a_c

def spec_TurnBlock_L2 (a_b : GBlock) (k1 : Nat) (k2 : Nat) (s2 : List GCell) : Option (Res (List GCell) Empty) :=
 gd (0 ≤ (wr ((wr ((wr ((wr (a_b.Size - 1)) - ((k2 : Nat) : Int))) * a_b.Size)) + ((k1 : Nat) : Int))) ∧ (wr ((wr ((wr ((wr (a_b.Size - 1)) - ((k2 : Nat) : Int))) * a_b.Size)) + ((k1 : Nat) : Int))) < ((a_b.Cells.length : Nat) : Int)) <|
 (spec_TurnCell (gx a_b.Cells (((wr ((wr ((wr ((wr (a_b.Size - 1)) - ((k2 : Nat) : Int))) * a_b.Size)) + ((k1 : Nat) : Int)))).toNat))).bind fun v2 =>
 gd (s2.length + 1 ≤ 1099511627776) <|
 some (.next (s2 ++ [v2]))

def spec_TurnBlock_L1 (a_b : GBlock) (k1 : Nat) (s1 : List GCell) : Option (Res (List GCell) Empty) :=
 (lpO (spec_TurnBlock_L2 a_b k1) ((a_b.Size).toNat) s1).bind fun e2 =>
 some (.next e2)

def spec_TurnBlock (a_b : GBlock) : Option GBlock :=
 (spec_BlockOk a_b).bind fun v1 =>
 bif (!v1) then
  some (GBlock.mk 0 ([] : List GCell))
 else
  gd ((a_b.Size).toNat ≤ 4611686018427387904) <|
  (lpO (spec_TurnBlock_L1 a_b) ((a_b.Size).toNat) ([] : List GCell)).bind fun e1 =>
  some (GBlock.mk a_b.Size e1)

def spec_SeenFrom_L1 (_ : Nat) (s1 : Int × (List GCell)) : Option (Res (Int × (List GCell)) Empty) :=
 (spec_TurnBlock (GBlock.mk s1.1 s1.2)).bind fun v5 =>
 some (.next (v5.Size, v5.Cells))

def spec_SeenFrom (a_b : GBlock) (a_k : Int) : Option GBlock :=
 (
  (spec_BlockOk a_b).bind fun v1 =>
  bif (!v1) then
   some true
  else
   (spec_l01In a_k 0 7).bind fun v2 =>
   some (!v2)).bind fun j1 =>
 bif j1 then
  some (GBlock.mk 0 ([] : List GCell))
 else
  (spec_l03Copy a_b).bind fun v3 =>
  (
   bif (decide (a_k ≥ 4)) then
    (spec_MirrorBlock a_b).bind fun v4 =>
    some v4
   else
    some v3).bind fun j2 =>
  gd (((a_k.tmod 4)).toNat ≤ 4611686018427387904) <|
  (lpO spec_SeenFrom_L1 (((a_k.tmod 4)).toNat) ((j2).Size, (j2).Cells)).bind fun e1 =>
  some (GBlock.mk e1.1 e1.2)

def spec_l01Figure (a_x : Int) : Option UInt8 :=
 bif (decide (a_x < 10)) then
  some (u8of (wr (48 + a_x)))
 else
  some (u8of (wr ((wr (97 + a_x)) - 10)))

def spec_FormatInt_L1 (s1 : Int × Str) : Option (Res (Int × Str) Empty) :=
 bif (s1.1 != 0) then
  (spec_l01Figure (bif (decide ((s1.1.tmod 10) < 0)) then (wr (0 - (s1.1.tmod 10))) else (s1.1.tmod 10))).bind fun v1 =>
  gd ((⟨([v1] : List UInt8)⟩ : Str).b.length + s1.2.b.length ≤ 1099511627776) <|
  some (.next ((wr (s1.1.tdiv 10)), (sadd (⟨([v1] : List UInt8)⟩ : Str) s1.2)))
 else
  some (.brk (s1.1, s1.2))

def spec_FormatInt (a_n : Int) : Option Str :=
 bif (a_n == 0) then
  some (⟨[48]⟩ : Str)
 else
  (wlO spec_FormatInt_L1 18446744073709551616 (a_n, (⟨[]⟩ : Str))).bind fun e1 =>
  bif (decide (a_n < 0)) then
   gd ((⟨[45]⟩ : Str).b.length + e1.2.b.length ≤ 1099511627776) <|
   some (sadd (⟨[45]⟩ : Str) e1.2)
  else
   some e1.2

def spec_CellText (a_c : GCell) : Option Str :=
 (spec_CellOk a_c).bind fun v1 =>
 bif (!v1) then
  some (⟨[]⟩ : Str)
 else
  bif (a_c.Split == 1) then
   (spec_FormatInt a_c.A).bind fun v2 =>
   gd (v2.b.length + (⟨[47]⟩ : Str).b.length ≤ 1099511627776) <|
   (spec_FormatInt a_c.B).bind fun v3 =>
   gd ((sadd v2 (⟨[47]⟩ : Str)).b.length + v3.b.length ≤ 1099511627776) <|
   some (sadd (sadd v2 (⟨[47]⟩ : Str)) v3)
  else
   bif (a_c.Split == 2) then
    (spec_FormatInt a_c.A).bind fun v4 =>
    gd (v4.b.length + (⟨[92]⟩ : Str).b.length ≤ 1099511627776) <|
    (spec_FormatInt a_c.B).bind fun v5 =>
    gd ((sadd v4 (⟨[92]⟩ : Str)).b.length + v5.b.length ≤ 1099511627776) <|
    some (sadd (sadd v4 (⟨[92]⟩ : Str)) v5)
   else
    (spec_FormatInt a_c.A).bind fun v6 =>
    some v6

def spec_TextOf_L1 (a_b : GBlock) (k1 : Nat) (s1 : Str) : Option (Res Str Empty) :=
 (spec_BlockOk a_b).bind fun v1 =>
 bif v1 then
  (spec_CellText (gx a_b.Cells k1)).bind fun v2 =>
  gd (s1.b.length + v2.b.length ≤ 1099511627776) <|
  gd ((sadd s1 v2).b.length + (⟨[59]⟩ : Str).b.length ≤ 1099511627776) <|
  some (.next (sadd (sadd s1 v2) (⟨[59]⟩ : Str)))
 else
  some (.brk s1)

def spec_TextOf (a_b : GBlock) : Option Str :=
 gd (a_b.Cells.length ≤ 4611686018427387904) <|
 (lpO (spec_TextOf_L1 a_b) a_b.Cells.length (⟨[]⟩ : Str)).bind fun e1 =>
 some e1

def spec_LeastPattern_L1 (a_b : GBlock) (k1 : Nat) (s1 : Int × (List GCell)) : Option (Res (Int × (List GCell)) Empty) :=
 (spec_SeenFrom a_b (((k1 + 1) : Nat) : Int)).bind fun v3 =>
 (spec_l07Plain v3).bind fun v4 =>
 (spec_TextOf v4).bind fun v5 =>
 (spec_TextOf (GBlock.mk s1.1 s1.2)).bind fun v6 =>
 some (.next ((bif (slt v5 v6) then v4 else (GBlock.mk s1.1 s1.2)).Size, (bif (slt v5 v6) then v4 else (GBlock.mk s1.1 s1.2)).Cells))

def spec_LeastPattern (a_b : GBlock) : Option GBlock :=
 (spec_BlockOk a_b).bind fun v1 =>
 bif (!v1) then
  some (GBlock.mk 0 ([] : List GCell))
 else
  (spec_l07Plain a_b).bind fun v2 =>
  (lpO (spec_LeastPattern_L1 a_b) 7 (v2.Size, v2.Cells)).bind fun e1 =>
  some (GBlock.mk e1.1 e1.2)

def spec_SameBlock_L1 (a_b : GBlock) (a_d : GBlock) (k1 : Nat) (_ : Unit) : Option (Res Unit Bool) :=
 gd (k1 < a_d.Cells.length) <|
 bif (!(beqs [(gx a_b.Cells k1).Split, (gx a_b.Cells k1).A, (gx a_b.Cells k1).B] [(gx a_d.Cells k1).Split, (gx a_d.Cells k1).A, (gx a_d.Cells k1).B])) then
  some (.ret false)
 else
  some (.next ())

def spec_SameBlock (a_b : GBlock) (a_d : GBlock) : Option Bool :=
 bif ((a_b.Size != a_d.Size) || (((a_b.Cells.length : Nat) : Int) != ((a_d.Cells.length : Nat) : Int))) then
  some false
 else
  gd (a_b.Cells.length ≤ 4611686018427387904) <|
  sq (forO (spec_SameBlock_L1 a_b a_d) a_b.Cells.length 0 ()) fun _ =>
  some true

def spec_ArePatternsSame (a_b : GBlock) (a_d : GBlock) : Option Bool :=
 (
  (spec_BlockOk a_b).bind fun v1 =>
  bif v1 then
   (spec_BlockOk a_d).bind fun v2 =>
   bif v2 then
    (spec_LeastPattern a_b).bind fun v3 =>
    (spec_LeastPattern a_d).bind fun v4 =>
    (spec_SameBlock v3 v4).bind fun v5 =>
    some v5
   else
    some false
  else
   some false).bind fun j1 =>
 some j1

def spec_ColorsOf_L2 (a_b : GBlock) (k1 : Nat) (k2 : Nat) (s2 : Bool) : Option (Res Bool Empty) :=
 some (.next (s2 || (((gx a_b.Cells k2).A == ((k1 : Nat) : Int)) || ((gx a_b.Cells k2).B == ((k1 : Nat) : Int)))))

def spec_ColorsOf_L1 (a_b : GBlock) (k1 : Nat) (s1 : List Int) : Option (Res (List Int) Empty) :=
 gd (a_b.Cells.length ≤ 4611686018427387904) <|
 (lpO (spec_ColorsOf_L2 a_b k1) a_b.Cells.length false).bind fun e2 =>
 (
  bif e2 then
   gd (s1.length + 1 ≤ 1099511627776) <|
   some (s1 ++ [((k1 : Nat) : Int)])
  else
   some s1).bind fun j2 =>
 some (.next j2)

def spec_ColorsOf (a_b : GBlock) : Option (List Int) :=
 (spec_BlockOk a_b).bind fun v1 =>
 bif (!v1) then
  some ([] : List Int)
 else
  (lpO (spec_ColorsOf_L1 a_b) 6 ([] : List Int)).bind fun e1 =>
  some e1

def spec_l29Ok (a_b : GBlock) (a_d : GBlock) : Option Bool :=
 (
  (spec_BlockOk a_b).bind fun v1 =>
  bif v1 then
   (spec_BlockOk a_d).bind fun v2 =>
   bif v2 then
    some (a_b.Size == a_d.Size)
   else
    some false
  else
   some false).bind fun j1 =>
 some j1

def spec_ColorAt (a_c : GCell) (a_side : Int) : Option Int :=
 (
  (spec_CellOk a_c).bind fun v1 =>
  bif (!v1) then
   some true
  else
   (spec_l01In a_side 0 3).bind fun v2 =>
   some (!v2)).bind fun j1 =>
 bif j1 then
  some (-1)
 else
  bif ((a_side == 0) || (bif (a_side == 1) then ((a_c.Split == 1) || ((a_side == 3) && (a_c.Split == 2))) else ((a_side == 3) && (a_c.Split == 2)))) then
   some a_c.A
  else
   some a_c.B

def spec_l29Table_L1 (_ : Nat) (s1 : List (List Int)) : Option (Res (List (List Int)) Empty) :=
 gd (s1.length + 1 ≤ 1099511627776) <|
 some (.next (s1 ++ [(List.replicate 6 (0 : Int))]))

def spec_l29Table_L3 (a_b : GBlock) (a_d : GBlock) (k2 : Nat) (k3 : Nat) (s3 : List (List Int)) : Option (Res (List (List Int)) Empty) :=
 gd (k2 < a_d.Cells.length) <|
 (spec_ColorAt (gx a_d.Cells k2) ((k3 : Nat) : Int)).bind fun v1 =>
 (spec_ColorAt (gx a_b.Cells k2) ((k3 : Nat) : Int)).bind fun v2 =>
 gd (0 ≤ v1 ∧ v1 < ((s3.length : Nat) : Int)) <|
 gd (0 ≤ v2 ∧ v2 < (((gx s3 ((v1).toNat)).length : Nat) : Int)) <|
 some (.next (s3.set ((v1).toNat) ((gx s3 ((v1).toNat)).set ((v2).toNat) (wr ((gx (gx s3 ((v1).toNat)) ((v2).toNat)) + 1)))))

def spec_l29Table_L2 (a_b : GBlock) (a_d : GBlock) (k2 : Nat) (s2 : List (List Int)) : Option (Res (List (List Int)) Empty) :=
 (lpO (spec_l29Table_L3 a_b a_d k2) 4 s2).bind fun e3 =>
 some (.next e3)

def spec_l29Table (a_b : GBlock) (a_d : GBlock) : Option (List (List Int)) :=
 (lpO spec_l29Table_L1 6 ([] : List (List Int))).bind fun e1 =>
 gd (a_b.Cells.length ≤ 4611686018427387904) <|
 (lpO (spec_l29Table_L2 a_b a_d) a_b.Cells.length e1).bind fun e2 =>
 some e2

def spec_l29Best_L1 (rec : (List (List Int)) → (List Int) → Int → Int → Option Int) (a_t : List (List Int)) (a_l : List Int) (a_at : Int) (a_used : Int) (k1 : Nat) (s1 : Int) : Option (Res Int Empty) :=
 gd (0 ≤ ((k1 : Nat) : Int)) <|
 (
  bif ((andI (shrI a_used ((k1 : Nat) : Int)) 1) == 0) then
   gd (0 ≤ a_at ∧ a_at < ((a_l.length : Nat) : Int)) <|
   gd (0 ≤ (gx a_l ((a_at).toNat)) ∧ (gx a_l ((a_at).toNat)) < ((a_t.length : Nat) : Int)) <|
   gd (k1 < (gx a_t (((gx a_l ((a_at).toNat))).toNat)).length) <|
   (rec a_t a_l (wr (a_at + 1)) (orI a_used (shlI 1 ((k1 : Nat) : Int)))).bind fun v1 =>
   some (if (wr ((gx (gx a_t (((gx a_l ((a_at).toNat))).toNat)) k1) + v1)) > s1 then (wr ((gx (gx a_t (((gx a_l ((a_at).toNat))).toNat)) k1) + v1)) else s1)
  else
   some s1).bind fun j1 =>
 some (.next j1)

def spec_l29Best : Nat → (List (List Int)) → (List Int) → Int → Int → Option Int
 | 0, _, _, _, _ => none
 | fuel + 1, a_t, a_l, a_at, a_used =>
  bif (a_at == ((a_l.length : Nat) : Int)) then
   some 0
  else
   (lpO (spec_l29Best_L1 (spec_l29Best fuel) a_t a_l a_at a_used) 6 0).bind fun e1 =>
   some e1

def spec_PatternLikeness_L1 (a_b : GBlock) (a_d : GBlock) (v1 : List Int) (k1 : Nat) (s1 : Int) : Option (Res Int Empty) :=
 (spec_SeenFrom a_d ((k1 : Nat) : Int)).bind fun v3 =>
 (spec_l29Table a_b v3).bind fun v4 =>
 (spec_l29Best (v1.length + 1) v4 v1 0 0).bind fun v5 =>
 some (.next (if v5 > s1 then v5 else s1))

def spec_PatternLikeness (a_b : GBlock) (a_d : GBlock) : Option Int :=
 (spec_ColorsOf a_d).bind fun v1 =>
 (
  (spec_l29Ok a_b a_d).bind fun v2 =>
  bif (!v2) then
   some true
  else
   some (decide (((v1.length : Nat) : Int) > 3))).bind fun j1 =>
 bif j1 then
  some 0
 else
  (lpO (spec_PatternLikeness_L1 a_b a_d v1) 8 0).bind fun e1 =>
  some e1

def spec_VerdictOn (a_e : GEntry) (a_f : GEntry) : Option Int :=
 (
  (spec_EntryOk a_e).bind fun v1 =>
  bif (!v1) then
   some true
  else
   (spec_EntryOk a_f).bind fun v2 =>
   bif (!v2) then
    some true
   else
    some (a_e.Block.Size != a_f.Block.Size)).bind fun j1 =>
 bif j1 then
  some 0
 else
  (spec_ArePatternsSame a_e.Block a_f.Block).bind fun v3 =>
  bif v3 then
   some 3
  else
   (spec_PatternLikeness a_e.Block a_f.Block).bind fun v4 =>
   bif (decide ((wr (10 * v4)) ≥ (wr (36 * ((a_e.Block.Cells.length : Nat) : Int))))) then
    some 2
   else
    some 1

def spec_IsCopy (a_e : GEntry) (a_f : GEntry) : Option Bool :=
 (spec_VerdictOn a_e a_f).bind fun v1 =>
 some (bif (v1 == 3) then ((a_e.Owner != a_f.Owner) && (decide (a_e.Day > a_f.Day))) else ((v1 == 2) && ((a_e.Owner != a_f.Owner) && (decide (a_e.Day > a_f.Day)))))

def spec_Submit_L1 (a_g : GGuild) (a_number : Int) (a_day : Int) (v1 : GGuild) (v2 : GBlock) (k1 : Nat) (_ : Unit) : Option (Res Unit (GGuild × Bool)) :=
 (spec_IsCopy (GEntry.mk a_number a_day v2) (gx a_g.Entries k1)).bind fun v4 =>
 bif v4 then
  some (.ret (v1, false))
 else
  some (.next ())

def spec_Submit (a_g : GGuild) (a_number : Int) (a_day : Int) (a_b : GBlock) : Option (GGuild × Bool) :=
 (spec_l38Copy a_g).bind fun v1 =>
 (spec_l03Copy a_b).bind fun v2 =>
 (spec_GuildOk a_g).bind fun v3 =>
 bif (!v3) then
  some (v1, false)
 else
  gd (a_g.Entries.length ≤ 4611686018427387904) <|
  sq (forO (spec_Submit_L1 a_g a_number a_day v1 v2) a_g.Entries.length 0 ()) fun _ =>
  (spec_l38Copy a_g).bind fun v5 =>
  gd (v5.Entries.length + 1 ≤ 1099511627776) <|
  (spec_GuildOk (GGuild.mk v5.Members v5.Stock (v5.Entries ++ [(GEntry.mk a_number a_day v2)]) v5.Books v5.Round v5.Year)).bind fun v6 =>
  bif (!v6) then
   some (v1, false)
  else
   some ((GGuild.mk v5.Members v5.Stock (v5.Entries ++ [(GEntry.mk a_number a_day v2)]) v5.Books v5.Round v5.Year), true)

def spec_SwapRound (a_g : GGuild) : Option (GGuild × Bool) :=
 (spec_l38Copy a_g).bind fun v1 =>
 (
  (spec_GuildOk a_g).bind fun v2 =>
  bif (!v2) then
   some true
  else
   (spec_GuildOk (GGuild.mk v1.Members v1.Stock v1.Entries v1.Books (wr (v1.Round + 1)) v1.Year)).bind fun v3 =>
   some (!v3)).bind fun j1 =>
 bif j1 then
  (spec_l38Copy a_g).bind fun v4 =>
  some (v4, false)
 else
  some ((GGuild.mk v1.Members v1.Stock v1.Entries v1.Books (wr (v1.Round + 1)) v1.Year), true)

def spec_l31Stock_L1 (a_c0 : List UInt8) (a_top : Int) (_ : Nat) (s1 : (List Int) × Int × Int) : Option (Res ((List Int) × Int × Int) Empty) :=
 (spec_l01Below a_c0 s1.2.1 s1.2.2 a_top).bind fun v1 =>
 gd (s1.1.length + 1 ≤ 1099511627776) <|
 some (.next ((s1.1 ++ [v1.1]), v1.2.1, v1.2.2))

def spec_l31Stock (a_c0 : List UInt8) (a_c1 : Int) (a_c2 : Int) (a_top : Int) : Option ((List Int) × Int × Int) :=
 (lpO (spec_l31Stock_L1 a_c0 a_top) 6 (([] : List Int), a_c1, a_c2)).bind fun e1 =>
 some (e1.1, e1.2.1, e1.2.2)

def spec_l38Guild_L1 (a_c0 : List UInt8) (s1 : Int × Int × Int × (List GMember) × (List Int) × (List GEntry) × (List GBooking) × Int × Int) : Option (Res (Int × Int × Int × (List GMember) × (List Int) × (List GEntry) × (List GBooking) × Int × Int) Empty) :=
 bif (decide (s1.1 > 0)) then
  (spec_l01Below a_c0 s1.2.1 s1.2.2.1 8).bind fun v4 =>
  (spec_Admit (GGuild.mk s1.2.2.2.1 s1.2.2.2.2.1 s1.2.2.2.2.2.1 s1.2.2.2.2.2.2.1 s1.2.2.2.2.2.2.2.1 s1.2.2.2.2.2.2.2.2) (wr (1 + v4.1))).bind fun v5 =>
  some (.next ((wr (s1.1 - 1)), v4.2.1, v4.2.2, v5.1.Members, v5.1.Stock, v5.1.Entries, v5.1.Books, v5.1.Round, v5.1.Year))
 else
  some (.brk (s1.1, s1.2.1, s1.2.2.1, s1.2.2.2.1, s1.2.2.2.2.1, s1.2.2.2.2.2.1, s1.2.2.2.2.2.2.1, s1.2.2.2.2.2.2.2.1, s1.2.2.2.2.2.2.2.2))

def spec_l38Guild_L3 (a_c0 : List UInt8) (_ : Nat) (s3 : (List GCell) × Int × Int) : Option (Res ((List GCell) × Int × Int) Empty) :=
 (spec_l02Cell a_c0 s3.2.1 s3.2.2).bind fun v8 =>
 gd (s3.1.length + 1 ≤ 1099511627776) <|
 some (.next ((s3.1 ++ [v8.1]), v8.2.1, v8.2.2))

def spec_l38Guild_L2 (a_c0 : List UInt8) (s2 : Int × Int × Int × Int × (List GMember) × (List Int) × (List GEntry) × (List GBooking) × Int × Int) : Option (Res (Int × Int × Int × Int × (List GMember) × (List Int) × (List GEntry) × (List GBooking) × Int × Int) Empty) :=
 bif ((decide (s2.2.1 > 0)) && (decide (((s2.2.2.2.2.1.length : Nat) : Int) > 0))) then
  (spec_l01Below a_c0 s2.2.2.1 s2.2.2.2.1 3).bind fun v7 =>
  (lpO (spec_l38Guild_L3 a_c0) 4 (([] : List GCell), v7.2.1, v7.2.2)).bind fun e3 =>
  (spec_l01Below a_c0 e3.2.1 e3.2.2 ((s2.2.2.2.2.1.length : Nat) : Int)).bind fun v9 =>
  gd (0 ≤ v9.1 ∧ v9.1 < ((s2.2.2.2.2.1.length : Nat) : Int)) <|
  (spec_Submit (GGuild.mk s2.2.2.2.2.1 s2.2.2.2.2.2.1 s2.2.2.2.2.2.2.1 s2.2.2.2.2.2.2.2.1 s2.2.2.2.2.2.2.2.2.1 s2.2.2.2.2.2.2.2.2.2) ((gx s2.2.2.2.2.1 ((v9.1).toNat)).Number) (wr (s2.1 + v7.1)) (GBlock.mk 2 e3.1)).bind fun v10 =>
  some (.next ((wr (s2.1 + v7.1)), (wr (s2.2.1 - 1)), v9.2.1, v9.2.2, v10.1.Members, v10.1.Stock, v10.1.Entries, v10.1.Books, v10.1.Round, v10.1.Year))
 else
  some (.brk (s2.1, s2.2.1, s2.2.2.1, s2.2.2.2.1, s2.2.2.2.2.1, s2.2.2.2.2.2.1, s2.2.2.2.2.2.2.1, s2.2.2.2.2.2.2.2.1, s2.2.2.2.2.2.2.2.2.1, s2.2.2.2.2.2.2.2.2.2))

def spec_l38Guild_L4 (s4 : Int × (List GMember) × (List Int) × (List GEntry) × (List GBooking) × Int × Int) : Option (Res (Int × (List GMember) × (List Int) × (List GEntry) × (List GBooking) × Int × Int) Empty) :=
 bif (decide (s4.1 > 0)) then
  (spec_SwapRound (GGuild.mk s4.2.1 s4.2.2.1 s4.2.2.2.1 s4.2.2.2.2.1 s4.2.2.2.2.2.1 s4.2.2.2.2.2.2)).bind fun v12 =>
  some (.next ((wr (s4.1 - 1)), v12.1.Members, v12.1.Stock, v12.1.Entries, v12.1.Books, v12.1.Round, v12.1.Year))
 else
  some (.brk (s4.1, s4.2.1, s4.2.2.1, s4.2.2.2.1, s4.2.2.2.2.1, s4.2.2.2.2.2.1, s4.2.2.2.2.2.2))

def spec_l38Guild (a_c0 : List UInt8) (a_c1 : Int) (a_c2 : Int) : Option (GGuild × Int × Int) :=
 (spec_l01Below a_c0 a_c1 a_c2 20).bind fun v1 =>
 (spec_NewGuild (wr (2000 + v1.1))).bind fun v2 =>
 (spec_l01Below a_c0 v1.2.1 v1.2.2 5).bind fun v3 =>
 (wlO (spec_l38Guild_L1 a_c0) 18446744073709551616 (v3.1, v3.2.1, v3.2.2, v2.1.Members, v2.1.Stock, v2.1.Entries, v2.1.Books, v2.1.Round, v2.1.Year)).bind fun e1 =>
 (spec_l01Below a_c0 e1.2.1 e1.2.2.1 4).bind fun v6 =>
 (wlO (spec_l38Guild_L2 a_c0) 18446744073709551616 (0, v6.1, v6.2.1, v6.2.2, e1.2.2.2.1, e1.2.2.2.2.1, e1.2.2.2.2.2.1, e1.2.2.2.2.2.2.1, e1.2.2.2.2.2.2.2.1, e1.2.2.2.2.2.2.2.2)).bind fun e2 =>
 (spec_l01Below a_c0 e2.2.2.1 e2.2.2.2.1 4).bind fun v11 =>
 (wlO spec_l38Guild_L4 18446744073709551616 (v11.1, e2.2.2.2.2.1, e2.2.2.2.2.2.1, e2.2.2.2.2.2.2.1, e2.2.2.2.2.2.2.2.1, e2.2.2.2.2.2.2.2.2.1, e2.2.2.2.2.2.2.2.2.2)).bind fun e4 =>
 (spec_l01Once a_c0 v11.2.1 v11.2.2 3).bind fun v13 =>
 (
  bif v13.1 then
   (spec_l31Stock a_c0 v13.2.1 v13.2.2 60).bind fun v14 =>
   some (v14.1, (Gl01Cur.mk a_c0 v14.2.1 v14.2.2))
  else
   some (e4.2.2.1, (Gl01Cur.mk a_c0 v13.2.1 v13.2.2))).bind fun j2 =>
 some ((GGuild.mk e4.2.1 j2.1 e4.2.2.2.1 e4.2.2.2.2.1 e4.2.2.2.2.2.1 e4.2.2.2.2.2.2), (j2.2).i, (j2.2).h)

def spec_l39Guild (a_c0 : List UInt8) (a_c1 : Int) (a_c2 : Int) : Option (GGuild × Int × Int) :=
 (spec_l01Once a_c0 a_c1 a_c2 2).bind fun v1 =>
 bif v1.1 then
  spec_SampleGuild.bind fun v2 =>
  some (v2, v1.2.1, v1.2.2)
 else
  (spec_l38Guild a_c0 v1.2.1 v1.2.2).bind fun v3 =>
  some (v3.1, v3.2.1, v3.2.2)

def spec_l39Act (a_c0 : List UInt8) (a_c1 : Int) (a_c2 : Int) : Option (GAct × Int × Int) :=
 (spec_l01Below a_c0 a_c1 a_c2 8).bind fun v1 =>
 bif (v1.1 == 0) then
  (spec_l01Below a_c0 v1.2.1 v1.2.2 8).bind fun v2 =>
  some ((GAct.mk 1 (wr (1 + v2.1)) 0), v2.2.1, v2.2.2)
 else
  bif ((v1.1 == 1) || (v1.1 == 2)) then
   (spec_l01Below a_c0 v1.2.1 v1.2.2 5).bind fun v3 =>
   (spec_l01Below a_c0 v3.2.1 v3.2.2 10).bind fun v4 =>
   some ((GAct.mk 2 (wr (1 + v3.1)) v4.1), v4.2.1, v4.2.2)
  else
   bif (v1.1 == 3) then
    (spec_l01Below a_c0 v1.2.1 v1.2.2 4).bind fun v5 =>
    some ((GAct.mk 3 v5.1 0), v5.2.1, v5.2.2)
   else
    bif ((v1.1 == 4) || (v1.1 == 5)) then
     some ((GAct.mk 4 0 0), v1.2.1, v1.2.2)
    else
     bif (v1.1 == 6) then
      some ((GAct.mk 5 0 0), v1.2.1, v1.2.2)
     else
      (spec_l01Below a_c0 v1.2.1 v1.2.2 4).bind fun v6 =>
      some ((GAct.mk 6 v6.1 0), v6.2.1, v6.2.2)

def spec_l39List_L1 (a_c0 : List UInt8) (_ : Nat) (s1 : (List GAct) × Int × Int) : Option (Res ((List GAct) × Int × Int) Empty) :=
 (spec_l39Act a_c0 s1.2.1 s1.2.2).bind fun v2 =>
 gd (s1.1.length + 1 ≤ 1099511627776) <|
 some (.next ((s1.1 ++ [v2.1]), v2.2.1, v2.2.2))

def spec_l39List (a_c0 : List UInt8) (a_c1 : Int) (a_c2 : Int) : Option ((List GAct) × Int × Int) :=
 (spec_l01Below a_c0 a_c1 a_c2 14).bind fun v1 =>
 gd ((v1.1).toNat ≤ 4611686018427387904) <|
 (lpO (spec_l39List_L1 a_c0) ((v1.1).toNat) (([] : List GAct), v1.2.1, v1.2.2)).bind fun e1 =>
 some (e1.1, e1.2.1, e1.2.2)

def spec_DrawActs (a_code : List UInt8) : Option (GGuild × (List GAct)) :=
 (spec_l01New a_code).bind fun v1 =>
 (spec_l39Guild a_code v1.1 v1.2).bind fun v2 =>
 (spec_l39List a_code v2.2.1 v2.2.2).bind fun v3 =>
 some (v2.1, v3.1)

def impl_within (a_n : Int) (a_a : Int) (a_b : Int) : Option Bool :=
 some ((decide (a_n ≥ a_a)) && (decide (a_n ≤ a_b)))

def impl_ActOk (a_a : GAct) : Option Bool :=
 bif (a_a.Kind == 1) then
  (
   (impl_within a_a.A 1 999).bind fun v1 =>
   bif v1 then
    some (a_a.B == 0)
   else
    some false).bind fun j1 =>
  some j1
 else
  bif (a_a.Kind == 2) then
   (
    (impl_within a_a.A 1 999).bind fun v2 =>
    bif v2 then
     (impl_within a_a.B 0 9).bind fun v3 =>
     some v3
    else
     some false).bind fun j2 =>
   some j2
  else
   bif ((a_a.Kind == 3) || (a_a.Kind == 6)) then
    (
     (impl_within a_a.A 0 9).bind fun v4 =>
     bif v4 then
      some (a_a.B == 0)
     else
      some false).bind fun j4 =>
    some j4
   else
    some (bif (a_a.Kind == 4) then ((a_a.A == 0) && (a_a.B == 0)) else ((a_a.Kind == 5) && ((a_a.A == 0) && (a_a.B == 0))))

def strconv_Itoa (a_i : Int) : Option Str :=
 gd (0 ≤ a_i ∧ a_i < 10) <|
 some (⟨[UInt8.ofNat (48 + a_i.toNat)]⟩ : Str)

def strconv_Itoa_b (a_i : Int) : Option Str :=
 gd (-9223372036854775808 ≤ a_i ∧ a_i ≤ 9223372036854775807) <|
 some (⟨Lib.itoa a_i⟩ : Str)

def impl_FormatInt (a_n : Int) : Option Str :=
 (strconv_Itoa a_n).bind fun v1 =>
 some v1

def impl_FormatInt_b (a_n : Int) : Option Str :=
 (strconv_Itoa_b a_n).bind fun v1 =>
 some v1

def strings_Join (a_elems : List Str) (a_sep : Str) : Option Str :=
 gd (a_elems.length ≤ 140737488355328 ∧ (Lib.join (a_elems.map Str.b) a_sep.b).length ≤ 140737488355328) <|
 some (⟨Lib.join (a_elems.map Str.b) a_sep.b⟩ : Str)

def impl_lineOf_L1 (a_list : List Int) (k1 : Nat) (s1 : List Str) : Option (Res (List Str) Empty) :=
 (impl_FormatInt_b (gx a_list k1)).bind fun v1 =>
 gd (s1.length + 1 ≤ 1099511627776) <|
 some (.next (s1 ++ [v1]))

def impl_lineOf (a_word : Str) (a_list : List Int) : Option Str :=
 gd (a_list.length ≤ 4611686018427387904) <|
 (lpO (impl_lineOf_L1 a_list) a_list.length ([a_word] : List Str)).bind fun e1 =>
 (strings_Join e1 (⟨[32]⟩ : Str)).bind fun v2 =>
 some v2

def impl_FormatAct (a_a : GAct) : Option (Str × Bool) :=
 (impl_ActOk a_a).bind fun v1 =>
 bif (!v1) then
  some ((⟨[]⟩ : Str), false)
 else
  bif (a_a.Kind == 1) then
   (impl_lineOf (⟨[97, 100, 109, 105, 116]⟩ : Str) ([a_a.A] : List Int)).bind fun v2 =>
   some (v2, true)
  else
   bif (a_a.Kind == 2) then
    (impl_lineOf (⟨[115, 117, 98, 109, 105, 116]⟩ : Str) ([a_a.A, a_a.B] : List Int)).bind fun v3 =>
    some (v3, true)
   else
    bif (a_a.Kind == 3) then
     (impl_lineOf (⟨[115, 101, 119]⟩ : Str) ([a_a.A] : List Int)).bind fun v4 =>
     some (v4, true)
    else
     bif (a_a.Kind == 6) then
      (impl_lineOf (⟨[108, 97, 99, 107]⟩ : Str) ([a_a.A] : List Int)).bind fun v5 =>
      some (v5, true)
     else
      bif (a_a.Kind == 4) then
       some ((⟨[114, 111, 117, 110, 100]⟩ : Str), true)
      else
       some ((⟨[121, 101, 97, 114]⟩ : Str), true)

def impl_SplitFields_L1 (a_line : Str) (k1 : Nat) (s1 : (List Str) × Int) : Option (Res ((List Str) × Int) ((List Str) × Bool)) :=
 bif ((decide ((((sat_ a_line k1)).toNat : Int) < 32)) || (decide ((((sat_ a_line k1)).toNat : Int) > 126))) then
  some (.ret (([] : List Str), false))
 else
  (
   bif ((((sat_ a_line k1)).toNat : Int) == 32) then
    (
     bif (decide (s1.2 ≥ 0)) then
      gd (0 ≤ s1.2 ∧ (s1.2).toNat ≤ k1 ∧ k1 ≤ a_line.b.length) <|
      gd (s1.1.length + 1 ≤ 1099511627776) <|
      some (s1.1 ++ [(ssub a_line ((s1.2).toNat) k1)])
     else
      some s1.1).bind fun j3 =>
    some (j3, (-1))
   else
    bif (decide (s1.2 < 0)) then
     some (s1.1, ((k1 : Nat) : Int))
    else
     some (s1.1, s1.2)).bind fun j2 =>
  some (.next (j2.1, j2.2))

def impl_SplitFields (a_line : Str) : Option ((List Str) × Bool) :=
 bif (decide (((a_line.b.length : Nat) : Int) > 600)) then
  some (([] : List Str), false)
 else
  gd (a_line.b.length ≤ 4611686018427387904) <|
  sq (forO (impl_SplitFields_L1 a_line) a_line.b.length 0 (([] : List Str), (-1))) fun e1 =>
  (
   bif (decide (e1.2 ≥ 0)) then
    gd (0 ≤ e1.2 ∧ (e1.2).toNat ≤ a_line.b.length ∧ a_line.b.length ≤ a_line.b.length) <|
    gd (e1.1.length + 1 ≤ 1099511627776) <|
    some (e1.1 ++ [(ssub a_line ((e1.2).toNat) a_line.b.length)])
   else
    some e1.1).bind fun j4 =>
  bif (decide (((j4.length : Nat) : Int) > 24)) then
   some (([] : List Str), false)
  else
   some (j4, true)

def strconv_Atoi (a_s : Str) : Option (Int × Bool) :=
 gd (a_s.b.length ≤ 18) <|
 some (match Lib.atoi a_s.b with
  | some n => (n, false)
  | none => (0, true))

def impl_ParseUint (a_s : Str) : Option (Int × Bool) :=
 bif (decide (((a_s.b.length : Nat) : Int) > 10)) then
  some (0, false)
 else
  (strconv_Atoi a_s).bind fun v1 =>
  (
   bif v1.2 then
    some true
   else
    (impl_within v1.1 0 1000000000).bind fun v2 =>
    bif (!v2) then
     some true
    else
     (impl_FormatInt_b v1.1).bind fun v3 =>
     some (!(seq v3 a_s))).bind fun j1 =>
  bif j1 then
   some (0, false)
  else
   some (v1.1, true)

def impl_ParseAct_L1 (v1 : (List Str) × Bool) (k1 : Nat) (s1 : Int) : Option (Res Int Empty) :=
 gd (0 < v1.1.length) <|
 some (.next (bif (seq (gx ([(⟨[]⟩ : Str), (⟨[97, 100, 109, 105, 116]⟩ : Str), (⟨[115, 117, 98, 109, 105, 116]⟩ : Str), (⟨[115, 101, 119]⟩ : Str), (⟨[114, 111, 117, 110, 100]⟩ : Str), (⟨[121, 101, 97, 114]⟩ : Str), (⟨[108, 97, 99, 107]⟩ : Str)] : List Str) k1) (gx v1.1 0)) then ((k1 : Nat) : Int) else s1))

def impl_ParseAct_L2 (v1 : (List Str) × Bool) (k2 : Nat) (s2 : Int × Int × Int) : Option (Res (Int × Int × Int) (GAct × Bool)) :=
 (impl_ParseUint (gx ((v1.1.drop 1).take (v1.1.length - 1)) k2)).bind fun v3 =>
 bif (!v3.2) then
  some (.ret ((GAct.mk 0 0 0), false))
 else
  some (.next ((bif (((k2 : Nat) : Int) == 0) then (GAct.mk s2.1 v3.1 s2.2.2) else (GAct.mk s2.1 s2.2.1 v3.1)).Kind, (bif (((k2 : Nat) : Int) == 0) then (GAct.mk s2.1 v3.1 s2.2.2) else (GAct.mk s2.1 s2.2.1 v3.1)).A, (bif (((k2 : Nat) : Int) == 0) then (GAct.mk s2.1 v3.1 s2.2.2) else (GAct.mk s2.1 s2.2.1 v3.1)).B))

def impl_ParseAct (a_line : Str) : Option (GAct × Bool) :=
 (impl_SplitFields a_line).bind fun v1 =>
 (
  bif (!v1.2) then
   some true
  else
   (impl_within ((v1.1.length : Nat) : Int) 1 3).bind fun v2 =>
   some (!v2)).bind fun j1 =>
 bif j1 then
  some ((GAct.mk 0 0 0), false)
 else
  gd (([(⟨[]⟩ : Str), (⟨[97, 100, 109, 105, 116]⟩ : Str), (⟨[115, 117, 98, 109, 105, 116]⟩ : Str), (⟨[115, 101, 119]⟩ : Str), (⟨[114, 111, 117, 110, 100]⟩ : Str), (⟨[121, 101, 97, 114]⟩ : Str), (⟨[108, 97, 99, 107]⟩ : Str)] : List Str).length ≤ 4611686018427387904) <|
  (lpO (impl_ParseAct_L1 v1) (([(⟨[]⟩ : Str), (⟨[97, 100, 109, 105, 116]⟩ : Str), (⟨[115, 117, 98, 109, 105, 116]⟩ : Str), (⟨[115, 101, 119]⟩ : Str), (⟨[114, 111, 117, 110, 100]⟩ : Str), (⟨[121, 101, 97, 114]⟩ : Str), (⟨[108, 97, 99, 107]⟩ : Str)] : List Str).length) 0).bind fun e1 =>
  gd (1 ≤ v1.1.length ∧ v1.1.length ≤ v1.1.length) <|
  gd (((v1.1.drop 1).take (v1.1.length - 1)).length ≤ 4611686018427387904) <|
  sq (forO (impl_ParseAct_L2 v1) (((v1.1.drop 1).take (v1.1.length - 1)).length) 0 (e1, 0, 0)) fun e2 =>
  (impl_FormatAct (GAct.mk e2.1 e2.2.1 e2.2.2)).bind fun v4 =>
  (
   bif (!v4.2) then
    some true
   else
    (strings_Join v1.1 (⟨[32]⟩ : Str)).bind fun v5 =>
    some (!(seq v4.1 v5))).bind fun j4 =>
  bif j4 then
   some ((GAct.mk 0 0 0), false)
  else
   some ((GAct.mk e2.1 e2.2.1 e2.2.2), true)

def laws_FnActTexts_L1 (v2 : GGuild × (List GAct)) (k1 : Nat) (_ : Unit) : Option (Res Unit Bool) :=
 (impl_FormatAct (gx v2.2 k1)).bind fun v3 =>
 gd ((⟨[32, 32]⟩ : Str).b.length + v3.1.b.length ≤ 1099511627776) <|
 gd ((sadd (⟨[32, 32]⟩ : Str) v3.1).b.length + (⟨[32]⟩ : Str).b.length ≤ 1099511627776) <|
 (impl_ParseAct (sadd (sadd (⟨[32, 32]⟩ : Str) v3.1) (⟨[32]⟩ : Str))).bind fun v4 =>
 bif ((!v3.2) || ((!v4.2) || (!(beqs [v4.1.Kind, v4.1.A, v4.1.B] [(gx v2.2 k1).Kind, (gx v2.2 k1).A, (gx v2.2 k1).B])))) then
  some (.ret false)
 else
  some (.next ())

def laws_FnActTexts (a_code : List UInt8) : Option Bool :=
 (laws_big a_code).bind fun v1 =>
 bif v1 then
  some true
 else
  (spec_DrawActs a_code).bind fun v2 =>
  gd (v2.2.length ≤ 4611686018427387904) <|
  sq (forO (laws_FnActTexts_L1 v2) v2.2.length 0 ()) fun _ =>
  some true

def impl_MembersOk_L1 (a_list : List GMember) (k1 : Nat) (_ : Unit) : Option (Res Unit Bool) :=
 (
  (impl_within ((gx a_list k1).Number) 1 999).bind fun v1 =>
  bif (!v1) then
   some true
  else
   bif (decide (((k1 : Nat) : Int) > 0)) then
    gd (0 ≤ (wr (((k1 : Nat) : Int) - 1)) ∧ (wr (((k1 : Nat) : Int) - 1)) < ((a_list.length : Nat) : Int)) <|
    bif (decide ((gx a_list k1).Number ≤ (gx a_list (((wr (((k1 : Nat) : Int) - 1))).toNat)).Number)) then
     some true
    else
     (impl_within ((gx a_list k1).Since) 1900 2999).bind fun v2 =>
     bif (!v2) then
      some true
     else
      (impl_within ((gx a_list k1).Paid) (wr ((gx a_list k1).Since - 1)) 2999).bind fun v3 =>
      some (!v3)
   else
    (impl_within ((gx a_list k1).Since) 1900 2999).bind fun v4 =>
    bif (!v4) then
     some true
    else
     (impl_within ((gx a_list k1).Paid) (wr ((gx a_list k1).Since - 1)) 2999).bind fun v5 =>
     some (!v5)).bind fun j1 =>
 bif j1 then
  some (.ret false)
 else
  some (.next ())

def impl_MembersOk (a_list : List GMember) : Option Bool :=
 gd (a_list.length ≤ 4611686018427387904) <|
 sq (forO (impl_MembersOk_L1 a_list) a_list.length 0 ()) fun _ =>
 some (decide (((a_list.length : Nat) : Int) ≤ 40))

def impl_allWithin_L1 (a_list : List Int) (a_a : Int) (a_b : Int) (k1 : Nat) (_ : Unit) : Option (Res Unit Bool) :=
 (impl_within (gx a_list k1) a_a a_b).bind fun v1 =>
 bif (!v1) then
  some (.ret false)
 else
  some (.next ())

def impl_allWithin (a_list : List Int) (a_a : Int) (a_b : Int) : Option Bool :=
 gd (a_list.length ≤ 4611686018427387904) <|
 sq (forO (impl_allWithin_L1 a_list a_a a_b) a_list.length 0 ()) fun _ =>
 some true

def impl_StockOk (a_stock : List Int) : Option Bool :=
 (
  bif (((a_stock.length : Nat) : Int) == 6) then
   (impl_allWithin a_stock 0 1000000).bind fun v1 =>
   some v1
  else
   some false).bind fun j1 =>
 some j1

def impl_LedgerOk_L1 (a_list : List GBooking) (k1 : Nat) (_ : Unit) : Option (Res Unit Bool) :=
 (
  (impl_within ((gx a_list k1).Day) 0 9999).bind fun v1 =>
  bif (!v1) then
   some true
  else
   bif (decide (((k1 : Nat) : Int) > 0)) then
    gd (0 ≤ (wr (((k1 : Nat) : Int) - 1)) ∧ (wr (((k1 : Nat) : Int) - 1)) < ((a_list.length : Nat) : Int)) <|
    bif (decide ((gx a_list k1).Day < (gx a_list (((wr (((k1 : Nat) : Int) - 1))).toNat)).Day)) then
     some true
    else
     (impl_within ((gx a_list k1).From) 0 4).bind fun v2 =>
     bif (!v2) then
      some true
     else
      (impl_within ((gx a_list k1).To) 0 4).bind fun v3 =>
      bif (!v3) then
       some true
      else
       bif ((gx a_list k1).From == (gx a_list k1).To) then
        some true
       else
        (impl_within ((gx a_list k1).Sum) 1 100000).bind fun v4 =>
        some (!v4)
   else
    (impl_within ((gx a_list k1).From) 0 4).bind fun v5 =>
    bif (!v5) then
     some true
    else
     (impl_within ((gx a_list k1).To) 0 4).bind fun v6 =>
     bif (!v6) then
      some true
     else
      bif ((gx a_list k1).From == (gx a_list k1).To) then
       some true
      else
       (impl_within ((gx a_list k1).Sum) 1 100000).bind fun v7 =>
       some (!v7)).bind fun j1 =>
 bif j1 then
  some (.ret false)
 else
  some (.next ())

def impl_LedgerOk (a_list : List GBooking) : Option Bool :=
 gd (a_list.length ≤ 4611686018427387904) <|
 sq (forO (impl_LedgerOk_L1 a_list) a_list.length 0 ()) fun _ =>
 some (decide (((a_list.length : Nat) : Int) ≤ 60))

def impl_isColor (a_a : Int) : Option Bool :=
 (impl_within a_a 0 5).bind fun v1 =>
 some v1

def impl_CellOk (a_c : GCell) : Option Bool :=
 (
  (impl_within a_c.Split 0 2).bind fun v1 =>
  bif v1 then
   (impl_isColor a_c.A).bind fun v2 =>
   bif v2 then
    (impl_isColor a_c.B).bind fun v3 =>
    bif v3 then
     some ((a_c.Split == 0) == (a_c.A == a_c.B))
    else
     some false
   else
    some false
  else
   some false).bind fun j1 =>
 some j1

def impl_BlockOk_L1 (a_b : GBlock) (k1 : Nat) (_ : Unit) : Option (Res Unit Bool) :=
 (impl_CellOk (gx a_b.Cells k1)).bind fun v2 =>
 bif (!v2) then
  some (.ret false)
 else
  some (.next ())

def impl_BlockOk (a_b : GBlock) : Option Bool :=
 (
  (impl_within a_b.Size 1 4).bind fun v1 =>
  bif (!v1) then
   some true
  else
   some (((a_b.Cells.length : Nat) : Int) != (wr (a_b.Size * a_b.Size)))).bind fun j1 =>
 bif j1 then
  some false
 else
  gd (a_b.Cells.length ≤ 4611686018427387904) <|
  sq (forO (impl_BlockOk_L1 a_b) a_b.Cells.length 0 ()) fun _ =>
  some true

def impl_EntryOk (a_e : GEntry) : Option Bool :=
 (
  (impl_within a_e.Owner 0 99).bind fun v1 =>
  bif v1 then
   (impl_within a_e.Day 0 9999).bind fun v2 =>
   bif v2 then
    (impl_BlockOk a_e.Block).bind fun v3 =>
    some v3
   else
    some false
  else
   some false).bind fun j1 =>
 some j1

def impl_isMember_L1 (a_list : List GMember) (a_number : Int) (k1 : Nat) (_ : Unit) : Option (Res Unit Bool) :=
 bif ((gx a_list k1).Number == a_number) then
  some (.ret true)
 else
  some (.next ())

def impl_isMember (a_list : List GMember) (a_number : Int) : Option Bool :=
 gd (a_list.length ≤ 4611686018427387904) <|
 sq (forO (impl_isMember_L1 a_list a_number) a_list.length 0 ()) fun _ =>
 some false

def impl_GoodStanding_L1 (a_list : List GMember) (a_year : Int) (k1 : Nat) (s1 : List Int) : Option (Res (List Int) Empty) :=
 (
  bif (decide ((gx a_list k1).Paid ≥ a_year)) then
   gd (s1.length + 1 ≤ 1099511627776) <|
   some (s1 ++ [(gx a_list k1).Number])
  else
   some s1).bind fun j1 =>
 some (.next j1)

def impl_GoodStanding (a_list : List GMember) (a_year : Int) : Option (List Int) :=
 (impl_MembersOk a_list).bind fun v1 =>
 bif (!v1) then
  some ([] : List Int)
 else
  gd (a_list.length ≤ 4611686018427387904) <|
  (lpO (impl_GoodStanding_L1 a_list a_year) a_list.length ([] : List Int)).bind fun e1 =>
  some e1

def impl_SwapRounds (a_g : GGuild) : Option Int :=
 (impl_GoodStanding a_g.Members a_g.Year).bind fun v1 =>
 (impl_within ((v1.length : Nat) : Int) 2 10).bind fun v2 =>
 bif v2 then
  some (wr (((v1.length : Nat) : Int) - 1))
 else
  some 0

def impl_GuildOk_L1 (a_g : GGuild) (k1 : Nat) (_ : Unit) : Option (Res Unit Bool) :=
 (
  (impl_EntryOk (GEntry.mk ((gx a_g.Entries k1).Owner) ((gx a_g.Entries k1).Day) ((gx a_g.Entries k1).Block))).bind fun v4 =>
  bif (!v4) then
   some true
  else
   (impl_isMember a_g.Members ((gx a_g.Entries k1).Owner)).bind fun v5 =>
   bif (!v5) then
    some true
   else
    bif (decide (((k1 : Nat) : Int) > 0)) then
     gd (0 ≤ (wr (((k1 : Nat) : Int) - 1)) ∧ (wr (((k1 : Nat) : Int) - 1)) < ((a_g.Entries.length : Nat) : Int)) <|
     some (decide ((gx a_g.Entries k1).Day < (gx a_g.Entries (((wr (((k1 : Nat) : Int) - 1))).toNat)).Day))
    else
     some false).bind fun j2 =>
 bif j2 then
  some (.ret false)
 else
  some (.next ())

def impl_GuildOk (a_g : GGuild) : Option Bool :=
 (
  (impl_MembersOk a_g.Members).bind fun v1 =>
  bif (!v1) then
   some true
  else
   (impl_StockOk a_g.Stock).bind fun v2 =>
   bif (!v2) then
    some true
   else
    (impl_LedgerOk a_g.Books).bind fun v3 =>
    bif (!v3) then
     some true
    else
     some (decide (((a_g.Entries.length : Nat) : Int) > 10))).bind fun j1 =>
 bif j1 then
  some false
 else
  gd (a_g.Entries.length ≤ 4611686018427387904) <|
  sq (forO (impl_GuildOk_L1 a_g) a_g.Entries.length 0 ()) fun _ =>
  (
   (impl_within a_g.Year 1900 2999).bind fun v6 =>
   bif v6 then
    (impl_SwapRounds a_g).bind fun v7 =>
    (impl_within a_g.Round 0 v7).bind fun v8 =>
    some v8
   else
    some false).bind fun j3 =>
  some j3

def impl_copyMembers (a_list : List GMember) : Option (List GMember) :=
 gd (([] : List GMember).length + a_list.length ≤ 1099511627776) <|
 some (([] : List GMember) ++ a_list)

def impl_copyOf (a_list : List Int) : Option (List Int) :=
 gd (([] : List Int).length + a_list.length ≤ 1099511627776) <|
 some (([] : List Int) ++ a_list)

def impl_Block_copied (a_b : GBlock) : Option GBlock :=
 gd (([] : List GCell).length + a_b.Cells.length ≤ 1099511627776) <|
 some (GBlock.mk a_b.Size (([] : List GCell) ++ a_b.Cells))

def impl_Guild_copied_L1 (a_g : GGuild) (k1 : Nat) (s1 : List GEntry) : Option (Res (List GEntry) Empty) :=
 (impl_Block_copied ((gx a_g.Entries k1).Block)).bind fun v3 =>
 gd (s1.length + 1 ≤ 1099511627776) <|
 some (.next (s1 ++ [(GEntry.mk ((gx a_g.Entries k1).Owner) ((gx a_g.Entries k1).Day) v3)]))

def impl_Guild_copied (a_g : GGuild) : Option GGuild :=
 (impl_copyMembers a_g.Members).bind fun v1 =>
 (impl_copyOf a_g.Stock).bind fun v2 =>
 gd (([] : List GBooking).length + a_g.Books.length ≤ 1099511627776) <|
 gd (a_g.Entries.length ≤ 4611686018427387904) <|
 (lpO (impl_Guild_copied_L1 a_g) a_g.Entries.length ([] : List GEntry)).bind fun e1 =>
 some (GGuild.mk v1 v2 e1 (([] : List GBooking) ++ a_g.Books) a_g.Round a_g.Year)

def impl_JoinGuild_L1 (a_list : List GMember) (a_number : Int) (s1 : Int) : Option (Res Int Empty) :=
 (
  bif (decide (s1 < ((a_list.length : Nat) : Int))) then
   gd (0 ≤ s1 ∧ s1 < ((a_list.length : Nat) : Int)) <|
   some (decide ((gx a_list ((s1).toNat)).Number < a_number))
  else
   some false).bind fun j1 =>
 bif j1 then
  some (.next (wr (s1 + 1)))
 else
  some (.brk s1)

def impl_JoinGuild (a_list : List GMember) (a_number : Int) (a_year : Int) : Option ((List GMember) × Bool) :=
 (wlO (impl_JoinGuild_L1 a_list a_number) 18446744073709551616 0).bind fun e1 =>
 gd (0 ≤ e1 ∧ 0 ≤ (e1).toNat ∧ (e1).toNat ≤ a_list.length) <|
 gd (([] : List GMember).length + ((a_list.drop 0).take ((e1).toNat - 0)).length ≤ 1099511627776) <|
 gd ((([] : List GMember) ++ ((a_list.drop 0).take ((e1).toNat - 0))).length + 1 ≤ 1099511627776) <|
 gd (0 ≤ e1 ∧ (e1).toNat ≤ a_list.length ∧ a_list.length ≤ a_list.length) <|
 gd (((([] : List GMember) ++ ((a_list.drop 0).take ((e1).toNat - 0))) ++ [(GMember.mk a_number a_year (wr (a_year - 1)))]).length + ((a_list.drop ((e1).toNat)).take (a_list.length - ((e1).toNat))).length ≤ 1099511627776) <|
 (
  (impl_MembersOk a_list).bind fun v1 =>
  bif (!v1) then
   some true
  else
   (impl_MembersOk (((([] : List GMember) ++ ((a_list.drop 0).take ((e1).toNat - 0))) ++ [(GMember.mk a_number a_year (wr (a_year - 1)))]) ++ ((a_list.drop ((e1).toNat)).take (a_list.length - ((e1).toNat))))).bind fun v2 =>
   some (!v2)).bind fun j2 =>
 bif j2 then
  (impl_copyMembers a_list).bind fun v3 =>
  some (v3, false)
 else
  some ((((([] : List GMember) ++ ((a_list.drop 0).take ((e1).toNat - 0))) ++ [(GMember.mk a_number a_year (wr (a_year - 1)))]) ++ ((a_list.drop ((e1).toNat)).take (a_list.length - ((e1).toNat)))), true)

def impl_PayDues_L1 (a_number : Int) (a_years : Int) (k1 : Nat) (s1 : (List GMember) × Bool) : Option (Res ((List GMember) × Bool) Empty) :=
 gd (k1 < s1.1.length) <|
 some (.next ((bif ((gx s1.1 k1).Number == a_number) then (s1.1.set k1 (GMember.mk ((gx s1.1 k1).Number) ((gx s1.1 k1).Since) (wr ((gx s1.1 k1).Paid + a_years)))) else s1.1), (((gx s1.1 k1).Number == a_number) || s1.2)))

def impl_PayDues (a_list : List GMember) (a_number : Int) (a_years : Int) : Option ((List GMember) × Bool) :=
 (impl_copyMembers a_list).bind fun v1 =>
 (
  (impl_MembersOk a_list).bind fun v2 =>
  bif (!v2) then
   some true
  else
   (impl_within a_years 1 10).bind fun v3 =>
   some (!v3)).bind fun j1 =>
 bif j1 then
  some (v1, false)
 else
  gd (v1.length ≤ 4611686018427387904) <|
  (lpO (impl_PayDues_L1 a_number a_years) v1.length (v1, false)).bind fun e1 =>
  (
   bif (!e1.2) then
    some true
   else
    (impl_MembersOk e1.1).bind fun v4 =>
    some (!v4)).bind fun j3 =>
  bif j3 then
   (impl_copyMembers a_list).bind fun v5 =>
   some (v5, false)
  else
   some (e1.1, true)

def impl_BookSum (a_list : List GBooking) (a_b : GBooking) : Option ((List GBooking) × Bool) :=
 gd (([] : List GBooking).length + a_list.length ≤ 1099511627776) <|
 gd ((([] : List GBooking) ++ a_list).length + 1 ≤ 1099511627776) <|
 (
  (impl_LedgerOk a_list).bind fun v1 =>
  bif (!v1) then
   some true
  else
   (impl_LedgerOk ((([] : List GBooking) ++ a_list) ++ [a_b])).bind fun v2 =>
   some (!v2)).bind fun j1 =>
 bif j1 then
  some ((([] : List GBooking) ++ a_list), false)
 else
  some (((([] : List GBooking) ++ a_list) ++ [a_b]), true)

def impl_Guild_becomes (a_g : GGuild) (a_next : GGuild) (a_ok : Bool) : Option (GGuild × Bool) :=
 (
  (impl_GuildOk a_g).bind fun v1 =>
  bif (!v1) then
   some true
  else
   bif (!a_ok) then
    some true
   else
    (impl_GuildOk a_next).bind fun v2 =>
    some (!v2)).bind fun j1 =>
 bif j1 then
  (impl_Guild_copied a_g).bind fun v3 =>
  some (v3, false)
 else
  some (a_next, true)

def impl_Admit (a_g : GGuild) (a_number : Int) : Option (GGuild × Bool) :=
 (impl_Guild_copied a_g).bind fun v1 =>
 (
  bif (decide (((a_g.Books.length : Nat) : Int) > 0)) then
   gd (0 ≤ (wr (((a_g.Books.length : Nat) : Int) - 1)) ∧ (wr (((a_g.Books.length : Nat) : Int) - 1)) < ((a_g.Books.length : Nat) : Int)) <|
   some ((gx a_g.Books (((wr (((a_g.Books.length : Nat) : Int) - 1))).toNat)).Day)
  else
   some 0).bind fun j1 =>
 (impl_JoinGuild v1.Members a_number a_g.Year).bind fun v2 =>
 (impl_PayDues v2.1 a_number 1).bind fun v3 =>
 (impl_BookSum v1.Books (GBooking.mk j1 0 1 20)).bind fun v4 =>
 (
  bif v2.2 then
   bif v3.2 then
    bif v4.2 then
     (impl_Guild_becomes a_g (GGuild.mk v3.1 v1.Stock v1.Entries v4.1 v1.Round v1.Year) (a_g.Round == 0)).bind fun v5 =>
     some (v5.2, v5.1)
    else
     (impl_Guild_becomes a_g (GGuild.mk v3.1 v1.Stock v1.Entries v4.1 v1.Round v1.Year) false).bind fun v6 =>
     some (v6.2, v6.1)
   else
    (impl_Guild_becomes a_g (GGuild.mk v3.1 v1.Stock v1.Entries v4.1 v1.Round v1.Year) false).bind fun v7 =>
    some (v7.2, v7.1)
  else
   (impl_Guild_becomes a_g (GGuild.mk v3.1 v1.Stock v1.Entries v4.1 v1.Round v1.Year) false).bind fun v8 =>
   some (v8.2, v8.1)).bind fun j2 =>
 some ((j2.2), j2.1)

def impl_WholeCell (a_a : Int) : Option GCell :=
 (impl_isColor a_a).bind fun v1 =>
 bif (!v1) then
  some (GCell.mk 0 0 0)
 else
  some (GCell.mk 0 a_a a_a)

def impl_SplitCell (a_split : Int) (a_a : Int) (a_b : Int) : Option GCell :=
 bif (a_a == a_b) then
  (impl_WholeCell a_a).bind fun v1 =>
  some v1
 else
  (impl_CellOk (GCell.mk a_split a_a a_b)).bind fun v2 =>
  bif (!v2) then
   some (GCell.mk 0 0 0)
  else
   some (GCell.mk a_split a_a a_b)

def impl_StarBlock  : Option GBlock :=
 (impl_WholeCell 1).bind fun v1 =>
 (impl_SplitCell 1 0 1).bind fun v2 =>
 (impl_SplitCell 2 1 0).bind fun v3 =>
 (impl_SplitCell 2 0 1).bind fun v4 =>
 (impl_SplitCell 1 1 0).bind fun v5 =>
 some (GBlock.mk 3 ([v2, v1, v3, v1, v1, v1, v4, v1, v5] : List GCell))

def impl_SampleBlock_c1 (a_x : Int) (a_y : Int) (c_p2 : Int) : Option GCell :=
 bif (decide ((wr ((wr (2 * a_y)) + a_x)) < (c_p2.tmod 5))) then
  (impl_SplitCell 1 0 1).bind fun v1 =>
  some v1
 else
  (impl_WholeCell (wr ((wr (c_p2.tdiv 5)) + 1))).bind fun v2 =>
  some v2

def impl_made_L2 (a_one : Int → Int → Option GCell) (k1 : Nat) (k2 : Nat) (s2 : List GCell) : Option (Res (List GCell) Empty) :=
 (a_one ((k2 : Nat) : Int) ((k1 : Nat) : Int)).bind fun v1 =>
 gd (s2.length + 1 ≤ 1099511627776) <|
 some (.next (s2 ++ [v1]))

def impl_made_L1 (a_size : Int) (a_one : Int → Int → Option GCell) (k1 : Nat) (s1 : List GCell) : Option (Res (List GCell) Empty) :=
 (lpO (impl_made_L2 a_one k1) ((a_size).toNat) s1).bind fun e2 =>
 some (.next e2)

def impl_made (a_size : Int) (a_one : Int → Int → Option GCell) : Option GBlock :=
 gd ((a_size).toNat ≤ 4611686018427387904) <|
 (lpO (impl_made_L1 a_size a_one) ((a_size).toNat) ([] : List GCell)).bind fun e1 =>
 some (GBlock.mk a_size e1)

def impl_SampleBlock (a_n : Int) : Option GBlock :=
 bif (a_n == 0) then
  impl_StarBlock.bind fun v1 =>
  some v1
 else
  (impl_within a_n 1 9).bind fun v2 =>
  bif (!v2) then
   some (GBlock.mk 0 ([] : List GCell))
  else
   (impl_made 2 (fun z0 z1 => impl_SampleBlock_c1 z0 z1 a_n)).bind fun v3 =>
   some v3

def impl_Block_isPlace (a_b : GBlock) (a_x : Int) (a_y : Int) : Option Bool :=
 (
  (impl_BlockOk a_b).bind fun v1 =>
  bif v1 then
   (impl_within a_x 0 (wr (a_b.Size - 1))).bind fun v2 =>
   bif v2 then
    (impl_within a_y 0 (wr (a_b.Size - 1))).bind fun v3 =>
    some v3
   else
    some false
  else
   some false).bind fun j1 =>
 some j1

def impl_CellAt (a_b : GBlock) (a_x : Int) (a_y : Int) : Option GCell :=
 (impl_Block_isPlace a_b a_x a_y).bind fun v1 =>
 bif (!v1) then
  some (GCell.mk 0 0 0)
 else
  gd (0 ≤ (wr ((wr (a_y * a_b.Size)) + a_x)) ∧ (wr ((wr (a_y * a_b.Size)) + a_x)) < ((a_b.Cells.length : Nat) : Int)) <|
  some (gx a_b.Cells (((wr ((wr (a_y * a_b.Size)) + a_x))).toNat))

def impl_MirrorCell (a_c : GCell) : Option GCell :=
 (impl_CellOk a_c).bind fun v1 =>
 bif (!v1) then
  some (GCell.mk 0 0 0)
 else
  bif (a_c.Split == 0) then
   some a_c
  else
   some (GCell.mk (wr (3 - a_c.Split)) a_c.B a_c.A)

def impl_MirrorBlock_c1 (a_x : Int) (a_y : Int) (c_p2 : GBlock) : Option GCell :=
 (impl_CellAt c_p2 (wr ((wr (c_p2.Size - 1)) - a_x)) a_y).bind fun v1 =>
 (impl_MirrorCell v1).bind fun v2 =>
 some v2

def impl_MirrorBlock (a_b : GBlock) : Option GBlock :=
 (impl_BlockOk a_b).bind fun v1 =>
 bif (!v1) then
  some (GBlock.mk 0 ([] : List GCell))
 else
  (impl_made a_b.Size (fun z0 z1 => impl_MirrorBlock_c1 z0 z1 a_b)).bind fun v2 =>
  some v2

def impl_TurnCell (a_c : GCell) : Option GCell :=
 (impl_CellOk a_c).bind fun v1 =>
 bif (!v1) then
  some (GCell.mk 0 0 0)
 else
  bif (a_c.Split == 1) then
   some (GCell.mk 2 a_c.B a_c.A)
  else
   bif (a_c.Split == 2) then
    some (GCell.mk 1 a_c.A a_c.B)
   else
    some a_c

def impl_TurnBlock_c1 (a_x : Int) (a_y : Int) (c_p2 : GBlock) : Option GCell :=
 (impl_CellAt c_p2 a_y (wr ((wr (c_p2.Size - 1)) - a_x))).bind fun v1 =>
 (impl_TurnCell v1).bind fun v2 =>
 some v2

def impl_TurnBlock (a_b : GBlock) : Option GBlock :=
 (impl_BlockOk a_b).bind fun v1 =>
 bif (!v1) then
  some (GBlock.mk 0 ([] : List GCell))
 else
  (impl_made a_b.Size (fun z0 z1 => impl_TurnBlock_c1 z0 z1 a_b)).bind fun v2 =>
  some v2

def impl_SeenFrom_L1 (_ : Nat) (s1 : Int × (List GCell)) : Option (Res (Int × (List GCell)) Empty) :=
 (impl_TurnBlock (GBlock.mk s1.1 s1.2)).bind fun v5 =>
 some (.next (v5.Size, v5.Cells))

def impl_SeenFrom (a_b : GBlock) (a_k : Int) : Option GBlock :=
 (
  (impl_BlockOk a_b).bind fun v1 =>
  bif (!v1) then
   some true
  else
   (impl_within a_k 0 7).bind fun v2 =>
   some (!v2)).bind fun j1 =>
 bif j1 then
  some (GBlock.mk 0 ([] : List GCell))
 else
  (impl_Block_copied a_b).bind fun v3 =>
  (
   bif (decide (a_k ≥ 4)) then
    (impl_MirrorBlock a_b).bind fun v4 =>
    some v4
   else
    some v3).bind fun j2 =>
  gd (((a_k.tmod 4)).toNat ≤ 4611686018427387904) <|
  (lpO impl_SeenFrom_L1 (((a_k.tmod 4)).toNat) ((j2).Size, (j2).Cells)).bind fun e1 =>
  some (GBlock.mk e1.1 e1.2)

def impl_views_L1 (a_b : GBlock) (k1 : Nat) (s1 : List GBlock) : Option (Res (List GBlock) Empty) :=
 (impl_SeenFrom a_b ((k1 : Nat) : Int)).bind fun v1 =>
 gd (s1.length + 1 ≤ 1099511627776) <|
 some (.next (s1 ++ [v1]))

def impl_views (a_b : GBlock) : Option (List GBlock) :=
 (lpO (impl_views_L1 a_b) 8 ([] : List GBlock)).bind fun e1 =>
 some e1

def impl_indexOf_L1 (a_list : List Int) (a_n : Int) (k1 : Nat) (_ : Unit) : Option (Res Unit Int) :=
 bif ((gx a_list k1) == a_n) then
  some (.ret ((k1 : Nat) : Int))
 else
  some (.next ())

def impl_indexOf (a_list : List Int) (a_n : Int) : Option Int :=
 gd (a_list.length ≤ 4611686018427387904) <|
 sq (forO (impl_indexOf_L1 a_list a_n) a_list.length 0 ()) fun _ =>
 some (-1)

def impl_put_L1 (a_list : List Int) (a_n : Int) (k1 : Nat) (s1 : (List Int) × Bool) : Option (Res ((List Int) × Bool) Empty) :=
 (
  bif ((!s1.2) && (decide (a_n ≤ (gx a_list k1)))) then
   gd (s1.1.length + 1 ≤ 1099511627776) <|
   some ((s1.1 ++ [a_n]), true)
  else
   some (s1.1, s1.2)).bind fun j2 =>
 gd (j2.1.length + 1 ≤ 1099511627776) <|
 some (.next ((j2.1 ++ [(gx a_list k1)]), j2.2))

def impl_put (a_list : List Int) (a_n : Int) : Option (List Int) :=
 gd (a_list.length ≤ 4611686018427387904) <|
 (lpO (impl_put_L1 a_list a_n) a_list.length (([] : List Int), false)).bind fun e1 =>
 (
  bif (!e1.2) then
   gd (e1.1.length + 1 ≤ 1099511627776) <|
   some (e1.1 ++ [a_n])
  else
   some e1.1).bind fun j3 =>
 some j3

def impl_sorted_L1 (a_list : List Int) (k1 : Nat) (s1 : List Int) : Option (Res (List Int) Empty) :=
 (impl_put s1 (gx a_list k1)).bind fun v1 =>
 some (.next v1)

def impl_sorted (a_list : List Int) : Option (List Int) :=
 gd (a_list.length ≤ 4611686018427387904) <|
 (lpO (impl_sorted_L1 a_list) a_list.length ([] : List Int)).bind fun e1 =>
 some e1

def impl_isStrict_L1 (a_list : List Int) (k1 : Nat) (_ : Unit) : Option (Res Unit Bool) :=
 (
  bif (decide (((k1 : Nat) : Int) > 0)) then
   gd (0 ≤ (wr (((k1 : Nat) : Int) - 1)) ∧ (wr (((k1 : Nat) : Int) - 1)) < ((a_list.length : Nat) : Int)) <|
   some (decide ((gx a_list k1) ≤ (gx a_list (((wr (((k1 : Nat) : Int) - 1))).toNat))))
  else
   some false).bind fun j1 =>
 bif j1 then
  some (.ret false)
 else
  some (.next ())

def impl_isStrict (a_list : List Int) (a_a : Int) (a_b : Int) : Option Bool :=
 gd (a_list.length ≤ 4611686018427387904) <|
 sq (forO (impl_isStrict_L1 a_list) a_list.length 0 ()) fun _ =>
 (impl_allWithin a_list a_a a_b).bind fun v1 =>
 some v1

def impl_IsExchange (a_l : List Int) : Option Bool :=
 (
  bif (((a_l.length : Nat) : Int) == 6) then
   (impl_sorted a_l).bind fun v1 =>
   (impl_isStrict v1 0 5).bind fun v2 =>
   some v2
  else
   some false).bind fun j1 =>
 some j1

def impl_UndoList_L1 (a_l : List Int) (k1 : Nat) (s1 : List Int) : Option (Res (List Int) Empty) :=
 gd (0 ≤ (gx a_l k1) ∧ (gx a_l k1) < ((s1.length : Nat) : Int)) <|
 some (.next (s1.set (((gx a_l k1)).toNat) ((k1 : Nat) : Int)))

def impl_UndoList (a_l : List Int) : Option (List Int) :=
 (impl_IsExchange a_l).bind fun v1 =>
 bif (!v1) then
  some ([] : List Int)
 else
  gd (a_l.length ≤ 4611686018427387904) <|
  (lpO (impl_UndoList_L1 a_l) a_l.length (List.replicate 6 (0 : Int))).bind fun e1 =>
  some e1

def impl_FirstUse_L2 (a_b : GBlock) (k1 : Nat) (k2 : Nat) (s2 : List Int) : Option (Res (List Int) Empty) :=
 (impl_indexOf s2 (gx ([(gx a_b.Cells k1).A, (gx a_b.Cells k1).B] : List Int) k2)).bind fun v2 =>
 (
  bif (decide (v2 < 0)) then
   gd (s2.length + 1 ≤ 1099511627776) <|
   some (s2 ++ [(gx ([(gx a_b.Cells k1).A, (gx a_b.Cells k1).B] : List Int) k2)])
  else
   some s2).bind fun j1 =>
 some (.next j1)

def impl_FirstUse_L1 (a_b : GBlock) (k1 : Nat) (s1 : List Int) : Option (Res (List Int) Empty) :=
 gd (([(gx a_b.Cells k1).A, (gx a_b.Cells k1).B] : List Int).length ≤ 4611686018427387904) <|
 (lpO (impl_FirstUse_L2 a_b k1) (([(gx a_b.Cells k1).A, (gx a_b.Cells k1).B] : List Int).length) s1).bind fun e2 =>
 some (.next e2)

def impl_FirstUse_L3 (k3 : Nat) (s3 : List Int) : Option (Res (List Int) Empty) :=
 (impl_indexOf s3 ((k3 : Nat) : Int)).bind fun v3 =>
 (
  bif (decide (v3 < 0)) then
   gd (s3.length + 1 ≤ 1099511627776) <|
   some (s3 ++ [((k3 : Nat) : Int)])
  else
   some s3).bind fun j2 =>
 some (.next j2)

def impl_FirstUse (a_b : GBlock) : Option (List Int) :=
 (impl_BlockOk a_b).bind fun v1 =>
 bif (!v1) then
  some ([] : List Int)
 else
  gd (a_b.Cells.length ≤ 4611686018427387904) <|
  (lpO (impl_FirstUse_L1 a_b) a_b.Cells.length ([] : List Int)).bind fun e1 =>
  (lpO impl_FirstUse_L3 6 e1).bind fun e3 =>
  (impl_UndoList e3).bind fun v4 =>
  some v4

def impl_ListOk (a_l : List Int) : Option Bool :=
 (
  bif (((a_l.length : Nat) : Int) == 6) then
   (impl_allWithin a_l 0 5).bind fun v1 =>
   some v1
  else
   some false).bind fun j1 =>
 some j1

def impl_ExchangeCell (a_c : GCell) (a_l : List Int) : Option GCell :=
 (
  (impl_CellOk a_c).bind fun v1 =>
  bif (!v1) then
   some true
  else
   (impl_ListOk a_l).bind fun v2 =>
   some (!v2)).bind fun j1 =>
 bif j1 then
  some (GCell.mk 0 0 0)
 else
  gd (0 ≤ a_c.A ∧ a_c.A < ((a_l.length : Nat) : Int)) <|
  gd (0 ≤ a_c.B ∧ a_c.B < ((a_l.length : Nat) : Int)) <|
  (impl_SplitCell a_c.Split (gx a_l ((a_c.A).toNat)) (gx a_l ((a_c.B).toNat))).bind fun v3 =>
  some v3

def impl_ExchangeBlock_c1 (a_x : Int) (a_y : Int) (c_p2 : GBlock) (c_p3 : List Int) : Option GCell :=
 (impl_CellAt c_p2 a_x a_y).bind fun v1 =>
 (impl_ExchangeCell v1 c_p3).bind fun v2 =>
 some v2

def impl_ExchangeBlock (a_b : GBlock) (a_l : List Int) : Option (GBlock × Bool) :=
 (
  (impl_BlockOk a_b).bind fun v1 =>
  bif (!v1) then
   some true
  else
   (impl_ListOk a_l).bind fun v2 =>
   some (!v2)).bind fun j1 =>
 bif j1 then
  (impl_Block_copied a_b).bind fun v3 =>
  some (v3, false)
 else
  (impl_made a_b.Size (fun z0 z1 => impl_ExchangeBlock_c1 z0 z1 a_b a_l)).bind fun v4 =>
  some (v4, true)

def impl_plain (a_b : GBlock) : Option GBlock :=
 (impl_FirstUse a_b).bind fun v1 =>
 (impl_ExchangeBlock a_b v1).bind fun v2 =>
 some v2.1

def impl_CellText (a_c : GCell) : Option Str :=
 (impl_CellOk a_c).bind fun v1 =>
 bif (!v1) then
  some (⟨[]⟩ : Str)
 else
  gd (0 ≤ a_c.Split ∧ a_c.Split < ((([(⟨[]⟩ : Str), (⟨[47]⟩ : Str), (⟨[92]⟩ : Str)] : List Str).length : Nat) : Int)) <|
  bif (seq (gx ([(⟨[]⟩ : Str), (⟨[47]⟩ : Str), (⟨[92]⟩ : Str)] : List Str) ((a_c.Split).toNat)) (⟨[]⟩ : Str)) then
   (impl_FormatInt a_c.A).bind fun v2 =>
   some v2
  else
   (impl_FormatInt a_c.A).bind fun v3 =>
   gd (v3.b.length + (gx ([(⟨[]⟩ : Str), (⟨[47]⟩ : Str), (⟨[92]⟩ : Str)] : List Str) ((a_c.Split).toNat)).b.length ≤ 1099511627776) <|
   (impl_FormatInt a_c.B).bind fun v4 =>
   gd ((sadd v3 (gx ([(⟨[]⟩ : Str), (⟨[47]⟩ : Str), (⟨[92]⟩ : Str)] : List Str) ((a_c.Split).toNat))).b.length + v4.b.length ≤ 1099511627776) <|
   some (sadd (sadd v3 (gx ([(⟨[]⟩ : Str), (⟨[47]⟩ : Str), (⟨[92]⟩ : Str)] : List Str) ((a_c.Split).toNat))) v4)

def impl_TextOf_L1 (a_b : GBlock) (k1 : Nat) (s1 : Str) : Option (Res Str Empty) :=
 (impl_CellText (gx a_b.Cells k1)).bind fun v2 =>
 gd (v2.b.length + (⟨[59]⟩ : Str).b.length ≤ 1099511627776) <|
 gd (s1.b.length + (sadd v2 (⟨[59]⟩ : Str)).b.length ≤ 1099511627776) <|
 some (.next (sadd s1 (sadd v2 (⟨[59]⟩ : Str))))

def impl_TextOf (a_b : GBlock) : Option Str :=
 (impl_BlockOk a_b).bind fun v1 =>
 bif (!v1) then
  some (⟨[]⟩ : Str)
 else
  gd (a_b.Cells.length ≤ 4611686018427387904) <|
  (lpO (impl_TextOf_L1 a_b) a_b.Cells.length (⟨[]⟩ : Str)).bind fun e1 =>
  some e1

def impl_least_L1 (a_list : List GBlock) (k1 : Nat) (s1 : Nat) : Option (Res Nat Empty) :=
 gd (s1 < a_list.length) <|
 (impl_TextOf (gx a_list k1)).bind fun v1 =>
 (impl_TextOf (gx a_list s1)).bind fun v2 =>
 some (.next (bif slt v1 v2 then k1 else s1))

def impl_least (a_list : List GBlock) : Option GBlock :=
 gd (0 < a_list.length) <|
 gd (a_list.length ≤ 4611686018427387904) <|
 (lpO (impl_least_L1 a_list) a_list.length 0).bind fun e1 =>
 gd (e1 < a_list.length) <|
 some (gx a_list e1)

def impl_LeastPattern_L1 (v2 : List GBlock) (k1 : Nat) (s1 : List GBlock) : Option (Res (List GBlock) Empty) :=
 (impl_plain (gx v2 k1)).bind fun v3 =>
 gd (s1.length + 1 ≤ 1099511627776) <|
 some (.next (s1 ++ [v3]))

def impl_LeastPattern (a_b : GBlock) : Option GBlock :=
 (impl_BlockOk a_b).bind fun v1 =>
 bif (!v1) then
  some (GBlock.mk 0 ([] : List GCell))
 else
  (impl_views a_b).bind fun v2 =>
  gd (v2.length ≤ 4611686018427387904) <|
  (lpO (impl_LeastPattern_L1 v2) v2.length ([] : List GBlock)).bind fun e1 =>
  (impl_least e1).bind fun v4 =>
  some v4

def impl_SameBlock_L1 (a_b : GBlock) (a_d : GBlock) (k1 : Nat) (_ : Unit) : Option (Res Unit Bool) :=
 gd (k1 < a_d.Cells.length) <|
 bif (!(beqs [(gx a_b.Cells k1).Split, (gx a_b.Cells k1).A, (gx a_b.Cells k1).B] [(gx a_d.Cells k1).Split, (gx a_d.Cells k1).A, (gx a_d.Cells k1).B])) then
  some (.ret false)
 else
  some (.next ())

def impl_SameBlock (a_b : GBlock) (a_d : GBlock) : Option Bool :=
 bif ((a_b.Size != a_d.Size) || (((a_b.Cells.length : Nat) : Int) != ((a_d.Cells.length : Nat) : Int))) then
  some false
 else
  gd (a_b.Cells.length ≤ 4611686018427387904) <|
  sq (forO (impl_SameBlock_L1 a_b a_d) a_b.Cells.length 0 ()) fun _ =>
  some true

def impl_ArePatternsSame (a_b : GBlock) (a_d : GBlock) : Option Bool :=
 (
  (impl_BlockOk a_b).bind fun v1 =>
  bif v1 then
   (impl_BlockOk a_d).bind fun v2 =>
   bif v2 then
    (impl_LeastPattern a_b).bind fun v3 =>
    (impl_LeastPattern a_d).bind fun v4 =>
    (impl_SameBlock v3 v4).bind fun v5 =>
    some v5
   else
    some false
  else
   some false).bind fun j1 =>
 some j1

def impl_arePaired (a_b : GBlock) (a_d : GBlock) : Option Bool :=
 (
  (impl_BlockOk a_b).bind fun v1 =>
  bif v1 then
   (impl_BlockOk a_d).bind fun v2 =>
   bif v2 then
    some (a_b.Size == a_d.Size)
   else
    some false
  else
   some false).bind fun j1 =>
 some j1

def impl_CellArea (a_c : GCell) (a_a : Int) : Option Int :=
 (
  (impl_CellOk a_c).bind fun v1 =>
  bif v1 then
   some (a_c.A == a_a)
  else
   some false).bind fun j1 =>
 (
  (impl_CellOk a_c).bind fun v2 =>
  bif v2 then
   some (a_c.B == a_a)
  else
   some false).bind fun j3 =>
 some (bif j3 then (wr ((bif j1 then (wr (0 + 2)) else 0) + 2)) else (bif j1 then (wr (0 + 2)) else 0))

def impl_AreaOf_L1 (a_b : GBlock) (a_a : Int) (k1 : Nat) (s1 : Int) : Option (Res Int Empty) :=
 (impl_CellArea (gx a_b.Cells k1) a_a).bind fun v2 =>
 some (.next (wr (s1 + v2)))

def impl_AreaOf (a_b : GBlock) (a_a : Int) : Option Int :=
 (impl_BlockOk a_b).bind fun v1 =>
 bif (!v1) then
  some 0
 else
  gd (a_b.Cells.length ≤ 4611686018427387904) <|
  (lpO (impl_AreaOf_L1 a_b a_a) a_b.Cells.length 0).bind fun e1 =>
  some e1

def impl_ColorsOf_L1 (a_b : GBlock) (k1 : Nat) (s1 : List Int) : Option (Res (List Int) Empty) :=
 (impl_AreaOf a_b ((k1 : Nat) : Int)).bind fun v2 =>
 (
  bif (decide (v2 > 0)) then
   gd (s1.length + 1 ≤ 1099511627776) <|
   some (s1 ++ [((k1 : Nat) : Int)])
  else
   some s1).bind fun j1 =>
 some (.next j1)

def impl_ColorsOf (a_b : GBlock) : Option (List Int) :=
 (impl_BlockOk a_b).bind fun v1 =>
 bif (!v1) then
  some ([] : List Int)
 else
  (lpO (impl_ColorsOf_L1 a_b) 6 ([] : List Int)).bind fun e1 =>
  some e1

def impl_choices_L1 (k1 : Nat) (s1 : Int) : Option (Res Int Empty) :=
 some (.next (wr (s1 * (wr (6 - ((k1 : Nat) : Int))))))

def impl_choices (a_n : Int) : Option Int :=
 gd ((a_n).toNat ≤ 4611686018427387904) <|
 (lpO impl_choices_L1 ((a_n).toNat) 1).bind fun e1 =>
 some e1

def impl_ColorwayCount (a_b : GBlock) : Option Int :=
 (impl_BlockOk a_b).bind fun v1 =>
 bif (!v1) then
  some 0
 else
  (impl_ColorsOf a_b).bind fun v2 =>
  (impl_choices ((v2.length : Nat) : Int)).bind fun v3 =>
  some v3

def impl_upTo_L1 (k1 : Nat) (s1 : List Int) : Option (Res (List Int) Empty) :=
 gd (s1.length + 1 ≤ 1099511627776) <|
 some (.next (s1 ++ [((k1 : Nat) : Int)]))

def impl_upTo (a_n : Int) : Option (List Int) :=
 gd ((a_n).toNat ≤ 4611686018427387904) <|
 (lpO impl_upTo_L1 ((a_n).toNat) ([] : List Int)).bind fun e1 =>
 some e1

def impl_ColorwayAt_L1 (v3 : List Int) (k1 : Nat) (s1 : Int × (List Int) × (List Int)) : Option (Res (Int × (List Int) × (List Int)) Empty) :=
 (impl_choices ((v3.length : Nat) : Int)).bind fun v5 =>
 (impl_choices ((k1 + 1 : Nat) : Int)).bind fun v6 =>
 gd (v6 ≠ 0) <|
 gd ((wr (v5.tdiv v6)) ≠ 0) <|
 gd (0 ≤ (wr (s1.1.tdiv (wr (v5.tdiv v6)))) ∧ (wr (s1.1.tdiv (wr (v5.tdiv v6)))) < ((s1.2.1.length : Nat) : Int)) <|
 gd (0 ≤ (gx v3 k1) ∧ (gx v3 k1) < ((s1.2.2.length : Nat) : Int)) <|
 gd (0 ≤ (wr (s1.1.tdiv (wr (v5.tdiv v6)))) ∧ 0 ≤ ((wr (s1.1.tdiv (wr (v5.tdiv v6))))).toNat ∧ ((wr (s1.1.tdiv (wr (v5.tdiv v6))))).toNat ≤ s1.2.1.length) <|
 gd (0 ≤ (wr ((wr (s1.1.tdiv (wr (v5.tdiv v6)))) + 1)) ∧ ((wr ((wr (s1.1.tdiv (wr (v5.tdiv v6)))) + 1))).toNat ≤ s1.2.1.length ∧ s1.2.1.length ≤ s1.2.1.length) <|
 gd (([] : List Int).length + ((s1.2.1.drop 0).take (((wr (s1.1.tdiv (wr (v5.tdiv v6))))).toNat - 0)).length ≤ 1099511627776) <|
 gd ((([] : List Int) ++ ((s1.2.1.drop 0).take (((wr (s1.1.tdiv (wr (v5.tdiv v6))))).toNat - 0))).length + ((s1.2.1.drop (((wr ((wr (s1.1.tdiv (wr (v5.tdiv v6)))) + 1))).toNat)).take (s1.2.1.length - (((wr ((wr (s1.1.tdiv (wr (v5.tdiv v6)))) + 1))).toNat))).length ≤ 1099511627776) <|
 some (.next ((s1.1.tmod (wr (v5.tdiv v6))), ((([] : List Int) ++ ((s1.2.1.drop 0).take (((wr (s1.1.tdiv (wr (v5.tdiv v6))))).toNat - 0))) ++ ((s1.2.1.drop (((wr ((wr (s1.1.tdiv (wr (v5.tdiv v6)))) + 1))).toNat)).take (s1.2.1.length - (((wr ((wr (s1.1.tdiv (wr (v5.tdiv v6)))) + 1))).toNat)))), (s1.2.2.set (((gx v3 k1)).toNat) (gx s1.2.1 (((wr (s1.1.tdiv (wr (v5.tdiv v6))))).toNat)))))

def impl_ColorwayAt (a_b : GBlock) (a_index : Int) : Option (GBlock × Bool) :=
 (impl_ColorwayCount a_b).bind fun v1 =>
 (impl_within a_index 0 (wr (v1 - 1))).bind fun v2 =>
 bif (!v2) then
  some ((GBlock.mk 0 ([] : List GCell)), false)
 else
  (impl_ColorsOf a_b).bind fun v3 =>
  (impl_upTo 6).bind fun v4 =>
  gd (v3.length ≤ 4611686018427387904) <|
  (lpO (impl_ColorwayAt_L1 v3) v3.length (a_index, v4, (List.replicate 6 (0 : Int)))).bind fun e1 =>
  (impl_ExchangeBlock a_b e1.2.2).bind fun v7 =>
  some (v7.1, v7.2)

def impl_ColorAt (a_c : GCell) (a_side : Int) : Option Int :=
 (
  (impl_CellOk a_c).bind fun v1 =>
  bif (!v1) then
   some true
  else
   (impl_within a_side 0 3).bind fun v2 =>
   some (!v2)).bind fun j1 =>
 bif j1 then
  some (-1)
 else
  bif ((a_side == 0) || (bif (a_c.Split == 1) then ((a_side == 1) || ((a_c.Split == 2) && (a_side == 3))) else ((a_c.Split == 2) && (a_side == 3)))) then
   some a_c.A
  else
   some a_c.B

def impl_CellLikeness_L1 (a_c : GCell) (a_d : GCell) (k1 : Nat) (s1 : Int) : Option (Res Int Empty) :=
 (impl_ColorAt a_c ((k1 : Nat) : Int)).bind fun v3 =>
 (impl_ColorAt a_d ((k1 : Nat) : Int)).bind fun v4 =>
 some (.next (bif (v3 == v4) then (wr (s1 + 1)) else s1))

def impl_CellLikeness (a_c : GCell) (a_d : GCell) : Option Int :=
 (
  (impl_CellOk a_c).bind fun v1 =>
  bif (!v1) then
   some true
  else
   (impl_CellOk a_d).bind fun v2 =>
   some (!v2)).bind fun j1 =>
 bif j1 then
  some 0
 else
  (lpO (impl_CellLikeness_L1 a_c a_d) 4 0).bind fun e1 =>
  some e1

def impl_Likeness_L1 (a_b : GBlock) (a_d : GBlock) (k1 : Nat) (s1 : Int) : Option (Res Int Empty) :=
 gd (k1 < a_d.Cells.length) <|
 (impl_CellLikeness (gx a_b.Cells k1) (gx a_d.Cells k1)).bind fun v2 =>
 some (.next (wr (s1 + v2)))

def impl_Likeness (a_b : GBlock) (a_d : GBlock) : Option Int :=
 (impl_arePaired a_b a_d).bind fun v1 =>
 bif (!v1) then
  some 0
 else
  gd (a_b.Cells.length ≤ 4611686018427387904) <|
  (lpO (impl_Likeness_L1 a_b a_d) a_b.Cells.length 0).bind fun e1 =>
  some e1

def impl_BestLikeness_L1 (a_b : GBlock) (v2 : List GBlock) (k1 : Nat) (s1 : Int) : Option (Res Int Empty) :=
 (impl_Likeness a_b (gx v2 k1)).bind fun v3 =>
 some (.next (if v3 > s1 then v3 else s1))

def impl_BestLikeness (a_b : GBlock) (a_d : GBlock) : Option Int :=
 (impl_arePaired a_b a_d).bind fun v1 =>
 bif (!v1) then
  some 0
 else
  (impl_views a_d).bind fun v2 =>
  gd (v2.length ≤ 4611686018427387904) <|
  (lpO (impl_BestLikeness_L1 a_b v2) v2.length 0).bind fun e1 =>
  some e1

def impl_PatternLikeness_L1 (a_b : GBlock) (a_d : GBlock) (k1 : Nat) (s1 : Int) : Option (Res Int Empty) :=
 (impl_ColorwayAt a_d ((k1 : Nat) : Int)).bind fun v4 =>
 (impl_BestLikeness a_b v4.1).bind fun v5 =>
 some (.next (if v5 > s1 then v5 else s1))

def impl_PatternLikeness (a_b : GBlock) (a_d : GBlock) : Option Int :=
 (
  (impl_arePaired a_b a_d).bind fun v1 =>
  bif (!v1) then
   some true
  else
   (impl_ColorsOf a_d).bind fun v2 =>
   some (decide (((v2.length : Nat) : Int) > 3))).bind fun j1 =>
 bif j1 then
  some 0
 else
  (impl_ColorwayCount a_d).bind fun v3 =>
  gd ((v3).toNat ≤ 4611686018427387904) <|
  (lpO (impl_PatternLikeness_L1 a_b a_d) ((v3).toNat) 0).bind fun e1 =>
  some e1

def impl_VerdictOn (a_e : GEntry) (a_f : GEntry) : Option Int :=
 (
  (impl_EntryOk a_e).bind fun v1 =>
  bif (!v1) then
   some true
  else
   (impl_EntryOk a_f).bind fun v2 =>
   bif (!v2) then
    some true
   else
    some (a_e.Block.Size != a_f.Block.Size)).bind fun j1 =>
 bif j1 then
  some 0
 else
  (impl_ArePatternsSame a_e.Block a_f.Block).bind fun v3 =>
  bif v3 then
   some 3
  else
   (impl_PatternLikeness a_e.Block a_f.Block).bind fun v4 =>
   bif (decide ((wr (10 * v4)) ≥ (wr (36 * ((a_e.Block.Cells.length : Nat) : Int))))) then
    some 2
   else
    some 1

def impl_IsCopy (a_e : GEntry) (a_f : GEntry) : Option Bool :=
 (
  bif (a_e.Owner != a_f.Owner) then
   bif (decide (a_e.Day > a_f.Day)) then
    (impl_VerdictOn a_e a_f).bind fun v1 =>
    some (decide (v1 ≥ 2))
   else
    some false
  else
   some false).bind fun j1 =>
 some j1

def impl_Submit_L1 (a_g : GGuild) (a_number : Int) (a_day : Int) (v1 : GGuild) (v2 : GBlock) (k1 : Nat) (_ : Unit) : Option (Res Unit (GGuild × Bool)) :=
 (impl_IsCopy (GEntry.mk a_number a_day v2) (GEntry.mk ((gx a_g.Entries k1).Owner) ((gx a_g.Entries k1).Day) ((gx a_g.Entries k1).Block))).bind fun v4 =>
 bif v4 then
  some (.ret (v1, false))
 else
  some (.next ())

def impl_Submit (a_g : GGuild) (a_number : Int) (a_day : Int) (a_b : GBlock) : Option (GGuild × Bool) :=
 (impl_Guild_copied a_g).bind fun v1 =>
 (impl_Block_copied a_b).bind fun v2 =>
 (impl_GuildOk a_g).bind fun v3 =>
 bif (!v3) then
  some (v1, false)
 else
  gd (a_g.Entries.length ≤ 4611686018427387904) <|
  sq (forO (impl_Submit_L1 a_g a_number a_day v1 v2) a_g.Entries.length 0 ()) fun _ =>
  gd (v1.Entries.length + 1 ≤ 1099511627776) <|
  (impl_Guild_becomes a_g (GGuild.mk v1.Members v1.Stock (v1.Entries ++ [(GEntry.mk a_number a_day v2)]) v1.Books v1.Round v1.Year) true).bind fun v5 =>
  some (v5.1, v5.2)

def impl_AreaTable_L1 (a_b : GBlock) (k1 : Nat) (s1 : List Int) : Option (Res (List Int) Empty) :=
 (impl_AreaOf a_b ((k1 : Nat) : Int)).bind fun v2 =>
 gd (s1.length + 1 ≤ 1099511627776) <|
 some (.next (s1 ++ [v2]))

def impl_AreaTable (a_b : GBlock) : Option (List Int) :=
 (impl_BlockOk a_b).bind fun v1 =>
 bif (!v1) then
  some ([] : List Int)
 else
  (lpO (impl_AreaTable_L1 a_b) 6 ([] : List Int)).bind fun e1 =>
  some e1

def impl_TakeCloth (a_stock : List Int) (a_a : Int) (a_length : Int) : Option ((List Int) × Bool) :=
 (impl_copyOf a_stock).bind fun v1 =>
 (
  (impl_StockOk a_stock).bind fun v2 =>
  bif (!v2) then
   some true
  else
   (impl_isColor a_a).bind fun v3 =>
   bif (!v3) then
    some true
   else
    gd (0 ≤ a_a ∧ a_a < ((a_stock.length : Nat) : Int)) <|
    (impl_within a_length 0 (gx a_stock ((a_a).toNat))).bind fun v4 =>
    some (!v4)).bind fun j1 =>
 bif j1 then
  some (v1, false)
 else
  gd (0 ≤ a_a ∧ a_a < ((v1.length : Nat) : Int)) <|
  some ((v1.set ((a_a).toNat) (wr ((gx v1 ((a_a).toNat)) - a_length))), true)

def impl_SewBlock_L1 (a_g : GGuild) (v4 : List Int) (k1 : Nat) (s1 : List Int) : Option (Res (List Int) (GGuild × Bool)) :=
 (impl_TakeCloth s1 ((k1 : Nat) : Int) (gx v4 k1)).bind fun v5 =>
 bif (!v5.2) then
  (impl_Guild_copied a_g).bind fun v6 =>
  some (.ret (v6, false))
 else
  some (.next v5.1)

def impl_SewBlock (a_g : GGuild) (a_k : Int) : Option (GGuild × Bool) :=
 (impl_Guild_copied a_g).bind fun v1 =>
 (
  (impl_GuildOk a_g).bind fun v2 =>
  bif (!v2) then
   some true
  else
   (impl_within a_k 0 (wr (((a_g.Entries.length : Nat) : Int) - 1))).bind fun v3 =>
   some (!v3)).bind fun j1 =>
 bif j1 then
  some (v1, false)
 else
  gd (0 ≤ a_k ∧ a_k < ((a_g.Entries.length : Nat) : Int)) <|
  (impl_AreaTable ((gx a_g.Entries ((a_k).toNat)).Block)).bind fun v4 =>
  gd (v4.length ≤ 4611686018427387904) <|
  sq (forO (impl_SewBlock_L1 a_g v4) v4.length 0 v1.Stock) fun e1 =>
  some ((GGuild.mk v1.Members e1 v1.Entries v1.Books v1.Round v1.Year), true)

def impl_SwapRound (a_g : GGuild) : Option (GGuild × Bool) :=
 (impl_Guild_copied a_g).bind fun v1 =>
 (impl_Guild_becomes a_g (GGuild.mk v1.Members v1.Stock v1.Entries v1.Books (wr (v1.Round + 1)) v1.Year) true).bind fun v2 =>
 some (v2.1, v2.2)

def impl_NewYear (a_g : GGuild) : Option (GGuild × Bool) :=
 (impl_Guild_copied a_g).bind fun v1 =>
 (impl_SwapRounds a_g).bind fun v4 =>
 (impl_Guild_becomes a_g (GGuild.mk v1.Members v1.Stock v1.Entries v1.Books 0 (wr (v1.Year + 1))) (decide (a_g.Round ≥ v4))).bind fun v5 =>
 some (v5.1, v5.2)

def impl_LackOf_L1 (a_stock : List Int) (a_need : List Int) (k1 : Nat) (s1 : List Int) : Option (Res (List Int) Empty) :=
 gd (k1 < a_need.length) <|
 gd (s1.length + 1 ≤ 1099511627776) <|
 some (.next (s1 ++ [(if 0 > (wr ((gx a_need k1) - (gx a_stock k1))) then 0 else (wr ((gx a_need k1) - (gx a_stock k1))))]))

def impl_LackOf (a_stock : List Int) (a_need : List Int) : Option (List Int) :=
 (
  (impl_StockOk a_stock).bind fun v1 =>
  bif (!v1) then
   some true
  else
   (impl_StockOk a_need).bind fun v2 =>
   some (!v2)).bind fun j1 =>
 bif j1 then
  some ([] : List Int)
 else
  gd (a_stock.length ≤ 4611686018427387904) <|
  (lpO (impl_LackOf_L1 a_stock a_need) a_stock.length ([] : List Int)).bind fun e1 =>
  some e1

def impl_lack_L1 (v3 : List Int) (k1 : Nat) (s1 : Int) : Option (Res Int Empty) :=
 some (.next (wr (s1 + (gx v3 k1))))

def impl_lack (a_g : GGuild) (a_k : Int) : Option Int :=
 (impl_within a_k 0 (wr (((a_g.Entries.length : Nat) : Int) - 1))).bind fun v1 =>
 bif (!v1) then
  some 0
 else
  gd (0 ≤ a_k ∧ a_k < ((a_g.Entries.length : Nat) : Int)) <|
  (impl_AreaTable ((gx a_g.Entries ((a_k).toNat)).Block)).bind fun v2 =>
  (impl_LackOf a_g.Stock v2).bind fun v3 =>
  gd (v3.length ≤ 4611686018427387904) <|
  (lpO (impl_lack_L1 v3) v3.length 0).bind fun e1 =>
  some e1

def impl_DoAct (a_g : GGuild) (a_a : GAct) : Option (GGuild × Int) :=
 (
  (impl_GuildOk a_g).bind fun v1 =>
  bif (!v1) then
   some true
  else
   (impl_ActOk a_a).bind fun v2 =>
   some (!v2)).bind fun j1 =>
 bif j1 then
  (impl_Guild_copied a_g).bind fun v3 =>
  some (v3, (-1))
 else
  (impl_Guild_copied a_g).bind fun v4 =>
  sq (
   bif (a_a.Kind == 1) then
    (impl_Admit a_g a_a.A).bind fun v5 =>
    some (.inl (v5.2, v5.1))
   else
    bif (a_a.Kind == 2) then
     (
      bif (decide (((a_g.Entries.length : Nat) : Int) > 0)) then
       gd (0 ≤ (wr (((a_g.Entries.length : Nat) : Int) - 1)) ∧ (wr (((a_g.Entries.length : Nat) : Int) - 1)) < ((a_g.Entries.length : Nat) : Int)) <|
       some (wr ((gx a_g.Entries (((wr (((a_g.Entries.length : Nat) : Int) - 1))).toNat)).Day + 1))
      else
       some 0).bind fun j3 =>
     (impl_SampleBlock a_a.B).bind fun v6 =>
     (impl_Submit a_g a_a.A j3 v6).bind fun v7 =>
     some (.inl (v7.2, v7.1))
    else
     bif (a_a.Kind == 3) then
      (impl_SewBlock a_g a_a.A).bind fun v8 =>
      some (.inl (v8.2, v8.1))
     else
      bif (a_a.Kind == 4) then
       (impl_SwapRound a_g).bind fun v9 =>
       some (.inl (v9.2, v9.1))
      else
       bif (a_a.Kind == 5) then
        (impl_NewYear a_g).bind fun v10 =>
        some (.inl (v10.2, v10.1))
       else
        (impl_lack a_g a_a.A).bind fun v11 =>
        some (.inr (v4, v11))) fun j2 =>
  bif j2.1 then
   some ((j2.2), 1)
  else
   some ((j2.2), 0)

def spec_ActOk (a_a : GAct) : Option Bool :=
 bif (a_a.Kind == 1) then
  (
   (spec_l01In a_a.A 1 999).bind fun v1 =>
   bif v1 then
    some (a_a.B == 0)
   else
    some false).bind fun j1 =>
  some j1
 else
  bif (a_a.Kind == 2) then
   (
    (spec_l01In a_a.A 1 999).bind fun v2 =>
    bif v2 then
     (spec_l01In a_a.B 0 9).bind fun v3 =>
     some v3
    else
     some false).bind fun j2 =>
   some j2
  else
   bif ((a_a.Kind == 3) || (a_a.Kind == 6)) then
    (
     (spec_l01In a_a.A 0 9).bind fun v4 =>
     bif v4 then
      some (a_a.B == 0)
     else
      some false).bind fun j4 =>
    some j4
   else
    bif ((a_a.Kind == 4) || (a_a.Kind == 5)) then
     some ((a_a.A == 0) && (a_a.B == 0))
    else
     some false

def spec_StarBlock  : Option GBlock :=
 (spec_WholeCell 1).bind fun v1 =>
 some (GBlock.mk 3 ([(GCell.mk 1 0 1), v1, (GCell.mk 2 1 0), v1, v1, v1, (GCell.mk 2 0 1), v1, (GCell.mk 1 1 0)] : List GCell))

def spec_SampleBlock_L1 (a_n : Int) (k1 : Nat) (s1 : List GCell) : Option (Res (List GCell) Empty) :=
 (spec_WholeCell (wr ((wr (a_n.tdiv 5)) + 1))).bind fun v3 =>
 (
  bif (decide (((k1 : Nat) : Int) < (a_n.tmod 5))) then
   (spec_SplitCell 1 0 1).bind fun v4 =>
   some v4
  else
   some v3).bind fun j1 =>
 gd (s1.length + 1 ≤ 1099511627776) <|
 some (.next (s1 ++ [(j1)]))

def spec_SampleBlock (a_n : Int) : Option GBlock :=
 bif (a_n == 0) then
  spec_StarBlock.bind fun v1 =>
  some v1
 else
  (spec_l01In a_n 1 9).bind fun v2 =>
  bif (!v2) then
   some (GBlock.mk 0 ([] : List GCell))
  else
   (lpO (spec_SampleBlock_L1 a_n) 4 ([] : List GCell)).bind fun e1 =>
   some (GBlock.mk 2 e1)

def spec_CellArea (a_c : GCell) (a_a : Int) : Option Int :=
 (spec_CellOk a_c).bind fun v1 =>
 bif (!v1) then
  some 0
 else
  some (bif (a_c.B == a_a) then (wr ((bif (a_c.A == a_a) then (wr (0 + 2)) else 0) + 2)) else (bif (a_c.A == a_a) then (wr (0 + 2)) else 0))

def spec_AreaOf_L1 (a_b : GBlock) (a_a : Int) (k1 : Nat) (s1 : Int) : Option (Res Int Empty) :=
 (spec_CellArea (gx a_b.Cells k1) a_a).bind fun v2 =>
 some (.next (wr (s1 + v2)))

def spec_AreaOf (a_b : GBlock) (a_a : Int) : Option Int :=
 (spec_BlockOk a_b).bind fun v1 =>
 bif (!v1) then
  some 0
 else
  gd (a_b.Cells.length ≤ 4611686018427387904) <|
  (lpO (spec_AreaOf_L1 a_b a_a) a_b.Cells.length 0).bind fun e1 =>
  some e1

def spec_AreaTable_L1 (a_b : GBlock) (k1 : Nat) (s1 : List Int) : Option (Res (List Int) Empty) :=
 (spec_BlockOk a_b).bind fun v1 =>
 bif v1 then
  (spec_AreaOf a_b ((k1 : Nat) : Int)).bind fun v2 =>
  gd (s1.length + 1 ≤ 1099511627776) <|
  some (.next (s1 ++ [v2]))
 else
  some (.brk s1)

def spec_AreaTable (a_b : GBlock) : Option (List Int) :=
 (lpO (spec_AreaTable_L1 a_b) 6 ([] : List Int)).bind fun e1 =>
 some e1

def spec_EnoughFor_L1 (a_stock : List Int) (a_need : List Int) (k1 : Nat) (_ : Unit) : Option (Res Unit Bool) :=
 gd (k1 < a_need.length) <|
 gd (k1 < a_stock.length) <|
 bif (decide ((gx a_need k1) > (gx a_stock k1))) then
  some (.ret false)
 else
  some (.next ())

def spec_EnoughFor (a_stock : List Int) (a_need : List Int) : Option Bool :=
 (
  (spec_StockOk a_stock).bind fun v1 =>
  bif (!v1) then
   some true
  else
   (spec_StockOk a_need).bind fun v2 =>
   some (!v2)).bind fun j1 =>
 bif j1 then
  some false
 else
  sq (forO (spec_EnoughFor_L1 a_stock a_need) 6 0 ()) fun _ =>
  some true

def spec_SewBlock_L1 (a_g : GGuild) (v6 : List Int) (k1 : Nat) (s1 : List Int) : Option (Res (List Int) Empty) :=
 gd (k1 < a_g.Stock.length) <|
 gd (k1 < v6.length) <|
 gd (k1 < s1.length) <|
 some (.next (s1.set k1 (wr ((gx a_g.Stock k1) - (gx v6 k1)))))

def spec_SewBlock (a_g : GGuild) (a_k : Int) : Option (GGuild × Bool) :=
 (spec_l38Copy a_g).bind fun v1 =>
 (
  (spec_GuildOk a_g).bind fun v2 =>
  bif (!v2) then
   some true
  else
   (spec_l01In a_k 0 (wr (((a_g.Entries.length : Nat) : Int) - 1))).bind fun v3 =>
   bif (!v3) then
    some true
   else
    gd (0 ≤ a_k ∧ a_k < ((a_g.Entries.length : Nat) : Int)) <|
    (spec_AreaTable ((gx a_g.Entries ((a_k).toNat)).Block)).bind fun v4 =>
    (spec_EnoughFor a_g.Stock v4).bind fun v5 =>
    some (!v5)).bind fun j1 =>
 bif j1 then
  some (v1, false)
 else
  gd (0 ≤ a_k ∧ a_k < ((a_g.Entries.length : Nat) : Int)) <|
  (spec_AreaTable ((gx a_g.Entries ((a_k).toNat)).Block)).bind fun v6 =>
  (lpO (spec_SewBlock_L1 a_g v6) 6 v1.Stock).bind fun e1 =>
  some ((GGuild.mk v1.Members e1 v1.Entries v1.Books v1.Round v1.Year), true)

def spec_NewYear (a_g : GGuild) : Option (GGuild × Bool) :=
 (spec_l38Copy a_g).bind fun v1 =>
 (
  (spec_GuildOk a_g).bind fun v2 =>
  bif (!v2) then
   some true
  else
   (spec_SwapRounds a_g).bind fun v3 =>
   bif (decide (a_g.Round < v3)) then
    some true
   else
    (spec_GuildOk (GGuild.mk v1.Members v1.Stock v1.Entries v1.Books 0 (wr (v1.Year + 1)))).bind fun v4 =>
    some (!v4)).bind fun j1 =>
 bif j1 then
  (spec_l38Copy a_g).bind fun v5 =>
  some (v5, false)
 else
  some ((GGuild.mk v1.Members v1.Stock v1.Entries v1.Books 0 (wr (v1.Year + 1))), true)

def spec_LackOf_L1 (a_stock : List Int) (a_need : List Int) (k1 : Nat) (s1 : List Int) : Option (Res (List Int) Empty) :=
 (
  (spec_StockOk a_stock).bind fun v1 =>
  bif v1 then
   (spec_StockOk a_need).bind fun v2 =>
   some (v1, v2)
  else
   some (v1, false)).bind fun j1 =>
 bif j1.2 then
  gd (k1 < a_need.length) <|
  gd (k1 < a_stock.length) <|
  gd (s1.length + 1 ≤ 1099511627776) <|
  some (.next (s1 ++ [(if (wr ((gx a_need k1) - (gx a_stock k1))) > 0 then (wr ((gx a_need k1) - (gx a_stock k1))) else 0)]))
 else
  some (.brk s1)

def spec_LackOf (a_stock : List Int) (a_need : List Int) : Option (List Int) :=
 (lpO (spec_LackOf_L1 a_stock a_need) 6 ([] : List Int)).bind fun e1 =>
 some e1

def spec_l39Bool (a_ok : Bool) : Option Int :=
 bif a_ok then
  some 1
 else
  some 0

def spec_DoAct_L1 (v11 : List Int) (k1 : Nat) (s1 : Int) : Option (Res Int Empty) :=
 some (.next (wr (s1 + (gx v11 k1))))

def spec_DoAct (a_g : GGuild) (a_a : GAct) : Option (GGuild × Int) :=
 (spec_l38Copy a_g).bind fun v1 =>
 (
  (spec_GuildOk a_g).bind fun v2 =>
  bif (!v2) then
   some true
  else
   (spec_ActOk a_a).bind fun v3 =>
   some (!v3)).bind fun j1 =>
 bif j1 then
  some (v1, (-1))
 else
  sq (
   bif (a_a.Kind == 1) then
    (spec_Admit a_g a_a.A).bind fun v4 =>
    some (.inl (v4.2, v4.1))
   else
    bif (a_a.Kind == 2) then
     (
      bif (decide (((a_g.Entries.length : Nat) : Int) > 0)) then
       gd (0 ≤ (wr (((a_g.Entries.length : Nat) : Int) - 1)) ∧ (wr (((a_g.Entries.length : Nat) : Int) - 1)) < ((a_g.Entries.length : Nat) : Int)) <|
       some (wr ((gx a_g.Entries (((wr (((a_g.Entries.length : Nat) : Int) - 1))).toNat)).Day + 1))
      else
       some 0).bind fun j3 =>
     (spec_SampleBlock a_a.B).bind fun v5 =>
     (spec_Submit a_g a_a.A j3 v5).bind fun v6 =>
     some (.inl (v6.2, v6.1))
    else
     bif (a_a.Kind == 3) then
      (spec_SewBlock a_g a_a.A).bind fun v7 =>
      some (.inl (v7.2, v7.1))
     else
      bif (a_a.Kind == 4) then
       (spec_SwapRound a_g).bind fun v8 =>
       some (.inl (v8.2, v8.1))
      else
       bif (a_a.Kind == 5) then
        (spec_NewYear a_g).bind fun v9 =>
        some (.inl (v9.2, v9.1))
       else
        bif (a_a.Kind == 6) then
         (
          bif (decide (a_a.A < ((a_g.Entries.length : Nat) : Int))) then
           gd (0 ≤ a_a.A ∧ a_a.A < ((a_g.Entries.length : Nat) : Int)) <|
           (spec_AreaTable ((gx a_g.Entries ((a_a.A).toNat)).Block)).bind fun v10 =>
           (spec_LackOf a_g.Stock v10).bind fun v11 =>
           gd (v11.length ≤ 4611686018427387904) <|
           (lpO (spec_DoAct_L1 v11) v11.length 0).bind fun e1 =>
           some e1
          else
           some 0).bind fun j4 =>
         some (.inr (v1, j4))
        else
         some (.inl (false, v1))) fun j2 =>
  (spec_l39Bool j2.1).bind fun v12 =>
  some ((j2.2), v12)

def spec_SplitFields_L1 (a_line : Str) (k1 : Nat) (s1 : (List Str) × Int) : Option (Res ((List Str) × Int) ((List Str) × Bool)) :=
 (
  bif (decide (((k1 : Nat) : Int) < ((a_line.b.length : Nat) : Int))) then
   gd (k1 < a_line.b.length) <|
   bif (decide ((((sat_ a_line k1)).toNat : Int) < 32)) then
    some true
   else
    some (decide ((((sat_ a_line k1)).toNat : Int) > 126))
  else
   some false).bind fun j1 =>
 bif j1 then
  some (.ret (([] : List Str), false))
 else
  (
   bif (decide (((k1 : Nat) : Int) < ((a_line.b.length : Nat) : Int))) then
    gd (k1 < a_line.b.length) <|
    some ((((sat_ a_line k1)).toNat : Int) != 32)
   else
    some false).bind fun j2 =>
  bif j2 then
   some (.next (s1.1, s1.2))
  else
   (
    bif (decide (s1.2 < ((k1 : Nat) : Int))) then
     gd (0 ≤ s1.2 ∧ (s1.2).toNat ≤ k1 ∧ k1 ≤ a_line.b.length) <|
     gd (s1.1.length + 1 ≤ 1099511627776) <|
     some (s1.1 ++ [(ssub a_line ((s1.2).toNat) k1)])
    else
     some s1.1).bind fun j3 =>
   some (.next (j3, ((k1 + 1 : Nat) : Int)))

def spec_SplitFields (a_line : Str) : Option ((List Str) × Bool) :=
 bif (decide (((a_line.b.length : Nat) : Int) > 600)) then
  some (([] : List Str), false)
 else
  gd ((a_line.b.length + 1) ≤ 4611686018427387904) <|
  sq (forO (spec_SplitFields_L1 a_line) (a_line.b.length + 1) 0 (([] : List Str), 0)) fun e1 =>
  bif (decide (((e1.1.length : Nat) : Int) > 24)) then
   some (([] : List Str), false)
  else
   some (e1.1, true)

def spec_ParseUint_L1 (a_text : Str) (k1 : Nat) (s1 : Int) : Option (Res Int (Int × Bool)) :=
 bif ((decide ((((sat_ a_text k1)).toNat : Int) < 48)) || (decide ((((sat_ a_text k1)).toNat : Int) > 57))) then
  some (.ret (0, false))
 else
  some (.next (wr ((wr ((wr (10 * s1)) + (((sat_ a_text k1)).toNat : Int))) - 48)))

def spec_ParseUint (a_text : Str) : Option (Int × Bool) :=
 bif (decide (((a_text.b.length : Nat) : Int) > 10)) then
  some (0, false)
 else
  gd (a_text.b.length ≤ 4611686018427387904) <|
  sq (forO (spec_ParseUint_L1 a_text) a_text.b.length 0 0) fun e1 =>
  (
   bif (decide (e1 > 1000000000)) then
    some true
   else
    (spec_FormatInt e1).bind fun v1 =>
    some (!(seq v1 a_text))).bind fun j2 =>
  bif j2 then
   some (0, false)
  else
   some (e1, true)

def spec_l40Number (a_s : Str) : Option Int :=
 (
  bif (decide (((a_s.b.length : Nat) : Int) > 1)) then
   gd (0 < a_s.b.length) <|
   some ((((sat_ a_s 0)).toNat : Int) == 45)
  else
   some false).bind fun j1 =>
 bif j1 then
  gd (1 ≤ a_s.b.length ∧ a_s.b.length ≤ a_s.b.length) <|
  (spec_ParseUint (ssub a_s 1 a_s.b.length)).bind fun v1 =>
  some (wr (0 - v1.1))
 else
  (spec_ParseUint a_s).bind fun v2 =>
  some v2.1

def spec_FormatAct_L1 (a_a : GAct) (k1 : Nat) (s1 : Str) : Option (Res Str Empty) :=
 gd (s1.b.length + (⟨[32]⟩ : Str).b.length ≤ 1099511627776) <|
 gd (k1 < ([a_a.A, a_a.B] : List Int).length) <|
 (spec_FormatInt (gx ([a_a.A, a_a.B] : List Int) k1)).bind fun v2 =>
 gd ((sadd s1 (⟨[32]⟩ : Str)).b.length + v2.b.length ≤ 1099511627776) <|
 some (.next (sadd (sadd s1 (⟨[32]⟩ : Str)) v2))

def spec_FormatAct (a_a : GAct) : Option (Str × Bool) :=
 (spec_ActOk a_a).bind fun v1 =>
 bif (!v1) then
  some ((⟨[]⟩ : Str), false)
 else
  gd (0 ≤ a_a.Kind ∧ a_a.Kind < ((([(⟨[]⟩ : Str), (⟨[97, 100, 109, 105, 116]⟩ : Str), (⟨[115, 117, 98, 109, 105, 116]⟩ : Str), (⟨[115, 101, 119]⟩ : Str), (⟨[114, 111, 117, 110, 100]⟩ : Str), (⟨[121, 101, 97, 114]⟩ : Str), (⟨[108, 97, 99, 107]⟩ : Str)] : List Str).length : Nat) : Int)) <|
  gd (0 ≤ a_a.Kind ∧ a_a.Kind < ((([0, 1, 2, 1, 0, 0, 1] : List Int).length : Nat) : Int)) <|
  gd (((gx ([0, 1, 2, 1, 0, 0, 1] : List Int) ((a_a.Kind).toNat))).toNat ≤ 4611686018427387904) <|
  (lpO (spec_FormatAct_L1 a_a) (((gx ([0, 1, 2, 1, 0, 0, 1] : List Int) ((a_a.Kind).toNat))).toNat) (gx ([(⟨[]⟩ : Str), (⟨[97, 100, 109, 105, 116]⟩ : Str), (⟨[115, 117, 98, 109, 105, 116]⟩ : Str), (⟨[115, 101, 119]⟩ : Str), (⟨[114, 111, 117, 110, 100]⟩ : Str), (⟨[121, 101, 97, 114]⟩ : Str), (⟨[108, 97, 99, 107]⟩ : Str)] : List Str) ((a_a.Kind).toNat))).bind fun e1 =>
  some (e1, true)

def spec_ParseAct_L1 (v1 : (List Str) × Bool) (k1 : Nat) (s1 : Str × (List Int)) : Option (Res (Str × (List Int)) Empty) :=
 gd (s1.1.b.length + (⟨[32]⟩ : Str).b.length ≤ 1099511627776) <|
 gd ((k1 + 1) < v1.1.length) <|
 gd ((sadd s1.1 (⟨[32]⟩ : Str)).b.length + (gx v1.1 (k1 + 1)).b.length ≤ 1099511627776) <|
 (spec_l40Number (gx v1.1 (k1 + 1))).bind fun v3 =>
 gd (s1.2.length + 1 ≤ 1099511627776) <|
 some (.next ((sadd (sadd s1.1 (⟨[32]⟩ : Str)) (gx v1.1 (k1 + 1))), (s1.2 ++ [v3])))

def spec_ParseAct_L2 (e1 : Str × (List Int)) (k2 : Nat) (_ : Unit) : Option (Res Unit (GAct × Bool)) :=
 gd (0 < (e1.2 ++ [0, 0]).length) <|
 gd (1 < (e1.2 ++ [0, 0]).length) <|
 (spec_FormatAct (GAct.mk (((k2 + 1) : Nat) : Int) (gx (e1.2 ++ [0, 0]) 0) (gx (e1.2 ++ [0, 0]) 1))).bind fun v4 =>
 bif (v4.2 && (seq v4.1 e1.1)) then
  some (.ret ((GAct.mk (((k2 + 1) : Nat) : Int) (gx (e1.2 ++ [0, 0]) 0) (gx (e1.2 ++ [0, 0]) 1)), true))
 else
  some (.next ())

def spec_ParseAct (a_line : Str) : Option (GAct × Bool) :=
 (spec_SplitFields a_line).bind fun v1 =>
 (
  bif (!v1.2) then
   some true
  else
   (spec_l01In ((v1.1.length : Nat) : Int) 1 3).bind fun v2 =>
   some (!v2)).bind fun j1 =>
 bif j1 then
  some ((GAct.mk 0 0 0), false)
 else
  gd (0 < v1.1.length) <|
  gd ((v1.1.length - 1) ≤ 4611686018427387904) <|
  (lpO (spec_ParseAct_L1 v1) (v1.1.length - 1) ((gx v1.1 0), ([] : List Int))).bind fun e1 =>
  gd (e1.2.length + 2 ≤ 1099511627776) <|
  sq (forO (spec_ParseAct_L2 e1) 6 0 ()) fun _ =>
  some ((GAct.mk 0 0 0), false)

end Go.Proofs.YtjfjbgihojiijaaGreatDoor
