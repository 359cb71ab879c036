/-
 What the functions compute, as Lean functions.
-/
import Derived.Test.YtkahnmhkfmjomacGreatDoorTypes
import Derived.Lib.ItoaNum
import Derived.Lib.Join
namespace Go.Proofs.YtkahnmhkfmjomacGreatDoor
open Go Go.RowKit

def laws_szMemberS (a_a : List GMember) (a_left : Int) : Option Int :=
 bif (decide ((wr (a_left - ((a_a.length : Nat) : Int))) < 0)) then
  some (-1)
 else
  some (wr (a_left - ((a_a.length : Nat) : Int)))

def laws_szIntS (a_a : List Int) (a_left : Int) : Option Int :=
 bif (decide ((wr (a_left - ((a_a.length : Nat) : Int))) < 0)) then
  some (-1)
 else
  some (wr (a_left - ((a_a.length : Nat) : Int)))

def laws_szCellS (a_a : List GCell) (a_left : Int) : Option Int :=
 bif (decide ((wr (a_left - ((a_a.length : Nat) : Int))) < 0)) then
  some (-1)
 else
  some (wr (a_left - ((a_a.length : Nat) : Int)))

def laws_szBlock (a_a : GBlock) (a_left : Int) : Option Int :=
 (laws_szCellS a_a.Cells a_left).bind fun v1 =>
 bif (decide (v1 < 0)) then
  some (-1)
 else
  some v1

def laws_szEntry (a_a : GEntry) (a_left : Int) : Option Int :=
 (laws_szBlock a_a.Block a_left).bind fun v1 =>
 bif (decide (v1 < 0)) then
  some (-1)
 else
  some v1

def laws_szEntryS_L1 (a_a : List GEntry) (k1 : Nat) (s1 : Int) : Option (Res Int Int) :=
 (laws_szEntry (gx a_a k1) s1).bind fun v1 =>
 bif (decide (v1 < 0)) then
  some (.ret (-1))
 else
  some (.next v1)

def laws_szEntryS (a_a : List GEntry) (a_left : Int) : Option Int :=
 bif (decide ((wr (a_left - ((a_a.length : Nat) : Int))) < 0)) then
  some (-1)
 else
  gd (a_a.length ≤ 4611686018427387904) <|
  sq (forO (laws_szEntryS_L1 a_a) a_a.length 0 (wr (a_left - ((a_a.length : Nat) : Int)))) fun e1 =>
  some e1

def laws_szBookingS (a_a : List GBooking) (a_left : Int) : Option Int :=
 bif (decide ((wr (a_left - ((a_a.length : Nat) : Int))) < 0)) then
  some (-1)
 else
  some (wr (a_left - ((a_a.length : Nat) : Int)))

def laws_szGuild (a_a : GGuild) (a_left : Int) : Option Int :=
 (laws_szMemberS a_a.Members a_left).bind fun v1 =>
 bif (decide (v1 < 0)) then
  some (-1)
 else
  (laws_szIntS a_a.Stock v1).bind fun v2 =>
  bif (decide (v2 < 0)) then
   some (-1)
  else
   (laws_szEntryS a_a.Entries v2).bind fun v3 =>
   bif (decide (v3 < 0)) then
    some (-1)
   else
    (laws_szBookingS a_a.Books v3).bind fun v4 =>
    bif (decide (v4 < 0)) then
     some (-1)
    else
     some v4

def laws_toMember (a_a : GMember) : Option GMember :=
 some a_a

def laws_toMemberS_L1 (a_a : List GMember) (k1 : Nat) (s1 : List GMember) : Option (Res (List GMember) Empty) :=
 (laws_toMember (gx a_a k1)).bind fun v1 =>
 gd (k1 < s1.length) <|
 some (.next (s1.set k1 v1))

def laws_toMemberS (a_a : List GMember) : Option (List GMember) :=
 gd (a_a.length ≤ 1099511627776) <|
 gd (a_a.length ≤ 4611686018427387904) <|
 (lpO (laws_toMemberS_L1 a_a) a_a.length (List.replicate a_a.length ((GMember.mk 0 0 0) : GMember))).bind fun e1 =>
 some e1

def laws_toIntS_L1 (a_a : List Int) (k1 : Nat) (s1 : List Int) : Option (Res (List Int) Empty) :=
 gd (k1 < s1.length) <|
 some (.next (s1.set k1 (gx a_a k1)))

def laws_toIntS (a_a : List Int) : Option (List Int) :=
 gd (a_a.length ≤ 1099511627776) <|
 gd (a_a.length ≤ 4611686018427387904) <|
 (lpO (laws_toIntS_L1 a_a) a_a.length (List.replicate a_a.length (0 : Int))).bind fun e1 =>
 some e1

def laws_toCell (a_a : GCell) : Option GCell :=
 some a_a

def laws_toCellS_L1 (a_a : List GCell) (k1 : Nat) (s1 : List GCell) : Option (Res (List GCell) Empty) :=
 (laws_toCell (gx a_a k1)).bind fun v1 =>
 gd (k1 < s1.length) <|
 some (.next (s1.set k1 v1))

def laws_toCellS (a_a : List GCell) : Option (List GCell) :=
 gd (a_a.length ≤ 1099511627776) <|
 gd (a_a.length ≤ 4611686018427387904) <|
 (lpO (laws_toCellS_L1 a_a) a_a.length (List.replicate a_a.length ((GCell.mk 0 0 0) : GCell))).bind fun e1 =>
 some e1

def laws_toBlock (a_a : GBlock) : Option GBlock :=
 (laws_toCellS a_a.Cells).bind fun v1 =>
 some (GBlock.mk a_a.Size v1)

def laws_toEntry (a_a : GEntry) : Option GEntry :=
 (laws_toBlock a_a.Block).bind fun v1 =>
 some (GEntry.mk a_a.Owner a_a.Day v1)

def laws_toEntryS_L1 (a_a : List GEntry) (k1 : Nat) (s1 : List GEntry) : Option (Res (List GEntry) Empty) :=
 (laws_toEntry (gx a_a k1)).bind fun v1 =>
 gd (k1 < s1.length) <|
 some (.next (s1.set k1 v1))

def laws_toEntryS (a_a : List GEntry) : Option (List GEntry) :=
 gd (a_a.length ≤ 1099511627776) <|
 gd (a_a.length ≤ 4611686018427387904) <|
 (lpO (laws_toEntryS_L1 a_a) a_a.length (List.replicate a_a.length ((GEntry.mk 0 0 (GBlock.mk 0 ([] : List GCell))) : GEntry))).bind fun e1 =>
 some e1

def laws_toBooking (a_a : GBooking) : Option GBooking :=
 some a_a

def laws_toBookingS_L1 (a_a : List GBooking) (k1 : Nat) (s1 : List GBooking) : Option (Res (List GBooking) Empty) :=
 (laws_toBooking (gx a_a k1)).bind fun v1 =>
 gd (k1 < s1.length) <|
 some (.next (s1.set k1 v1))

def laws_toBookingS (a_a : List GBooking) : Option (List GBooking) :=
 gd (a_a.length ≤ 1099511627776) <|
 gd (a_a.length ≤ 4611686018427387904) <|
 (lpO (laws_toBookingS_L1 a_a) a_a.length (List.replicate a_a.length ((GBooking.mk 0 0 0 0) : GBooking))).bind fun e1 =>
 some e1

def laws_toGuild (a_a : GGuild) : Option GGuild :=
 (laws_toMemberS a_a.Members).bind fun v1 =>
 (laws_toIntS a_a.Stock).bind fun v2 =>
 (laws_toEntryS a_a.Entries).bind fun v3 =>
 (laws_toBookingS a_a.Books).bind fun v4 =>
 some (GGuild.mk v1 v2 v3 v4 a_a.Round a_a.Year)

def spec_l01In (a_x : Int) (a_least : Int) (a_most : Int) : Option Bool :=
 some ((decide (a_x ≥ a_least)) && (decide (a_x ≤ a_most)))

def spec_MembersOk_L1 (a_list : List GMember) (k1 : Nat) (_ : Unit) : Option (Res Unit Bool) :=
 (
  (spec_l01In ((gx a_list k1).Number) 1 999).bind fun v1 =>
  bif (!v1) then
   some true
  else
   (spec_l01In ((gx a_list k1).Since) 1900 2999).bind fun v2 =>
   bif (!v2) then
    some true
   else
    (spec_l01In ((gx a_list k1).Paid) (wr ((gx a_list k1).Since - 1)) 2999).bind fun v3 =>
    bif (!v3) then
     some true
    else
     bif (decide (((k1 : Nat) : Int) > 0)) then
      gd (0 ≤ (wr (((k1 : Nat) : Int) - 1)) ∧ (wr (((k1 : Nat) : Int) - 1)) < ((a_list.length : Nat) : Int)) <|
      some (decide ((gx a_list k1).Number ≤ (gx a_list (((wr (((k1 : Nat) : Int) - 1))).toNat)).Number))
     else
      some false).bind fun j1 =>
 bif j1 then
  some (.ret false)
 else
  some (.next ())

def spec_MembersOk (a_list : List GMember) : Option Bool :=
 gd (a_list.length ≤ 4611686018427387904) <|
 sq (forO (spec_MembersOk_L1 a_list) a_list.length 0 ()) fun _ =>
 some (decide (((a_list.length : Nat) : Int) ≤ 40))

def spec_StockOk_L1 (a_stock : List Int) (k1 : Nat) (_ : Unit) : Option (Res Unit Bool) :=
 (spec_l01In (gx a_stock k1) 0 1000000).bind fun v1 =>
 bif (!v1) then
  some (.ret false)
 else
  some (.next ())

def spec_StockOk (a_stock : List Int) : Option Bool :=
 gd (a_stock.length ≤ 4611686018427387904) <|
 sq (forO (spec_StockOk_L1 a_stock) a_stock.length 0 ()) fun _ =>
 some (((a_stock.length : Nat) : Int) == 6)

def spec_LedgerOk_L1 (a_list : List GBooking) (k1 : Nat) (_ : Unit) : Option (Res Unit Bool) :=
 (
  (spec_l01In ((gx a_list k1).Day) 0 9999).bind fun v1 =>
  bif (!v1) then
   some true
  else
   (spec_l01In ((gx a_list k1).From) 0 4).bind fun v2 =>
   bif (!v2) then
    some true
   else
    (spec_l01In ((gx a_list k1).To) 0 4).bind fun v3 =>
    bif (!v3) then
     some true
    else
     bif ((gx a_list k1).From == (gx a_list k1).To) then
      some true
     else
      (spec_l01In ((gx a_list k1).Sum) 1 100000).bind fun v4 =>
      bif (!v4) then
       some true
      else
       bif (decide (((k1 : Nat) : Int) > 0)) then
        gd (0 ≤ (wr (((k1 : Nat) : Int) - 1)) ∧ (wr (((k1 : Nat) : Int) - 1)) < ((a_list.length : Nat) : Int)) <|
        some (decide ((gx a_list k1).Day < (gx a_list (((wr (((k1 : Nat) : Int) - 1))).toNat)).Day))
       else
        some false).bind fun j1 =>
 bif j1 then
  some (.ret false)
 else
  some (.next ())

def spec_LedgerOk (a_list : List GBooking) : Option Bool :=
 gd (a_list.length ≤ 4611686018427387904) <|
 sq (forO (spec_LedgerOk_L1 a_list) a_list.length 0 ()) fun _ =>
 some (decide (((a_list.length : Nat) : Int) ≤ 60))

def spec_CellOk (a_c : GCell) : Option Bool :=
 (
  (spec_l01In a_c.Split 0 2).bind fun v1 =>
  bif (!v1) then
   some true
  else
   (spec_l01In a_c.A 0 5).bind fun v2 =>
   bif (!v2) then
    some true
   else
    (spec_l01In a_c.B 0 5).bind fun v3 =>
    some (!v3)).bind fun j1 =>
 bif j1 then
  some false
 else
  some ((a_c.Split == 0) == (a_c.A == a_c.B))

def spec_BlockOk_L1 (a_b : GBlock) (k1 : Nat) (_ : Unit) : Option (Res Unit Bool) :=
 (spec_CellOk (gx a_b.Cells k1)).bind fun v2 =>
 bif (!v2) then
  some (.ret false)
 else
  some (.next ())

def spec_BlockOk (a_b : GBlock) : Option Bool :=
 (
  (spec_l01In a_b.Size 1 4).bind fun v1 =>
  bif (!v1) then
   some true
  else
   some (((a_b.Cells.length : Nat) : Int) != (wr (a_b.Size * a_b.Size)))).bind fun j1 =>
 bif j1 then
  some false
 else
  gd (a_b.Cells.length ≤ 4611686018427387904) <|
  sq (forO (spec_BlockOk_L1 a_b) a_b.Cells.length 0 ()) fun _ =>
  some true

def spec_EntryOk (a_e : GEntry) : Option Bool :=
 (
  (spec_l01In a_e.Owner 0 99).bind fun v1 =>
  bif v1 then
   (spec_l01In a_e.Day 0 9999).bind fun v2 =>
   bif v2 then
    (spec_BlockOk a_e.Block).bind fun v3 =>
    some v3
   else
    some false
  else
   some false).bind fun j1 =>
 some j1

def spec_l38Member_L1 (a_list : List GMember) (a_number : Int) (k1 : Nat) (_ : Unit) : Option (Res Unit Bool) :=
 bif ((gx a_list k1).Number == a_number) then
  some (.ret true)
 else
  some (.next ())

def spec_l38Member (a_list : List GMember) (a_number : Int) : Option Bool :=
 gd (a_list.length ≤ 4611686018427387904) <|
 sq (forO (spec_l38Member_L1 a_list a_number) a_list.length 0 ()) fun _ =>
 some false

def spec_GoodStanding_L1 (a_list : List GMember) (a_year : Int) (k1 : Nat) (s1 : List Int) : Option (Res (List Int) Empty) :=
 (spec_MembersOk a_list).bind fun v1 =>
 bif v1 then
  (
   bif (decide ((gx a_list k1).Paid ≥ a_year)) then
    gd (s1.length + 1 ≤ 1099511627776) <|
    some (s1 ++ [(gx a_list k1).Number])
   else
    some s1).bind fun j1 =>
  some (.next j1)
 else
  some (.brk s1)

def spec_GoodStanding (a_list : List GMember) (a_year : Int) : Option (List Int) :=
 gd (a_list.length ≤ 4611686018427387904) <|
 (lpO (spec_GoodStanding_L1 a_list a_year) a_list.length ([] : List Int)).bind fun e1 =>
 some e1

def spec_SwapRounds (a_g : GGuild) : Option Int :=
 (spec_GoodStanding a_g.Members a_g.Year).bind fun v1 =>
 (spec_l01In ((v1.length : Nat) : Int) 2 10).bind fun v2 =>
 bif (!v2) then
  some 0
 else
  some (wr (((v1.length : Nat) : Int) - 1))

def spec_GuildOk_L1 (a_g : GGuild) (k1 : Nat) (_ : Unit) : Option (Res Unit Bool) :=
 (
  (spec_EntryOk (GEntry.mk ((gx a_g.Entries k1).Owner) ((gx a_g.Entries k1).Day) ((gx a_g.Entries k1).Block))).bind fun v5 =>
  bif (!v5) then
   some true
  else
   (spec_l38Member a_g.Members ((gx a_g.Entries k1).Owner)).bind fun v6 =>
   bif (!v6) then
    some true
   else
    bif (decide (((k1 : Nat) : Int) > 0)) then
     gd (0 ≤ (wr (((k1 : Nat) : Int) - 1)) ∧ (wr (((k1 : Nat) : Int) - 1)) < ((a_g.Entries.length : Nat) : Int)) <|
     some (decide ((gx a_g.Entries k1).Day < (gx a_g.Entries (((wr (((k1 : Nat) : Int) - 1))).toNat)).Day))
    else
     some false).bind fun j2 =>
 bif j2 then
  some (.ret false)
 else
  some (.next ())

def spec_GuildOk (a_g : GGuild) : Option Bool :=
 (
  (spec_MembersOk a_g.Members).bind fun v1 =>
  bif (!v1) then
   some true
  else
   (spec_StockOk a_g.Stock).bind fun v2 =>
   bif (!v2) then
    some true
   else
    (spec_LedgerOk a_g.Books).bind fun v3 =>
    bif (!v3) then
     some true
    else
     bif (decide (((a_g.Entries.length : Nat) : Int) > 10)) then
      some true
     else
      (spec_l01In a_g.Year 1900 2999).bind fun v4 =>
      some (!v4)).bind fun j1 =>
 bif j1 then
  some false
 else
  gd (a_g.Entries.length ≤ 4611686018427387904) <|
  sq (forO (spec_GuildOk_L1 a_g) a_g.Entries.length 0 ()) fun _ =>
  (spec_SwapRounds a_g).bind fun v7 =>
  (spec_l01In a_g.Round 0 v7).bind fun v8 =>
  some v8

def spec_l01Figure (a_x : Int) : Option UInt8 :=
 bif (decide (a_x < 10)) then
  some (u8of (wr (48 + a_x)))
 else
  some (u8of (wr ((wr (97 + a_x)) - 10)))

def spec_FormatInt_L1 (s1 : Int × Str) : Option (Res (Int × Str) Empty) :=
 bif (s1.1 != 0) then
  (spec_l01Figure (bif (decide ((s1.1.tmod 10) < 0)) then (wr (0 - (s1.1.tmod 10))) else (s1.1.tmod 10))).bind fun v1 =>
  gd ((⟨([v1] : List UInt8)⟩ : Str).b.length + s1.2.b.length ≤ 1099511627776) <|
  some (.next ((wr (s1.1.tdiv 10)), (sadd (⟨([v1] : List UInt8)⟩ : Str) s1.2)))
 else
  some (.brk (s1.1, s1.2))

def spec_FormatInt (a_n : Int) : Option Str :=
 bif (a_n == 0) then
  some (⟨[48]⟩ : Str)
 else
  (wlO spec_FormatInt_L1 18446744073709551616 (a_n, (⟨[]⟩ : Str))).bind fun e1 =>
  bif (decide (a_n < 0)) then
   gd ((⟨[45]⟩ : Str).b.length + e1.2.b.length ≤ 1099511627776) <|
   some (sadd (⟨[45]⟩ : Str) e1.2)
  else
   some e1.2

def spec_CellText (a_c : GCell) : Option Str :=
 (spec_CellOk a_c).bind fun v1 =>
 bif (!v1) then
  some (⟨[]⟩ : Str)
 else
  bif (a_c.Split == 1) then
   (spec_FormatInt a_c.A).bind fun v2 =>
   gd (v2.b.length + (⟨[47]⟩ : Str).b.length ≤ 1099511627776) <|
   (spec_FormatInt a_c.B).bind fun v3 =>
   gd ((sadd v2 (⟨[47]⟩ : Str)).b.length + v3.b.length ≤ 1099511627776) <|
   some (sadd (sadd v2 (⟨[47]⟩ : Str)) v3)
  else
   bif (a_c.Split == 2) then
    (spec_FormatInt a_c.A).bind fun v4 =>
    gd (v4.b.length + (⟨[92]⟩ : Str).b.length ≤ 1099511627776) <|
    (spec_FormatInt a_c.B).bind fun v5 =>
    gd ((sadd v4 (⟨[92]⟩ : Str)).b.length + v5.b.length ≤ 1099511627776) <|
    some (sadd (sadd v4 (⟨[92]⟩ : Str)) v5)
   else
    (spec_FormatInt a_c.A).bind fun v6 =>
    some v6

def spec_BlockText_L1 (a_b : GBlock) (k1 : Nat) (s1 : Str) : Option (Res Str Empty) :=
 (spec_BlockOk a_b).bind fun v1 =>
 bif v1 then
  (
   bif (decide (((k1 : Nat) : Int) > 0)) then
    gd (a_b.Size ≠ 0) <|
    some ((((k1 : Nat) : Int).tmod a_b.Size) == 0)
   else
    some false).bind fun j1 =>
  (
   bif j1 then
    gd (s1.b.length + (⟨[59]⟩ : Str).b.length ≤ 1099511627776) <|
    some (sadd s1 (⟨[59]⟩ : Str))
   else
    bif (decide (((k1 : Nat) : Int) > 0)) then
     gd (s1.b.length + (⟨[44]⟩ : Str).b.length ≤ 1099511627776) <|
     some (sadd s1 (⟨[44]⟩ : Str))
    else
     some s1).bind fun j2 =>
  (spec_CellText (gx a_b.Cells k1)).bind fun v2 =>
  gd (j2.b.length + v2.b.length ≤ 1099511627776) <|
  some (.next (sadd j2 v2))
 else
  some (.brk s1)

def spec_BlockText (a_b : GBlock) : Option Str :=
 gd (a_b.Cells.length ≤ 4611686018427387904) <|
 (lpO (spec_BlockText_L1 a_b) a_b.Cells.length (⟨[]⟩ : Str)).bind fun e1 =>
 some e1

def spec_FormatGuild_L1 (a_g : GGuild) (k1 : Nat) (s1 : Str) : Option (Res Str Empty) :=
 gd (s1.b.length + (⟨[32]⟩ : Str).b.length ≤ 1099511627776) <|
 (spec_FormatInt ((gx a_g.Members k1).Number)).bind fun v2 =>
 gd ((sadd s1 (⟨[32]⟩ : Str)).b.length + v2.b.length ≤ 1099511627776) <|
 some (.next (sadd (sadd s1 (⟨[32]⟩ : Str)) v2))

def spec_FormatGuild_L2 (a_g : GGuild) (k2 : Nat) (s2 : Str) : Option (Res Str Empty) :=
 gd (s2.b.length + (⟨[32]⟩ : Str).b.length ≤ 1099511627776) <|
 (spec_FormatInt (gx a_g.Stock k2)).bind fun v3 =>
 gd ((sadd s2 (⟨[32]⟩ : Str)).b.length + v3.b.length ≤ 1099511627776) <|
 some (.next (sadd (sadd s2 (⟨[32]⟩ : Str)) v3))

def spec_FormatGuild_L3 (a_g : GGuild) (k3 : Nat) (s3 : List Str) : Option (Res (List Str) Empty) :=
 (spec_FormatInt ((gx a_g.Entries k3).Owner)).bind fun v4 =>
 gd (v4.b.length + (⟨[32]⟩ : Str).b.length ≤ 1099511627776) <|
 (spec_FormatInt ((gx a_g.Entries k3).Day)).bind fun v5 =>
 gd ((sadd v4 (⟨[32]⟩ : Str)).b.length + v5.b.length ≤ 1099511627776) <|
 gd ((sadd (sadd v4 (⟨[32]⟩ : Str)) v5).b.length + (⟨[32]⟩ : Str).b.length ≤ 1099511627776) <|
 (spec_BlockText ((gx a_g.Entries k3).Block)).bind fun v6 =>
 gd ((sadd (sadd (sadd v4 (⟨[32]⟩ : Str)) v5) (⟨[32]⟩ : Str)).b.length + v6.b.length ≤ 1099511627776) <|
 gd (s3.length + 1 ≤ 1099511627776) <|
 some (.next (s3 ++ [(sadd (sadd (sadd (sadd v4 (⟨[32]⟩ : Str)) v5) (⟨[32]⟩ : Str)) v6)]))

def spec_FormatGuild (a_g : GGuild) : Option (List Str) :=
 (spec_GuildOk a_g).bind fun v1 =>
 bif (!v1) then
  some ([] : List Str)
 else
  gd (a_g.Members.length ≤ 4611686018427387904) <|
  (lpO (spec_FormatGuild_L1 a_g) a_g.Members.length (⟨[109, 101, 109, 98, 101, 114, 115]⟩ : Str)).bind fun e1 =>
  gd (a_g.Stock.length ≤ 4611686018427387904) <|
  (lpO (spec_FormatGuild_L2 a_g) a_g.Stock.length (⟨[115, 116, 111, 99, 107]⟩ : Str)).bind fun e2 =>
  gd (a_g.Entries.length ≤ 4611686018427387904) <|
  (lpO (spec_FormatGuild_L3 a_g) a_g.Entries.length ([e1, e2] : List Str)).bind fun e3 =>
  (spec_FormatInt a_g.Round).bind fun v7 =>
  gd ((⟨[114, 111, 117, 110, 100, 32]⟩ : Str).b.length + v7.b.length ≤ 1099511627776) <|
  gd ((sadd (⟨[114, 111, 117, 110, 100, 32]⟩ : Str) v7).b.length + (⟨[47]⟩ : Str).b.length ≤ 1099511627776) <|
  (spec_SwapRounds a_g).bind fun v8 =>
  (spec_FormatInt v8).bind fun v9 =>
  gd ((sadd (sadd (⟨[114, 111, 117, 110, 100, 32]⟩ : Str) v7) (⟨[47]⟩ : Str)).b.length + v9.b.length ≤ 1099511627776) <|
  (spec_FormatInt a_g.Year).bind fun v10 =>
  gd ((⟨[121, 101, 97, 114, 32]⟩ : Str).b.length + v10.b.length ≤ 1099511627776) <|
  gd (e3.length + 2 ≤ 1099511627776) <|
  some (e3 ++ [(sadd (sadd (sadd (⟨[114, 111, 117, 110, 100, 32]⟩ : Str) v7) (⟨[47]⟩ : Str)) v9), (sadd (⟨[121, 101, 97, 114, 32]⟩ : Str) v10)])

def impl_within (a_n : Int) (a_a : Int) (a_b : Int) : Option Bool :=
 some ((decide (a_n ≥ a_a)) && (decide (a_n ≤ a_b)))

def impl_MembersOk_L1 (a_list : List GMember) (k1 : Nat) (_ : Unit) : Option (Res Unit Bool) :=
 (
  (impl_within ((gx a_list k1).Number) 1 999).bind fun v1 =>
  bif (!v1) then
   some true
  else
   bif (decide (((k1 : Nat) : Int) > 0)) then
    gd (0 ≤ (wr (((k1 : Nat) : Int) - 1)) ∧ (wr (((k1 : Nat) : Int) - 1)) < ((a_list.length : Nat) : Int)) <|
    bif (decide ((gx a_list k1).Number ≤ (gx a_list (((wr (((k1 : Nat) : Int) - 1))).toNat)).Number)) then
     some true
    else
     (impl_within ((gx a_list k1).Since) 1900 2999).bind fun v2 =>
     bif (!v2) then
      some true
     else
      (impl_within ((gx a_list k1).Paid) (wr ((gx a_list k1).Since - 1)) 2999).bind fun v3 =>
      some (!v3)
   else
    (impl_within ((gx a_list k1).Since) 1900 2999).bind fun v4 =>
    bif (!v4) then
     some true
    else
     (impl_within ((gx a_list k1).Paid) (wr ((gx a_list k1).Since - 1)) 2999).bind fun v5 =>
     some (!v5)).bind fun j1 =>
 bif j1 then
  some (.ret false)
 else
  some (.next ())

def impl_MembersOk (a_list : List GMember) : Option Bool :=
 gd (a_list.length ≤ 4611686018427387904) <|
 sq (forO (impl_MembersOk_L1 a_list) a_list.length 0 ()) fun _ =>
 some (decide (((a_list.length : Nat) : Int) ≤ 40))

def impl_allWithin_L1 (a_list : List Int) (a_a : Int) (a_b : Int) (k1 : Nat) (_ : Unit) : Option (Res Unit Bool) :=
 (impl_within (gx a_list k1) a_a a_b).bind fun v1 =>
 bif (!v1) then
  some (.ret false)
 else
  some (.next ())

def impl_allWithin (a_list : List Int) (a_a : Int) (a_b : Int) : Option Bool :=
 gd (a_list.length ≤ 4611686018427387904) <|
 sq (forO (impl_allWithin_L1 a_list a_a a_b) a_list.length 0 ()) fun _ =>
 some true

def impl_StockOk (a_stock : List Int) : Option Bool :=
 (
  bif (((a_stock.length : Nat) : Int) == 6) then
   (impl_allWithin a_stock 0 1000000).bind fun v1 =>
   some v1
  else
   some false).bind fun j1 =>
 some j1

def impl_LedgerOk_L1 (a_list : List GBooking) (k1 : Nat) (_ : Unit) : Option (Res Unit Bool) :=
 (
  (impl_within ((gx a_list k1).Day) 0 9999).bind fun v1 =>
  bif (!v1) then
   some true
  else
   bif (decide (((k1 : Nat) : Int) > 0)) then
    gd (0 ≤ (wr (((k1 : Nat) : Int) - 1)) ∧ (wr (((k1 : Nat) : Int) - 1)) < ((a_list.length : Nat) : Int)) <|
    bif (decide ((gx a_list k1).Day < (gx a_list (((wr (((k1 : Nat) : Int) - 1))).toNat)).Day)) then
     some true
    else
     (impl_within ((gx a_list k1).From) 0 4).bind fun v2 =>
     bif (!v2) then
      some true
     else
      (impl_within ((gx a_list k1).To) 0 4).bind fun v3 =>
      bif (!v3) then
       some true
      else
       bif ((gx a_list k1).From == (gx a_list k1).To) then
        some true
       else
        (impl_within ((gx a_list k1).Sum) 1 100000).bind fun v4 =>
        some (!v4)
   else
    (impl_within ((gx a_list k1).From) 0 4).bind fun v5 =>
    bif (!v5) then
     some true
    else
     (impl_within ((gx a_list k1).To) 0 4).bind fun v6 =>
     bif (!v6) then
      some true
     else
      bif ((gx a_list k1).From == (gx a_list k1).To) then
       some true
      else
       (impl_within ((gx a_list k1).Sum) 1 100000).bind fun v7 =>
       some (!v7)).bind fun j1 =>
 bif j1 then
  some (.ret false)
 else
  some (.next ())

def impl_LedgerOk (a_list : List GBooking) : Option Bool :=
 gd (a_list.length ≤ 4611686018427387904) <|
 sq (forO (impl_LedgerOk_L1 a_list) a_list.length 0 ()) fun _ =>
 some (decide (((a_list.length : Nat) : Int) ≤ 60))

def impl_isColor (a_a : Int) : Option Bool :=
 (impl_within a_a 0 5).bind fun v1 =>
 some v1

def impl_CellOk (a_c : GCell) : Option Bool :=
 (
  (impl_within a_c.Split 0 2).bind fun v1 =>
  bif v1 then
   (impl_isColor a_c.A).bind fun v2 =>
   bif v2 then
    (impl_isColor a_c.B).bind fun v3 =>
    bif v3 then
     some ((a_c.Split == 0) == (a_c.A == a_c.B))
    else
     some false
   else
    some false
  else
   some false).bind fun j1 =>
 some j1

def impl_BlockOk_L1 (a_b : GBlock) (k1 : Nat) (_ : Unit) : Option (Res Unit Bool) :=
 (impl_CellOk (gx a_b.Cells k1)).bind fun v2 =>
 bif (!v2) then
  some (.ret false)
 else
  some (.next ())

def impl_BlockOk (a_b : GBlock) : Option Bool :=
 (
  (impl_within a_b.Size 1 4).bind fun v1 =>
  bif (!v1) then
   some true
  else
   some (((a_b.Cells.length : Nat) : Int) != (wr (a_b.Size * a_b.Size)))).bind fun j1 =>
 bif j1 then
  some false
 else
  gd (a_b.Cells.length ≤ 4611686018427387904) <|
  sq (forO (impl_BlockOk_L1 a_b) a_b.Cells.length 0 ()) fun _ =>
  some true

def impl_EntryOk (a_e : GEntry) : Option Bool :=
 (
  (impl_within a_e.Owner 0 99).bind fun v1 =>
  bif v1 then
   (impl_within a_e.Day 0 9999).bind fun v2 =>
   bif v2 then
    (impl_BlockOk a_e.Block).bind fun v3 =>
    some v3
   else
    some false
  else
   some false).bind fun j1 =>
 some j1

def impl_isMember_L1 (a_list : List GMember) (a_number : Int) (k1 : Nat) (_ : Unit) : Option (Res Unit Bool) :=
 bif ((gx a_list k1).Number == a_number) then
  some (.ret true)
 else
  some (.next ())

def impl_isMember (a_list : List GMember) (a_number : Int) : Option Bool :=
 gd (a_list.length ≤ 4611686018427387904) <|
 sq (forO (impl_isMember_L1 a_list a_number) a_list.length 0 ()) fun _ =>
 some false

def impl_GoodStanding_L1 (a_list : List GMember) (a_year : Int) (k1 : Nat) (s1 : List Int) : Option (Res (List Int) Empty) :=
 (
  bif (decide ((gx a_list k1).Paid ≥ a_year)) then
   gd (s1.length + 1 ≤ 1099511627776) <|
   some (s1 ++ [(gx a_list k1).Number])
  else
   some s1).bind fun j1 =>
 some (.next j1)

def impl_GoodStanding (a_list : List GMember) (a_year : Int) : Option (List Int) :=
 (impl_MembersOk a_list).bind fun v1 =>
 bif (!v1) then
  some ([] : List Int)
 else
  gd (a_list.length ≤ 4611686018427387904) <|
  (lpO (impl_GoodStanding_L1 a_list a_year) a_list.length ([] : List Int)).bind fun e1 =>
  some e1

def impl_SwapRounds (a_g : GGuild) : Option Int :=
 (impl_GoodStanding a_g.Members a_g.Year).bind fun v1 =>
 (impl_within ((v1.length : Nat) : Int) 2 10).bind fun v2 =>
 bif v2 then
  some (wr (((v1.length : Nat) : Int) - 1))
 else
  some 0

def impl_GuildOk_L1 (a_g : GGuild) (k1 : Nat) (_ : Unit) : Option (Res Unit Bool) :=
 (
  (impl_EntryOk (GEntry.mk ((gx a_g.Entries k1).Owner) ((gx a_g.Entries k1).Day) ((gx a_g.Entries k1).Block))).bind fun v4 =>
  bif (!v4) then
   some true
  else
   (impl_isMember a_g.Members ((gx a_g.Entries k1).Owner)).bind fun v5 =>
   bif (!v5) then
    some true
   else
    bif (decide (((k1 : Nat) : Int) > 0)) then
     gd (0 ≤ (wr (((k1 : Nat) : Int) - 1)) ∧ (wr (((k1 : Nat) : Int) - 1)) < ((a_g.Entries.length : Nat) : Int)) <|
     some (decide ((gx a_g.Entries k1).Day < (gx a_g.Entries (((wr (((k1 : Nat) : Int) - 1))).toNat)).Day))
    else
     some false).bind fun j2 =>
 bif j2 then
  some (.ret false)
 else
  some (.next ())

def impl_GuildOk (a_g : GGuild) : Option Bool :=
 (
  (impl_MembersOk a_g.Members).bind fun v1 =>
  bif (!v1) then
   some true
  else
   (impl_StockOk a_g.Stock).bind fun v2 =>
   bif (!v2) then
    some true
   else
    (impl_LedgerOk a_g.Books).bind fun v3 =>
    bif (!v3) then
     some true
    else
     some (decide (((a_g.Entries.length : Nat) : Int) > 10))).bind fun j1 =>
 bif j1 then
  some false
 else
  gd (a_g.Entries.length ≤ 4611686018427387904) <|
  sq (forO (impl_GuildOk_L1 a_g) a_g.Entries.length 0 ()) fun _ =>
  (
   (impl_within a_g.Year 1900 2999).bind fun v6 =>
   bif v6 then
    (impl_SwapRounds a_g).bind fun v7 =>
    (impl_within a_g.Round 0 v7).bind fun v8 =>
    some v8
   else
    some false).bind fun j3 =>
  some j3

def strconv_Itoa (a_i : Int) : Option Str :=
 gd (0 ≤ a_i ∧ a_i < 10) <|
 some (⟨[UInt8.ofNat (48 + a_i.toNat)]⟩ : Str)

def strconv_Itoa_b (a_i : Int) : Option Str :=
 gd (-9223372036854775808 ≤ a_i ∧ a_i ≤ 9223372036854775807) <|
 some (⟨Lib.itoa a_i⟩ : Str)

def impl_FormatInt (a_n : Int) : Option Str :=
 (strconv_Itoa a_n).bind fun v1 =>
 some v1

def impl_FormatInt_b (a_n : Int) : Option Str :=
 (strconv_Itoa_b a_n).bind fun v1 =>
 some v1

def strings_Join (a_elems : List Str) (a_sep : Str) : Option Str :=
 gd (a_elems.length ≤ 140737488355328 ∧ (Lib.join (a_elems.map Str.b) a_sep.b).length ≤ 140737488355328) <|
 some (⟨Lib.join (a_elems.map Str.b) a_sep.b⟩ : Str)

def impl_lineOf_L1 (a_list : List Int) (k1 : Nat) (s1 : List Str) : Option (Res (List Str) Empty) :=
 (impl_FormatInt_b (gx a_list k1)).bind fun v1 =>
 gd (s1.length + 1 ≤ 1099511627776) <|
 some (.next (s1 ++ [v1]))

def impl_lineOf (a_word : Str) (a_list : List Int) : Option Str :=
 gd (a_list.length ≤ 4611686018427387904) <|
 (lpO (impl_lineOf_L1 a_list) a_list.length ([a_word] : List Str)).bind fun e1 =>
 (strings_Join e1 (⟨[32]⟩ : Str)).bind fun v2 =>
 some v2

def impl_Block_isPlace (a_b : GBlock) (a_x : Int) (a_y : Int) : Option Bool :=
 (
  (impl_BlockOk a_b).bind fun v1 =>
  bif v1 then
   (impl_within a_x 0 (wr (a_b.Size - 1))).bind fun v2 =>
   bif v2 then
    (impl_within a_y 0 (wr (a_b.Size - 1))).bind fun v3 =>
    some v3
   else
    some false
  else
   some false).bind fun j1 =>
 some j1

def impl_CellAt (a_b : GBlock) (a_x : Int) (a_y : Int) : Option GCell :=
 (impl_Block_isPlace a_b a_x a_y).bind fun v1 =>
 bif (!v1) then
  some (GCell.mk 0 0 0)
 else
  gd (0 ≤ (wr ((wr (a_y * a_b.Size)) + a_x)) ∧ (wr ((wr (a_y * a_b.Size)) + a_x)) < ((a_b.Cells.length : Nat) : Int)) <|
  some (gx a_b.Cells (((wr ((wr (a_y * a_b.Size)) + a_x))).toNat))

def impl_CellText (a_c : GCell) : Option Str :=
 (impl_CellOk a_c).bind fun v1 =>
 bif (!v1) then
  some (⟨[]⟩ : Str)
 else
  gd (0 ≤ a_c.Split ∧ a_c.Split < ((([(⟨[]⟩ : Str), (⟨[47]⟩ : Str), (⟨[92]⟩ : Str)] : List Str).length : Nat) : Int)) <|
  bif (seq (gx ([(⟨[]⟩ : Str), (⟨[47]⟩ : Str), (⟨[92]⟩ : Str)] : List Str) ((a_c.Split).toNat)) (⟨[]⟩ : Str)) then
   (impl_FormatInt a_c.A).bind fun v2 =>
   some v2
  else
   (impl_FormatInt a_c.A).bind fun v3 =>
   gd (v3.b.length + (gx ([(⟨[]⟩ : Str), (⟨[47]⟩ : Str), (⟨[92]⟩ : Str)] : List Str) ((a_c.Split).toNat)).b.length ≤ 1099511627776) <|
   (impl_FormatInt a_c.B).bind fun v4 =>
   gd ((sadd v3 (gx ([(⟨[]⟩ : Str), (⟨[47]⟩ : Str), (⟨[92]⟩ : Str)] : List Str) ((a_c.Split).toNat))).b.length + v4.b.length ≤ 1099511627776) <|
   some (sadd (sadd v3 (gx ([(⟨[]⟩ : Str), (⟨[47]⟩ : Str), (⟨[92]⟩ : Str)] : List Str) ((a_c.Split).toNat))) v4)

def impl_BlockText_L2 (a_b : GBlock) (k1 : Nat) (k2 : Nat) (s2 : List Str) : Option (Res (List Str) Empty) :=
 (impl_CellAt a_b ((k2 : Nat) : Int) ((k1 : Nat) : Int)).bind fun v2 =>
 (impl_CellText v2).bind fun v3 =>
 gd (s2.length + 1 ≤ 1099511627776) <|
 some (.next (s2 ++ [v3]))

def impl_BlockText_L1 (a_b : GBlock) (k1 : Nat) (s1 : List Str) : Option (Res (List Str) Empty) :=
 (lpO (impl_BlockText_L2 a_b k1) ((a_b.Size).toNat) ([] : List Str)).bind fun e2 =>
 (strings_Join e2 (⟨[44]⟩ : Str)).bind fun v4 =>
 gd (s1.length + 1 ≤ 1099511627776) <|
 some (.next (s1 ++ [v4]))

def impl_BlockText (a_b : GBlock) : Option Str :=
 (impl_BlockOk a_b).bind fun v1 =>
 bif (!v1) then
  some (⟨[]⟩ : Str)
 else
  gd ((a_b.Size).toNat ≤ 4611686018427387904) <|
  (lpO (impl_BlockText_L1 a_b) ((a_b.Size).toNat) ([] : List Str)).bind fun e1 =>
  (strings_Join e1 (⟨[59]⟩ : Str)).bind fun v5 =>
  some v5

def impl_FormatGuild_L1 (a_g : GGuild) (k1 : Nat) (s1 : List Int) : Option (Res (List Int) Empty) :=
 gd (s1.length + 1 ≤ 1099511627776) <|
 some (.next (s1 ++ [(gx a_g.Members k1).Number]))

def impl_FormatGuild_L2 (a_g : GGuild) (k2 : Nat) (s2 : List Str) : Option (Res (List Str) Empty) :=
 (impl_FormatInt_b ((gx a_g.Entries k2).Owner)).bind fun v4 =>
 gd (v4.b.length + (⟨[32]⟩ : Str).b.length ≤ 1099511627776) <|
 (impl_FormatInt_b ((gx a_g.Entries k2).Day)).bind fun v5 =>
 gd ((sadd v4 (⟨[32]⟩ : Str)).b.length + v5.b.length ≤ 1099511627776) <|
 gd ((sadd (sadd v4 (⟨[32]⟩ : Str)) v5).b.length + (⟨[32]⟩ : Str).b.length ≤ 1099511627776) <|
 (impl_BlockText ((gx a_g.Entries k2).Block)).bind fun v6 =>
 gd ((sadd (sadd (sadd v4 (⟨[32]⟩ : Str)) v5) (⟨[32]⟩ : Str)).b.length + v6.b.length ≤ 1099511627776) <|
 gd (s2.length + 1 ≤ 1099511627776) <|
 some (.next (s2 ++ [(sadd (sadd (sadd (sadd v4 (⟨[32]⟩ : Str)) v5) (⟨[32]⟩ : Str)) v6)]))

def impl_FormatGuild (a_g : GGuild) : Option (List Str) :=
 (impl_GuildOk a_g).bind fun v1 =>
 bif (!v1) then
  some ([] : List Str)
 else
  gd (a_g.Members.length ≤ 4611686018427387904) <|
  (lpO (impl_FormatGuild_L1 a_g) a_g.Members.length ([] : List Int)).bind fun e1 =>
  (impl_lineOf (⟨[109, 101, 109, 98, 101, 114, 115]⟩ : Str) e1).bind fun v2 =>
  (impl_lineOf (⟨[115, 116, 111, 99, 107]⟩ : Str) a_g.Stock).bind fun v3 =>
  gd (a_g.Entries.length ≤ 4611686018427387904) <|
  (lpO (impl_FormatGuild_L2 a_g) a_g.Entries.length ([v2, v3] : List Str)).bind fun e2 =>
  (impl_FormatInt_b a_g.Round).bind fun v7 =>
  gd ((⟨[114, 111, 117, 110, 100, 32]⟩ : Str).b.length + v7.b.length ≤ 1099511627776) <|
  gd ((sadd (⟨[114, 111, 117, 110, 100, 32]⟩ : Str) v7).b.length + (⟨[47]⟩ : Str).b.length ≤ 1099511627776) <|
  (impl_SwapRounds a_g).bind fun v8 =>
  (impl_FormatInt_b v8).bind fun v9 =>
  gd ((sadd (sadd (⟨[114, 111, 117, 110, 100, 32]⟩ : Str) v7) (⟨[47]⟩ : Str)).b.length + v9.b.length ≤ 1099511627776) <|
  (impl_lineOf (⟨[121, 101, 97, 114]⟩ : Str) ([a_g.Year] : List Int)).bind fun v10 =>
  gd (e2.length + 2 ≤ 1099511627776) <|
  some (e2 ++ [(sadd (sadd (sadd (⟨[114, 111, 117, 110, 100, 32]⟩ : Str) v7) (⟨[47]⟩ : Str)) v9), v10])

def laws_eqStringS_L1 (a_a : List Str) (a_b : List Str) (k1 : Nat) (_ : Unit) : Option (Res Unit Bool) :=
 gd (k1 < a_b.length) <|
 bif (!(seq (gx a_a k1) (gx a_b k1))) then
  some (.ret false)
 else
  some (.next ())

def laws_eqStringS (a_a : List Str) (a_b : List Str) : Option Bool :=
 bif (((a_a.length : Nat) : Int) != ((a_b.length : Nat) : Int)) then
  some false
 else
  gd (a_a.length ≤ 4611686018427387904) <|
  sq (forO (laws_eqStringS_L1 a_a a_b) a_a.length 0 ()) fun _ =>
  some true

def laws_eqMember (a_a : GMember) (a_b : GMember) : Option Bool :=
 bif (a_a.Number != a_b.Number) then
  some false
 else
  bif (a_a.Since != a_b.Since) then
   some false
  else
   bif (a_a.Paid != a_b.Paid) then
    some false
   else
    some true

def laws_eqMemberS_L1 (a_a : List GMember) (a_b : List GMember) (k1 : Nat) (_ : Unit) : Option (Res Unit Bool) :=
 gd (k1 < a_b.length) <|
 (laws_eqMember (gx a_a k1) (gx a_b k1)).bind fun v1 =>
 bif (!v1) then
  some (.ret false)
 else
  some (.next ())

def laws_eqMemberS (a_a : List GMember) (a_b : List GMember) : Option Bool :=
 bif (((a_a.length : Nat) : Int) != ((a_b.length : Nat) : Int)) then
  some false
 else
  gd (a_a.length ≤ 4611686018427387904) <|
  sq (forO (laws_eqMemberS_L1 a_a a_b) a_a.length 0 ()) fun _ =>
  some true

def laws_eqIntS_L1 (a_a : List Int) (a_b : List Int) (k1 : Nat) (_ : Unit) : Option (Res Unit Bool) :=
 gd (k1 < a_b.length) <|
 bif ((gx a_a k1) != (gx a_b k1)) then
  some (.ret false)
 else
  some (.next ())

def laws_eqIntS (a_a : List Int) (a_b : List Int) : Option Bool :=
 bif (((a_a.length : Nat) : Int) != ((a_b.length : Nat) : Int)) then
  some false
 else
  gd (a_a.length ≤ 4611686018427387904) <|
  sq (forO (laws_eqIntS_L1 a_a a_b) a_a.length 0 ()) fun _ =>
  some true

def laws_eqCell (a_a : GCell) (a_b : GCell) : Option Bool :=
 bif (a_a.Split != a_b.Split) then
  some false
 else
  bif (a_a.A != a_b.A) then
   some false
  else
   bif (a_a.B != a_b.B) then
    some false
   else
    some true

def laws_eqCellS_L1 (a_a : List GCell) (a_b : List GCell) (k1 : Nat) (_ : Unit) : Option (Res Unit Bool) :=
 gd (k1 < a_b.length) <|
 (laws_eqCell (gx a_a k1) (gx a_b k1)).bind fun v1 =>
 bif (!v1) then
  some (.ret false)
 else
  some (.next ())

def laws_eqCellS (a_a : List GCell) (a_b : List GCell) : Option Bool :=
 bif (((a_a.length : Nat) : Int) != ((a_b.length : Nat) : Int)) then
  some false
 else
  gd (a_a.length ≤ 4611686018427387904) <|
  sq (forO (laws_eqCellS_L1 a_a a_b) a_a.length 0 ()) fun _ =>
  some true

def laws_eqBlock (a_a : GBlock) (a_b : GBlock) : Option Bool :=
 bif (a_a.Size != a_b.Size) then
  some false
 else
  (laws_eqCellS a_a.Cells a_b.Cells).bind fun v1 =>
  bif (!v1) then
   some false
  else
   some true

def laws_eqEntry (a_a : GEntry) (a_b : GEntry) : Option Bool :=
 bif (a_a.Owner != a_b.Owner) then
  some false
 else
  bif (a_a.Day != a_b.Day) then
   some false
  else
   (laws_eqBlock a_a.Block a_b.Block).bind fun v1 =>
   bif (!v1) then
    some false
   else
    some true

def laws_eqEntryS_L1 (a_a : List GEntry) (a_b : List GEntry) (k1 : Nat) (_ : Unit) : Option (Res Unit Bool) :=
 gd (k1 < a_b.length) <|
 (laws_eqEntry (gx a_a k1) (gx a_b k1)).bind fun v1 =>
 bif (!v1) then
  some (.ret false)
 else
  some (.next ())

def laws_eqEntryS (a_a : List GEntry) (a_b : List GEntry) : Option Bool :=
 bif (((a_a.length : Nat) : Int) != ((a_b.length : Nat) : Int)) then
  some false
 else
  gd (a_a.length ≤ 4611686018427387904) <|
  sq (forO (laws_eqEntryS_L1 a_a a_b) a_a.length 0 ()) fun _ =>
  some true

def laws_eqBooking (a_a : GBooking) (a_b : GBooking) : Option Bool :=
 bif (a_a.Day != a_b.Day) then
  some false
 else
  bif (a_a.From != a_b.From) then
   some false
  else
   bif (a_a.To != a_b.To) then
    some false
   else
    bif (a_a.Sum != a_b.Sum) then
     some false
    else
     some true

def laws_eqBookingS_L1 (a_a : List GBooking) (a_b : List GBooking) (k1 : Nat) (_ : Unit) : Option (Res Unit Bool) :=
 gd (k1 < a_b.length) <|
 (laws_eqBooking (gx a_a k1) (gx a_b k1)).bind fun v1 =>
 bif (!v1) then
  some (.ret false)
 else
  some (.next ())

def laws_eqBookingS (a_a : List GBooking) (a_b : List GBooking) : Option Bool :=
 bif (((a_a.length : Nat) : Int) != ((a_b.length : Nat) : Int)) then
  some false
 else
  gd (a_a.length ≤ 4611686018427387904) <|
  sq (forO (laws_eqBookingS_L1 a_a a_b) a_a.length 0 ()) fun _ =>
  some true

def laws_eqGuild (a_a : GGuild) (a_b : GGuild) : Option Bool :=
 (laws_eqMemberS a_a.Members a_b.Members).bind fun v1 =>
 bif (!v1) then
  some false
 else
  (laws_eqIntS a_a.Stock a_b.Stock).bind fun v2 =>
  bif (!v2) then
   some false
  else
   (laws_eqEntryS a_a.Entries a_b.Entries).bind fun v3 =>
   bif (!v3) then
    some false
   else
    (laws_eqBookingS a_a.Books a_b.Books).bind fun v4 =>
    bif (!v4) then
     some false
    else
     bif (a_a.Round != a_b.Round) then
      some false
     else
      bif (a_a.Year != a_b.Year) then
       some false
      else
       some true

def laws_markMemberS_L1 (k1 : Nat) (s1 : (List GMember) × Int) : Option (Res ((List GMember) × Int) Empty) :=
 some (.next ((s1.1.set k1 (GMember.mk s1.2 (wr (s1.2 + 1)) (wr ((wr (s1.2 + 1)) + 1)))), (wr ((wr ((wr (s1.2 + 1)) + 1)) + 1))))

def laws_markMemberS (a_a : List GMember) (a_k : Int) : Option (Int × (List GMember)) :=
 gd (a_a.length ≤ 4611686018427387904) <|
 (lpO laws_markMemberS_L1 a_a.length (a_a, a_k)).bind fun e1 =>
 some (e1.2, e1.1)

def laws_markIntS_L1 (k1 : Nat) (s1 : (List Int) × Int) : Option (Res ((List Int) × Int) Empty) :=
 some (.next ((s1.1.set k1 s1.2), (wr (s1.2 + 1))))

def laws_markIntS (a_a : List Int) (a_k : Int) : Option (Int × (List Int)) :=
 gd (a_a.length ≤ 4611686018427387904) <|
 (lpO laws_markIntS_L1 a_a.length (a_a, a_k)).bind fun e1 =>
 some (e1.2, e1.1)

def laws_markCellS_L1 (k1 : Nat) (s1 : (List GCell) × Int) : Option (Res ((List GCell) × Int) Empty) :=
 some (.next ((s1.1.set k1 (GCell.mk s1.2 (wr (s1.2 + 1)) (wr ((wr (s1.2 + 1)) + 1)))), (wr ((wr ((wr (s1.2 + 1)) + 1)) + 1))))

def laws_markCellS (a_a : List GCell) (a_k : Int) : Option (Int × (List GCell)) :=
 gd (a_a.length ≤ 4611686018427387904) <|
 (lpO laws_markCellS_L1 a_a.length (a_a, a_k)).bind fun e1 =>
 some (e1.2, e1.1)

def laws_markEntryS_L1 (k1 : Nat) (s1 : (List GEntry) × Int) : Option (Res ((List GEntry) × Int) Empty) :=
 (laws_markCellS (((gx s1.1 k1).Block).Cells) (wr ((wr ((wr (s1.2 + 1)) + 1)) + 1))).bind fun v1 =>
 some (.next ((s1.1.set k1 (GEntry.mk s1.2 (wr (s1.2 + 1)) (GBlock.mk (wr ((wr (s1.2 + 1)) + 1)) v1.2))), v1.1))

def laws_markEntryS (a_a : List GEntry) (a_k : Int) : Option (Int × (List GEntry)) :=
 gd (a_a.length ≤ 4611686018427387904) <|
 (lpO laws_markEntryS_L1 a_a.length (a_a, a_k)).bind fun e1 =>
 some (e1.2, e1.1)

def laws_markBookingS_L1 (k1 : Nat) (s1 : (List GBooking) × Int) : Option (Res ((List GBooking) × Int) Empty) :=
 some (.next ((s1.1.set k1 (GBooking.mk s1.2 (wr (s1.2 + 1)) (wr ((wr (s1.2 + 1)) + 1)) (wr ((wr ((wr (s1.2 + 1)) + 1)) + 1)))), (wr ((wr ((wr ((wr (s1.2 + 1)) + 1)) + 1)) + 1))))

def laws_markBookingS (a_a : List GBooking) (a_k : Int) : Option (Int × (List GBooking)) :=
 gd (a_a.length ≤ 4611686018427387904) <|
 (lpO laws_markBookingS_L1 a_a.length (a_a, a_k)).bind fun e1 =>
 some (e1.2, e1.1)

def laws_markGuild (a_a : GGuild) (a_k : Int) : Option (Int × (List GMember) × (List Int) × (List GEntry) × (List GBooking)) :=
 (laws_markMemberS a_a.Members a_k).bind fun v1 =>
 (laws_markIntS a_a.Stock v1.1).bind fun v2 =>
 (laws_markEntryS a_a.Entries v2.1).bind fun v3 =>
 (laws_markBookingS a_a.Books v3.1).bind fun v4 =>
 some (v4.1, v1.2, v2.2, v3.2, v4.2)

def laws_markText_L1 (s1 : Int × Str) : Option (Res (Int × Str) Empty) :=
 bif (decide (s1.1 > 0)) then
  gd ((⟨([(u8of (wr (48 + (s1.1.tmod 10))))] : List UInt8)⟩ : Str).b.length + s1.2.b.length ≤ 1099511627776) <|
  some (.next ((wr (s1.1.tdiv 10)), (sadd (⟨([(u8of (wr (48 + (s1.1.tmod 10))))] : List UInt8)⟩ : Str) s1.2)))
 else
  some (.brk (s1.1, s1.2))

def laws_markText (a_k : Int) : Option Str :=
 bif (decide (a_k ≤ 0)) then
  some (⟨[109, 48]⟩ : Str)
 else
  (wlO laws_markText_L1 18446744073709551616 (a_k, (⟨[]⟩ : Str))).bind fun e1 =>
  gd ((⟨[109]⟩ : Str).b.length + e1.2.b.length ≤ 1099511627776) <|
  some (sadd (⟨[109]⟩ : Str) e1.2)

def laws_markStringS_L1 (k1 : Nat) (s1 : (List Str) × Int) : Option (Res ((List Str) × Int) Empty) :=
 (laws_markText s1.2).bind fun v1 =>
 some (.next ((s1.1.set k1 v1), (wr (s1.2 + 1))))

def laws_markStringS (a_a : List Str) (a_k : Int) : Option (Int × (List Str)) :=
 gd (a_a.length ≤ 4611686018427387904) <|
 (lpO laws_markStringS_L1 a_a.length (a_a, a_k)).bind fun e1 =>
 some (e1.2, e1.1)

def laws_heldStringS_L1 (a_a : List Str) (k1 : Nat) (s1 : Int) : Option (Res Int Int) :=
 (laws_markText s1).bind fun v1 =>
 bif (!(seq (gx a_a k1) v1)) then
  some (.ret (-1))
 else
  some (.next (wr (s1 + 1)))

def laws_heldStringS (a_a : List Str) (a_k : Int) : Option Int :=
 gd (a_a.length ≤ 4611686018427387904) <|
 sq (forO (laws_heldStringS_L1 a_a) a_a.length 0 a_k) fun e1 =>
 some e1

def laws_FnExactFormatGuild (a_aG : GGuild) : Option Bool :=
 (laws_szGuild a_aG 1048576).bind fun v1 =>
 bif (decide (v1 < 0)) then
  some true
 else
  (laws_toGuild a_aG).bind fun v2 =>
  (spec_FormatGuild v2).bind fun v3 =>
  (laws_toGuild a_aG).bind fun v4 =>
  (impl_FormatGuild v4).bind fun v5 =>
  (laws_eqStringS v5 v3).bind fun v6 =>
  bif (!v6) then
   some false
  else
   (laws_toGuild a_aG).bind fun v7 =>
   (laws_eqGuild v4 v7).bind fun v8 =>
   bif (!v8) then
    some false
   else
    (laws_markGuild v4 1).bind fun v9 =>
    (
     bif (decide (v9.1 < 0)) then
      some true
     else
      (laws_eqStringS v5 v3).bind fun v10 =>
      some (!v10)).bind fun j1 =>
    bif j1 then
     some false
    else
     (laws_markStringS v5 1).bind fun v11 =>
     (laws_heldStringS v11.2 1).bind fun v12 =>
     bif (decide (v12 < 0)) then
      some false
     else
      bif (v12 != v11.1) then
       some false
      else
       (laws_toGuild a_aG).bind fun v13 =>
       (impl_FormatGuild v13).bind fun v14 =>
       (laws_eqStringS v14 v3).bind fun v15 =>
       bif (!v15) then
        some false
       else
        (laws_heldStringS v11.2 1).bind fun v16 =>
        bif (decide (v16 < 0)) then
         some false
        else
         bif (v16 != v11.1) then
          some false
         else
          some true

end Go.Proofs.YtkahnmhkfmjomacGreatDoor
