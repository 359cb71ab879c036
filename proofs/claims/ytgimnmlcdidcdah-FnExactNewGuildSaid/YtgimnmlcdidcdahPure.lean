/-
  What the functions compute, as Lean functions.
-/
import Derived.Test.YtgimnmlcdidcdahTypes
namespace Go.Proofs.Ytgimnmlcdidcdah
open Go Go.RowKit

def spec_l01In (a_x : Int) (a_least : Int) (a_most : Int) : Option Bool :=
  some ((decide (a_x ≥ a_least)) && (decide (a_x ≤ a_most)))

def spec_MembersOk_L1 (a_list : List GMember) (k1 : Nat) (_ : Unit) : Option (Res Unit Bool) :=
  (
    (spec_l01In ((gx a_list k1).Number) 1 999).bind fun v1 =>
    bif (!v1) then
      some true
    else
      (spec_l01In ((gx a_list k1).Since) 1900 2999).bind fun v2 =>
      bif (!v2) then
        some true
      else
        (spec_l01In ((gx a_list k1).Paid) (wr ((gx a_list k1).Since - 1)) 2999).bind fun v3 =>
        bif (!v3) then
          some true
        else
          bif (decide (((k1 : Nat) : Int) > 0)) then
            gd (0 ≤ (wr (((k1 : Nat) : Int) - 1)) ∧ (wr (((k1 : Nat) : Int) - 1)) < ((a_list.length : Nat) : Int)) <|
            some (decide ((gx a_list k1).Number ≤ (gx a_list (((wr (((k1 : Nat) : Int) - 1))).toNat)).Number))
          else
            some false).bind fun j1 =>
  bif j1 then
    some (.ret false)
  else
    some (.next ())

def spec_MembersOk (a_list : List GMember) : Option Bool :=
  gd (a_list.length ≤ 4611686018427387904) <|
  sq (forO (spec_MembersOk_L1 a_list) a_list.length 0 ()) fun _ =>
  some (decide (((a_list.length : Nat) : Int) ≤ 40))

def spec_StockOk_L1 (a_stock : List Int) (k1 : Nat) (_ : Unit) : Option (Res Unit Bool) :=
  (spec_l01In (gx a_stock k1) 0 1000000).bind fun v1 =>
  bif (!v1) then
    some (.ret false)
  else
    some (.next ())

def spec_StockOk (a_stock : List Int) : Option Bool :=
  gd (a_stock.length ≤ 4611686018427387904) <|
  sq (forO (spec_StockOk_L1 a_stock) a_stock.length 0 ()) fun _ =>
  some (((a_stock.length : Nat) : Int) == 6)

def spec_LedgerOk_L1 (a_list : List GBooking) (k1 : Nat) (_ : Unit) : Option (Res Unit Bool) :=
  (
    (spec_l01In ((gx a_list k1).Day) 0 9999).bind fun v1 =>
    bif (!v1) then
      some true
    else
      (spec_l01In ((gx a_list k1).From) 0 4).bind fun v2 =>
      bif (!v2) then
        some true
      else
        (spec_l01In ((gx a_list k1).To) 0 4).bind fun v3 =>
        bif (!v3) then
          some true
        else
          bif ((gx a_list k1).From == (gx a_list k1).To) then
            some true
          else
            (spec_l01In ((gx a_list k1).Sum) 1 100000).bind fun v4 =>
            bif (!v4) then
              some true
            else
              bif (decide (((k1 : Nat) : Int) > 0)) then
                gd (0 ≤ (wr (((k1 : Nat) : Int) - 1)) ∧ (wr (((k1 : Nat) : Int) - 1)) < ((a_list.length : Nat) : Int)) <|
                some (decide ((gx a_list k1).Day < (gx a_list (((wr (((k1 : Nat) : Int) - 1))).toNat)).Day))
              else
                some false).bind fun j1 =>
  bif j1 then
    some (.ret false)
  else
    some (.next ())

def spec_LedgerOk (a_list : List GBooking) : Option Bool :=
  gd (a_list.length ≤ 4611686018427387904) <|
  sq (forO (spec_LedgerOk_L1 a_list) a_list.length 0 ()) fun _ =>
  some (decide (((a_list.length : Nat) : Int) ≤ 60))

def spec_CellOk (a_c : GCell) : Option Bool :=
  (
    (spec_l01In a_c.Split 0 2).bind fun v1 =>
    bif (!v1) then
      some true
    else
      (spec_l01In a_c.A 0 5).bind fun v2 =>
      bif (!v2) then
        some true
      else
        (spec_l01In a_c.B 0 5).bind fun v3 =>
        some (!v3)).bind fun j1 =>
  bif j1 then
    some false
  else
    some ((a_c.Split == 0) == (a_c.A == a_c.B))

def spec_BlockOk_L1 (a_b : GBlock) (k1 : Nat) (_ : Unit) : Option (Res Unit Bool) :=
  (spec_CellOk (gx a_b.Cells k1)).bind fun v2 =>
  bif (!v2) then
    some (.ret false)
  else
    some (.next ())

def spec_BlockOk (a_b : GBlock) : Option Bool :=
  (
    (spec_l01In a_b.Size 1 4).bind fun v1 =>
    bif (!v1) then
      some true
    else
      some (((a_b.Cells.length : Nat) : Int) != (wr (a_b.Size * a_b.Size)))).bind fun j1 =>
  bif j1 then
    some false
  else
    gd (a_b.Cells.length ≤ 4611686018427387904) <|
    sq (forO (spec_BlockOk_L1 a_b) a_b.Cells.length 0 ()) fun _ =>
    some true

def spec_EntryOk (a_e : GEntry) : Option Bool :=
  (
    (spec_l01In a_e.Owner 0 99).bind fun v1 =>
    bif v1 then
      (spec_l01In a_e.Day 0 9999).bind fun v2 =>
      bif v2 then
        (spec_BlockOk a_e.Block).bind fun v3 =>
        some v3
      else
        some false
    else
      some false).bind fun j1 =>
  some j1

def spec_l38Member_L1 (a_list : List GMember) (a_number : Int) (k1 : Nat) (_ : Unit) : Option (Res Unit Bool) :=
  bif ((gx a_list k1).Number == a_number) then
    some (.ret true)
  else
    some (.next ())

def spec_l38Member (a_list : List GMember) (a_number : Int) : Option Bool :=
  gd (a_list.length ≤ 4611686018427387904) <|
  sq (forO (spec_l38Member_L1 a_list a_number) a_list.length 0 ()) fun _ =>
  some false

def spec_GoodStanding_L1 (a_list : List GMember) (a_year : Int) (k1 : Nat) (s1 : List Int) : Option (Res (List Int) Empty) :=
  (spec_MembersOk a_list).bind fun v1 =>
  bif v1 then
    (
      bif (decide ((gx a_list k1).Paid ≥ a_year)) then
        gd (s1.length + 1 ≤ 1099511627776) <|
        some (s1 ++ [(gx a_list k1).Number])
      else
        some s1).bind fun j1 =>
    some (.next j1)
  else
    some (.brk s1)

def spec_GoodStanding (a_list : List GMember) (a_year : Int) : Option (List Int) :=
  gd (a_list.length ≤ 4611686018427387904) <|
  (lpO (spec_GoodStanding_L1 a_list a_year) a_list.length ([] : List Int)).bind fun e1 =>
  some e1

def spec_SwapRounds (a_g : GGuild) : Option Int :=
  (spec_GoodStanding a_g.Members a_g.Year).bind fun v1 =>
  (spec_l01In ((v1.length : Nat) : Int) 2 10).bind fun v2 =>
  bif (!v2) then
    some 0
  else
    some (wr (((v1.length : Nat) : Int) - 1))

def spec_GuildOk_L1 (a_g : GGuild) (k1 : Nat) (_ : Unit) : Option (Res Unit Bool) :=
  (
    (spec_EntryOk (GEntry.mk ((gx a_g.Entries k1).Owner) ((gx a_g.Entries k1).Day) ((gx a_g.Entries k1).Block))).bind fun v5 =>
    bif (!v5) then
      some true
    else
      (spec_l38Member a_g.Members ((gx a_g.Entries k1).Owner)).bind fun v6 =>
      bif (!v6) then
        some true
      else
        bif (decide (((k1 : Nat) : Int) > 0)) then
          gd (0 ≤ (wr (((k1 : Nat) : Int) - 1)) ∧ (wr (((k1 : Nat) : Int) - 1)) < ((a_g.Entries.length : Nat) : Int)) <|
          some (decide ((gx a_g.Entries k1).Day < (gx a_g.Entries (((wr (((k1 : Nat) : Int) - 1))).toNat)).Day))
        else
          some false).bind fun j2 =>
  bif j2 then
    some (.ret false)
  else
    some (.next ())

def spec_GuildOk (a_g : GGuild) : Option Bool :=
  (
    (spec_MembersOk a_g.Members).bind fun v1 =>
    bif (!v1) then
      some true
    else
      (spec_StockOk a_g.Stock).bind fun v2 =>
      bif (!v2) then
        some true
      else
        (spec_LedgerOk a_g.Books).bind fun v3 =>
        bif (!v3) then
          some true
        else
          bif (decide (((a_g.Entries.length : Nat) : Int) > 10)) then
            some true
          else
            (spec_l01In a_g.Year 1900 2999).bind fun v4 =>
            some (!v4)).bind fun j1 =>
  bif j1 then
    some false
  else
    gd (a_g.Entries.length ≤ 4611686018427387904) <|
    sq (forO (spec_GuildOk_L1 a_g) a_g.Entries.length 0 ()) fun _ =>
    (spec_SwapRounds a_g).bind fun v7 =>
    (spec_l01In a_g.Round 0 v7).bind fun v8 =>
    some v8

def spec_NewGuild_L1 (_ : Nat) (s1 : List Int) : Option (Res (List Int) Empty) :=
  gd (s1.length + 1 ≤ 1099511627776) <|
  some (.next (s1 ++ [1000]))

def spec_NewGuild (a_year : Int) : Option (GGuild × Bool) :=
  (lpO spec_NewGuild_L1 6 ([] : List Int)).bind fun e1 =>
  (spec_GuildOk (GGuild.mk ([] : List GMember) e1 ([] : List GEntry) ([] : List GBooking) 0 a_year)).bind fun v1 =>
  bif (!v1) then
    some ((GGuild.mk ([] : List GMember) ([] : List Int) ([] : List GEntry) ([] : List GBooking) 0 0), false)
  else
    some ((GGuild.mk ([] : List GMember) e1 ([] : List GEntry) ([] : List GBooking) 0 a_year), true)

def impl_within (a_n : Int) (a_a : Int) (a_b : Int) : Option Bool :=
  some ((decide (a_n ≥ a_a)) && (decide (a_n ≤ a_b)))

def impl_MembersOk_L1 (a_list : List GMember) (k1 : Nat) (_ : Unit) : Option (Res Unit Bool) :=
  (
    (impl_within ((gx a_list k1).Number) 1 999).bind fun v1 =>
    bif (!v1) then
      some true
    else
      bif (decide (((k1 : Nat) : Int) > 0)) then
        gd (0 ≤ (wr (((k1 : Nat) : Int) - 1)) ∧ (wr (((k1 : Nat) : Int) - 1)) < ((a_list.length : Nat) : Int)) <|
        bif (decide ((gx a_list k1).Number ≤ (gx a_list (((wr (((k1 : Nat) : Int) - 1))).toNat)).Number)) then
          some true
        else
          (impl_within ((gx a_list k1).Since) 1900 2999).bind fun v2 =>
          bif (!v2) then
            some true
          else
            (impl_within ((gx a_list k1).Paid) (wr ((gx a_list k1).Since - 1)) 2999).bind fun v3 =>
            some (!v3)
      else
        (impl_within ((gx a_list k1).Since) 1900 2999).bind fun v4 =>
        bif (!v4) then
          some true
        else
          (impl_within ((gx a_list k1).Paid) (wr ((gx a_list k1).Since - 1)) 2999).bind fun v5 =>
          some (!v5)).bind fun j1 =>
  bif j1 then
    some (.ret false)
  else
    some (.next ())

def impl_MembersOk (a_list : List GMember) : Option Bool :=
  gd (a_list.length ≤ 4611686018427387904) <|
  sq (forO (impl_MembersOk_L1 a_list) a_list.length 0 ()) fun _ =>
  some (decide (((a_list.length : Nat) : Int) ≤ 40))

def impl_allWithin_L1 (a_list : List Int) (a_a : Int) (a_b : Int) (k1 : Nat) (_ : Unit) : Option (Res Unit Bool) :=
  (impl_within (gx a_list k1) a_a a_b).bind fun v1 =>
  bif (!v1) then
    some (.ret false)
  else
    some (.next ())

def impl_allWithin (a_list : List Int) (a_a : Int) (a_b : Int) : Option Bool :=
  gd (a_list.length ≤ 4611686018427387904) <|
  sq (forO (impl_allWithin_L1 a_list a_a a_b) a_list.length 0 ()) fun _ =>
  some true

def impl_StockOk (a_stock : List Int) : Option Bool :=
  (
    bif (((a_stock.length : Nat) : Int) == 6) then
      (impl_allWithin a_stock 0 1000000).bind fun v1 =>
      some v1
    else
      some false).bind fun j1 =>
  some j1

def impl_LedgerOk_L1 (a_list : List GBooking) (k1 : Nat) (_ : Unit) : Option (Res Unit Bool) :=
  (
    (impl_within ((gx a_list k1).Day) 0 9999).bind fun v1 =>
    bif (!v1) then
      some true
    else
      bif (decide (((k1 : Nat) : Int) > 0)) then
        gd (0 ≤ (wr (((k1 : Nat) : Int) - 1)) ∧ (wr (((k1 : Nat) : Int) - 1)) < ((a_list.length : Nat) : Int)) <|
        bif (decide ((gx a_list k1).Day < (gx a_list (((wr (((k1 : Nat) : Int) - 1))).toNat)).Day)) then
          some true
        else
          (impl_within ((gx a_list k1).From) 0 4).bind fun v2 =>
          bif (!v2) then
            some true
          else
            (impl_within ((gx a_list k1).To) 0 4).bind fun v3 =>
            bif (!v3) then
              some true
            else
              bif ((gx a_list k1).From == (gx a_list k1).To) then
                some true
              else
                (impl_within ((gx a_list k1).Sum) 1 100000).bind fun v4 =>
                some (!v4)
      else
        (impl_within ((gx a_list k1).From) 0 4).bind fun v5 =>
        bif (!v5) then
          some true
        else
          (impl_within ((gx a_list k1).To) 0 4).bind fun v6 =>
          bif (!v6) then
            some true
          else
            bif ((gx a_list k1).From == (gx a_list k1).To) then
              some true
            else
              (impl_within ((gx a_list k1).Sum) 1 100000).bind fun v7 =>
              some (!v7)).bind fun j1 =>
  bif j1 then
    some (.ret false)
  else
    some (.next ())

def impl_LedgerOk (a_list : List GBooking) : Option Bool :=
  gd (a_list.length ≤ 4611686018427387904) <|
  sq (forO (impl_LedgerOk_L1 a_list) a_list.length 0 ()) fun _ =>
  some (decide (((a_list.length : Nat) : Int) ≤ 60))

def impl_isColor (a_a : Int) : Option Bool :=
  (impl_within a_a 0 5).bind fun v1 =>
  some v1

def impl_CellOk (a_c : GCell) : Option Bool :=
  (
    (impl_within a_c.Split 0 2).bind fun v1 =>
    bif v1 then
      (impl_isColor a_c.A).bind fun v2 =>
      bif v2 then
        (impl_isColor a_c.B).bind fun v3 =>
        bif v3 then
          some ((a_c.Split == 0) == (a_c.A == a_c.B))
        else
          some false
      else
        some false
    else
      some false).bind fun j1 =>
  some j1

def impl_BlockOk_L1 (a_b : GBlock) (k1 : Nat) (_ : Unit) : Option (Res Unit Bool) :=
  (impl_CellOk (gx a_b.Cells k1)).bind fun v2 =>
  bif (!v2) then
    some (.ret false)
  else
    some (.next ())

def impl_BlockOk (a_b : GBlock) : Option Bool :=
  (
    (impl_within a_b.Size 1 4).bind fun v1 =>
    bif (!v1) then
      some true
    else
      some (((a_b.Cells.length : Nat) : Int) != (wr (a_b.Size * a_b.Size)))).bind fun j1 =>
  bif j1 then
    some false
  else
    gd (a_b.Cells.length ≤ 4611686018427387904) <|
    sq (forO (impl_BlockOk_L1 a_b) a_b.Cells.length 0 ()) fun _ =>
    some true

def impl_EntryOk (a_e : GEntry) : Option Bool :=
  (
    (impl_within a_e.Owner 0 99).bind fun v1 =>
    bif v1 then
      (impl_within a_e.Day 0 9999).bind fun v2 =>
      bif v2 then
        (impl_BlockOk a_e.Block).bind fun v3 =>
        some v3
      else
        some false
    else
      some false).bind fun j1 =>
  some j1

def impl_isMember_L1 (a_list : List GMember) (a_number : Int) (k1 : Nat) (_ : Unit) : Option (Res Unit Bool) :=
  bif ((gx a_list k1).Number == a_number) then
    some (.ret true)
  else
    some (.next ())

def impl_isMember (a_list : List GMember) (a_number : Int) : Option Bool :=
  gd (a_list.length ≤ 4611686018427387904) <|
  sq (forO (impl_isMember_L1 a_list a_number) a_list.length 0 ()) fun _ =>
  some false

def impl_GoodStanding_L1 (a_list : List GMember) (a_year : Int) (k1 : Nat) (s1 : List Int) : Option (Res (List Int) Empty) :=
  (
    bif (decide ((gx a_list k1).Paid ≥ a_year)) then
      gd (s1.length + 1 ≤ 1099511627776) <|
      some (s1 ++ [(gx a_list k1).Number])
    else
      some s1).bind fun j1 =>
  some (.next j1)

def impl_GoodStanding (a_list : List GMember) (a_year : Int) : Option (List Int) :=
  (impl_MembersOk a_list).bind fun v1 =>
  bif (!v1) then
    some ([] : List Int)
  else
    gd (a_list.length ≤ 4611686018427387904) <|
    (lpO (impl_GoodStanding_L1 a_list a_year) a_list.length ([] : List Int)).bind fun e1 =>
    some e1

def impl_SwapRounds (a_g : GGuild) : Option Int :=
  (impl_GoodStanding a_g.Members a_g.Year).bind fun v1 =>
  (impl_within ((v1.length : Nat) : Int) 2 10).bind fun v2 =>
  bif v2 then
    some (wr (((v1.length : Nat) : Int) - 1))
  else
    some 0

def impl_GuildOk_L1 (a_g : GGuild) (k1 : Nat) (_ : Unit) : Option (Res Unit Bool) :=
  (
    (impl_EntryOk (GEntry.mk ((gx a_g.Entries k1).Owner) ((gx a_g.Entries k1).Day) ((gx a_g.Entries k1).Block))).bind fun v4 =>
    bif (!v4) then
      some true
    else
      (impl_isMember a_g.Members ((gx a_g.Entries k1).Owner)).bind fun v5 =>
      bif (!v5) then
        some true
      else
        bif (decide (((k1 : Nat) : Int) > 0)) then
          gd (0 ≤ (wr (((k1 : Nat) : Int) - 1)) ∧ (wr (((k1 : Nat) : Int) - 1)) < ((a_g.Entries.length : Nat) : Int)) <|
          some (decide ((gx a_g.Entries k1).Day < (gx a_g.Entries (((wr (((k1 : Nat) : Int) - 1))).toNat)).Day))
        else
          some false).bind fun j2 =>
  bif j2 then
    some (.ret false)
  else
    some (.next ())

def impl_GuildOk (a_g : GGuild) : Option Bool :=
  (
    (impl_MembersOk a_g.Members).bind fun v1 =>
    bif (!v1) then
      some true
    else
      (impl_StockOk a_g.Stock).bind fun v2 =>
      bif (!v2) then
        some true
      else
        (impl_LedgerOk a_g.Books).bind fun v3 =>
        bif (!v3) then
          some true
        else
          some (decide (((a_g.Entries.length : Nat) : Int) > 10))).bind fun j1 =>
  bif j1 then
    some false
  else
    gd (a_g.Entries.length ≤ 4611686018427387904) <|
    sq (forO (impl_GuildOk_L1 a_g) a_g.Entries.length 0 ()) fun _ =>
    (
      (impl_within a_g.Year 1900 2999).bind fun v6 =>
      bif v6 then
        (impl_SwapRounds a_g).bind fun v7 =>
        (impl_within a_g.Round 0 v7).bind fun v8 =>
        some v8
      else
        some false).bind fun j3 =>
    some j3

def impl_NewGuild (a_year : Int) : Option (GGuild × Bool) :=
  (impl_GuildOk (GGuild.mk ([] : List GMember) ([1000, 1000, 1000, 1000, 1000, 1000] : List Int) ([] : List GEntry) ([] : List GBooking) 0 a_year)).bind fun v1 =>
  bif (!v1) then
    some ((GGuild.mk ([] : List GMember) ([] : List Int) ([] : List GEntry) ([] : List GBooking) 0 0), false)
  else
    some ((GGuild.mk ([] : List GMember) ([1000, 1000, 1000, 1000, 1000, 1000] : List Int) ([] : List GEntry) ([] : List GBooking) 0 a_year), true)

def laws_eqMember (a_a : GMember) (a_b : GMember) : Option Bool :=
  bif (a_a.Number != a_b.Number) then
    some false
  else
    bif (a_a.Since != a_b.Since) then
      some false
    else
      bif (a_a.Paid != a_b.Paid) then
        some false
      else
        some true

def laws_eqMemberS_L1 (a_a : List GMember) (a_b : List GMember) (k1 : Nat) (_ : Unit) : Option (Res Unit Bool) :=
  gd (k1 < a_b.length) <|
  (laws_eqMember (gx a_a k1) (gx a_b k1)).bind fun v1 =>
  bif (!v1) then
    some (.ret false)
  else
    some (.next ())

def laws_eqMemberS (a_a : List GMember) (a_b : List GMember) : Option Bool :=
  bif (((a_a.length : Nat) : Int) != ((a_b.length : Nat) : Int)) then
    some false
  else
    gd (a_a.length ≤ 4611686018427387904) <|
    sq (forO (laws_eqMemberS_L1 a_a a_b) a_a.length 0 ()) fun _ =>
    some true

def laws_eqIntS_L1 (a_a : List Int) (a_b : List Int) (k1 : Nat) (_ : Unit) : Option (Res Unit Bool) :=
  gd (k1 < a_b.length) <|
  bif ((gx a_a k1) != (gx a_b k1)) then
    some (.ret false)
  else
    some (.next ())

def laws_eqIntS (a_a : List Int) (a_b : List Int) : Option Bool :=
  bif (((a_a.length : Nat) : Int) != ((a_b.length : Nat) : Int)) then
    some false
  else
    gd (a_a.length ≤ 4611686018427387904) <|
    sq (forO (laws_eqIntS_L1 a_a a_b) a_a.length 0 ()) fun _ =>
    some true

def laws_eqCell (a_a : GCell) (a_b : GCell) : Option Bool :=
  bif (a_a.Split != a_b.Split) then
    some false
  else
    bif (a_a.A != a_b.A) then
      some false
    else
      bif (a_a.B != a_b.B) then
        some false
      else
        some true

def laws_eqCellS_L1 (a_a : List GCell) (a_b : List GCell) (k1 : Nat) (_ : Unit) : Option (Res Unit Bool) :=
  gd (k1 < a_b.length) <|
  (laws_eqCell (gx a_a k1) (gx a_b k1)).bind fun v1 =>
  bif (!v1) then
    some (.ret false)
  else
    some (.next ())

def laws_eqCellS (a_a : List GCell) (a_b : List GCell) : Option Bool :=
  bif (((a_a.length : Nat) : Int) != ((a_b.length : Nat) : Int)) then
    some false
  else
    gd (a_a.length ≤ 4611686018427387904) <|
    sq (forO (laws_eqCellS_L1 a_a a_b) a_a.length 0 ()) fun _ =>
    some true

def laws_eqBlock (a_a : GBlock) (a_b : GBlock) : Option Bool :=
  bif (a_a.Size != a_b.Size) then
    some false
  else
    (laws_eqCellS a_a.Cells a_b.Cells).bind fun v1 =>
    bif (!v1) then
      some false
    else
      some true

def laws_eqEntry (a_a : GEntry) (a_b : GEntry) : Option Bool :=
  bif (a_a.Owner != a_b.Owner) then
    some false
  else
    bif (a_a.Day != a_b.Day) then
      some false
    else
      (laws_eqBlock a_a.Block a_b.Block).bind fun v1 =>
      bif (!v1) then
        some false
      else
        some true

def laws_eqEntryS_L1 (a_a : List GEntry) (a_b : List GEntry) (k1 : Nat) (_ : Unit) : Option (Res Unit Bool) :=
  gd (k1 < a_b.length) <|
  (laws_eqEntry (gx a_a k1) (gx a_b k1)).bind fun v1 =>
  bif (!v1) then
    some (.ret false)
  else
    some (.next ())

def laws_eqEntryS (a_a : List GEntry) (a_b : List GEntry) : Option Bool :=
  bif (((a_a.length : Nat) : Int) != ((a_b.length : Nat) : Int)) then
    some false
  else
    gd (a_a.length ≤ 4611686018427387904) <|
    sq (forO (laws_eqEntryS_L1 a_a a_b) a_a.length 0 ()) fun _ =>
    some true

def laws_eqBooking (a_a : GBooking) (a_b : GBooking) : Option Bool :=
  bif (a_a.Day != a_b.Day) then
    some false
  else
    bif (a_a.From != a_b.From) then
      some false
    else
      bif (a_a.To != a_b.To) then
        some false
      else
        bif (a_a.Sum != a_b.Sum) then
          some false
        else
          some true

def laws_eqBookingS_L1 (a_a : List GBooking) (a_b : List GBooking) (k1 : Nat) (_ : Unit) : Option (Res Unit Bool) :=
  gd (k1 < a_b.length) <|
  (laws_eqBooking (gx a_a k1) (gx a_b k1)).bind fun v1 =>
  bif (!v1) then
    some (.ret false)
  else
    some (.next ())

def laws_eqBookingS (a_a : List GBooking) (a_b : List GBooking) : Option Bool :=
  bif (((a_a.length : Nat) : Int) != ((a_b.length : Nat) : Int)) then
    some false
  else
    gd (a_a.length ≤ 4611686018427387904) <|
    sq (forO (laws_eqBookingS_L1 a_a a_b) a_a.length 0 ()) fun _ =>
    some true

def laws_eqGuild (a_a : GGuild) (a_b : GGuild) : Option Bool :=
  (laws_eqMemberS a_a.Members a_b.Members).bind fun v1 =>
  bif (!v1) then
    some false
  else
    (laws_eqIntS a_a.Stock a_b.Stock).bind fun v2 =>
    bif (!v2) then
      some false
    else
      (laws_eqEntryS a_a.Entries a_b.Entries).bind fun v3 =>
      bif (!v3) then
        some false
      else
        (laws_eqBookingS a_a.Books a_b.Books).bind fun v4 =>
        bif (!v4) then
          some false
        else
          bif (a_a.Round != a_b.Round) then
            some false
          else
            bif (a_a.Year != a_b.Year) then
              some false
            else
              some true

def laws_markMemberS_L1 (k1 : Nat) (s1 : (List GMember) × Int) : Option (Res ((List GMember) × Int) Empty) :=
  some (.next ((s1.1.set k1 (GMember.mk s1.2 (wr (s1.2 + 1)) (wr ((wr (s1.2 + 1)) + 1)))), (wr ((wr ((wr (s1.2 + 1)) + 1)) + 1))))

def laws_markMemberS (a_a : List GMember) (a_k : Int) : Option (Int × (List GMember)) :=
  gd (a_a.length ≤ 4611686018427387904) <|
  (lpO laws_markMemberS_L1 a_a.length (a_a, a_k)).bind fun e1 =>
  some (e1.2, e1.1)

def laws_markIntS_L1 (k1 : Nat) (s1 : (List Int) × Int) : Option (Res ((List Int) × Int) Empty) :=
  some (.next ((s1.1.set k1 s1.2), (wr (s1.2 + 1))))

def laws_markIntS (a_a : List Int) (a_k : Int) : Option (Int × (List Int)) :=
  gd (a_a.length ≤ 4611686018427387904) <|
  (lpO laws_markIntS_L1 a_a.length (a_a, a_k)).bind fun e1 =>
  some (e1.2, e1.1)

def laws_markCellS_L1 (k1 : Nat) (s1 : (List GCell) × Int) : Option (Res ((List GCell) × Int) Empty) :=
  some (.next ((s1.1.set k1 (GCell.mk s1.2 (wr (s1.2 + 1)) (wr ((wr (s1.2 + 1)) + 1)))), (wr ((wr ((wr (s1.2 + 1)) + 1)) + 1))))

def laws_markCellS (a_a : List GCell) (a_k : Int) : Option (Int × (List GCell)) :=
  gd (a_a.length ≤ 4611686018427387904) <|
  (lpO laws_markCellS_L1 a_a.length (a_a, a_k)).bind fun e1 =>
  some (e1.2, e1.1)

def laws_markEntryS_L1 (k1 : Nat) (s1 : (List GEntry) × Int) : Option (Res ((List GEntry) × Int) Empty) :=
  (laws_markCellS (((gx s1.1 k1).Block).Cells) (wr ((wr ((wr (s1.2 + 1)) + 1)) + 1))).bind fun v1 =>
  some (.next ((s1.1.set k1 (GEntry.mk s1.2 (wr (s1.2 + 1)) (GBlock.mk (wr ((wr (s1.2 + 1)) + 1)) v1.2))), v1.1))

def laws_markEntryS (a_a : List GEntry) (a_k : Int) : Option (Int × (List GEntry)) :=
  gd (a_a.length ≤ 4611686018427387904) <|
  (lpO laws_markEntryS_L1 a_a.length (a_a, a_k)).bind fun e1 =>
  some (e1.2, e1.1)

def laws_markBookingS_L1 (k1 : Nat) (s1 : (List GBooking) × Int) : Option (Res ((List GBooking) × Int) Empty) :=
  some (.next ((s1.1.set k1 (GBooking.mk s1.2 (wr (s1.2 + 1)) (wr ((wr (s1.2 + 1)) + 1)) (wr ((wr ((wr (s1.2 + 1)) + 1)) + 1)))), (wr ((wr ((wr ((wr (s1.2 + 1)) + 1)) + 1)) + 1))))

def laws_markBookingS (a_a : List GBooking) (a_k : Int) : Option (Int × (List GBooking)) :=
  gd (a_a.length ≤ 4611686018427387904) <|
  (lpO laws_markBookingS_L1 a_a.length (a_a, a_k)).bind fun e1 =>
  some (e1.2, e1.1)

def laws_markGuild (a_a : GGuild) (a_k : Int) : Option (Int × (List GMember) × (List Int) × (List GEntry) × (List GBooking)) :=
  (laws_markMemberS a_a.Members a_k).bind fun v1 =>
  (laws_markIntS a_a.Stock v1.1).bind fun v2 =>
  (laws_markEntryS a_a.Entries v2.1).bind fun v3 =>
  (laws_markBookingS a_a.Books v3.1).bind fun v4 =>
  some (v4.1, v1.2, v2.2, v3.2, v4.2)

def laws_heldMemberS_L1 (a_a : List GMember) (k1 : Nat) (s1 : Int) : Option (Res Int Int) :=
  bif ((gx a_a k1).Number != s1) then
    some (.ret (-1))
  else
    bif ((gx a_a k1).Since != (wr (s1 + 1))) then
      some (.ret (-1))
    else
      bif ((gx a_a k1).Paid != (wr ((wr (s1 + 1)) + 1))) then
        some (.ret (-1))
      else
        some (.next (wr ((wr ((wr (s1 + 1)) + 1)) + 1)))

def laws_heldMemberS (a_a : List GMember) (a_k : Int) : Option Int :=
  gd (a_a.length ≤ 4611686018427387904) <|
  sq (forO (laws_heldMemberS_L1 a_a) a_a.length 0 a_k) fun e1 =>
  some e1

def laws_heldIntS_L1 (a_a : List Int) (k1 : Nat) (s1 : Int) : Option (Res Int Int) :=
  bif ((gx a_a k1) != s1) then
    some (.ret (-1))
  else
    some (.next (wr (s1 + 1)))

def laws_heldIntS (a_a : List Int) (a_k : Int) : Option Int :=
  gd (a_a.length ≤ 4611686018427387904) <|
  sq (forO (laws_heldIntS_L1 a_a) a_a.length 0 a_k) fun e1 =>
  some e1

def laws_heldCellS_L1 (a_a : List GCell) (k1 : Nat) (s1 : Int) : Option (Res Int Int) :=
  bif ((gx a_a k1).Split != s1) then
    some (.ret (-1))
  else
    bif ((gx a_a k1).A != (wr (s1 + 1))) then
      some (.ret (-1))
    else
      bif ((gx a_a k1).B != (wr ((wr (s1 + 1)) + 1))) then
        some (.ret (-1))
      else
        some (.next (wr ((wr ((wr (s1 + 1)) + 1)) + 1)))

def laws_heldCellS (a_a : List GCell) (a_k : Int) : Option Int :=
  gd (a_a.length ≤ 4611686018427387904) <|
  sq (forO (laws_heldCellS_L1 a_a) a_a.length 0 a_k) fun e1 =>
  some e1

def laws_heldEntryS_L1 (a_a : List GEntry) (k1 : Nat) (s1 : Int) : Option (Res Int Int) :=
  bif ((gx a_a k1).Owner != s1) then
    some (.ret (-1))
  else
    bif ((gx a_a k1).Day != (wr (s1 + 1))) then
      some (.ret (-1))
    else
      bif (((gx a_a k1).Block).Size != (wr ((wr (s1 + 1)) + 1))) then
        some (.ret (-1))
      else
        (laws_heldCellS (((gx a_a k1).Block).Cells) (wr ((wr ((wr (s1 + 1)) + 1)) + 1))).bind fun v1 =>
        bif (decide (v1 < 0)) then
          some (.ret (-1))
        else
          some (.next v1)

def laws_heldEntryS (a_a : List GEntry) (a_k : Int) : Option Int :=
  gd (a_a.length ≤ 4611686018427387904) <|
  sq (forO (laws_heldEntryS_L1 a_a) a_a.length 0 a_k) fun e1 =>
  some e1

def laws_heldBookingS_L1 (a_a : List GBooking) (k1 : Nat) (s1 : Int) : Option (Res Int Int) :=
  bif ((gx a_a k1).Day != s1) then
    some (.ret (-1))
  else
    bif ((gx a_a k1).From != (wr (s1 + 1))) then
      some (.ret (-1))
    else
      bif ((gx a_a k1).To != (wr ((wr (s1 + 1)) + 1))) then
        some (.ret (-1))
      else
        bif ((gx a_a k1).Sum != (wr ((wr ((wr (s1 + 1)) + 1)) + 1))) then
          some (.ret (-1))
        else
          some (.next (wr ((wr ((wr ((wr (s1 + 1)) + 1)) + 1)) + 1)))

def laws_heldBookingS (a_a : List GBooking) (a_k : Int) : Option Int :=
  gd (a_a.length ≤ 4611686018427387904) <|
  sq (forO (laws_heldBookingS_L1 a_a) a_a.length 0 a_k) fun e1 =>
  some e1

def laws_heldGuild (a_a : GGuild) (a_k : Int) : Option Int :=
  (laws_heldMemberS a_a.Members a_k).bind fun v1 =>
  bif (decide (v1 < 0)) then
    some (-1)
  else
    (laws_heldIntS a_a.Stock v1).bind fun v2 =>
    bif (decide (v2 < 0)) then
      some (-1)
    else
      (laws_heldEntryS a_a.Entries v2).bind fun v3 =>
      bif (decide (v3 < 0)) then
        some (-1)
      else
        (laws_heldBookingS a_a.Books v3).bind fun v4 =>
        bif (decide (v4 < 0)) then
          some (-1)
        else
          some v4

def laws_FnExactNewGuild (a_aYear : Int) : Option Bool :=
  (spec_NewGuild a_aYear).bind fun v1 =>
  (impl_NewGuild a_aYear).bind fun v2 =>
  (
    (laws_eqGuild v2.1 v1.1).bind fun v3 =>
    bif (!v3) then
      some true
    else
      some (!(v2.2 == v1.2))).bind fun j1 =>
  bif j1 then
    some false
  else
    (laws_markGuild v2.1 1).bind fun v4 =>
    (laws_heldGuild (GGuild.mk v4.2.1 v4.2.2.1 v4.2.2.2.1 v4.2.2.2.2 v2.1.Round v2.1.Year) 1).bind fun v5 =>
    bif (decide (v5 < 0)) then
      some false
    else
      bif (v5 != v4.1) then
        some false
      else
        (impl_NewGuild a_aYear).bind fun v6 =>
        (
          (laws_eqGuild v6.1 v1.1).bind fun v7 =>
          bif (!v7) then
            some true
          else
            some (!(v6.2 == v1.2))).bind fun j2 =>
        bif j2 then
          some false
        else
          (laws_heldGuild (GGuild.mk v4.2.1 v4.2.2.1 v4.2.2.2.1 v4.2.2.2.2 v2.1.Round v2.1.Year) 1).bind fun v8 =>
          bif (decide (v8 < 0)) then
            some false
          else
            bif (v8 != v4.1) then
              some false
            else
              some true

end Go.Proofs.Ytgimnmlcdidcdah
