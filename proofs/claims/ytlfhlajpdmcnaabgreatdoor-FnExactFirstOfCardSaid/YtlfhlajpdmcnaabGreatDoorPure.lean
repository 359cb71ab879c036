/-
  What the functions compute, as Lean functions.
-/
import Derived.Test.YtlfhlajpdmcnaabGreatDoorTypes
namespace Go.Proofs.YtlfhlajpdmcnaabGreatDoor
open Go Go.RowKit

def laws_szCellS (a_a : List GCell) (a_left : Int) : Option Int :=
  bif (decide ((wr (a_left - ((a_a.length : Nat) : Int))) < 0)) then
    some (-1)
  else
    some (wr (a_left - ((a_a.length : Nat) : Int)))

def laws_szBlock (a_a : GBlock) (a_left : Int) : Option Int :=
  (laws_szCellS a_a.Cells a_left).bind fun v1 =>
  bif (decide (v1 < 0)) then
    some (-1)
  else
    some v1

def laws_szEntry (a_a : GEntry) (a_left : Int) : Option Int :=
  (laws_szBlock a_a.Block a_left).bind fun v1 =>
  bif (decide (v1 < 0)) then
    some (-1)
  else
    some v1

def laws_szEntryS_L1 (a_a : List GEntry) (k1 : Nat) (s1 : Int) : Option (Res Int Int) :=
  (laws_szEntry (gx a_a k1) s1).bind fun v1 =>
  bif (decide (v1 < 0)) then
    some (.ret (-1))
  else
    some (.next v1)

def laws_szEntryS (a_a : List GEntry) (a_left : Int) : Option Int :=
  bif (decide ((wr (a_left - ((a_a.length : Nat) : Int))) < 0)) then
    some (-1)
  else
    gd (a_a.length ≤ 4611686018427387904) <|
    sq (forO (laws_szEntryS_L1 a_a) a_a.length 0 (wr (a_left - ((a_a.length : Nat) : Int)))) fun e1 =>
    some e1

def laws_toCell (a_a : GCell) : Option GCell :=
  some a_a

def laws_toCellS_L1 (a_a : List GCell) (k1 : Nat) (s1 : List GCell) : Option (Res (List GCell) Empty) :=
  (laws_toCell (gx a_a k1)).bind fun v1 =>
  gd (k1 < s1.length) <|
  some (.next (s1.set k1 v1))

def laws_toCellS (a_a : List GCell) : Option (List GCell) :=
  gd (a_a.length ≤ 1099511627776) <|
  gd (a_a.length ≤ 4611686018427387904) <|
  (lpO (laws_toCellS_L1 a_a) a_a.length (List.replicate a_a.length ((GCell.mk 0 0 0) : GCell))).bind fun e1 =>
  some e1

def laws_toBlock (a_a : GBlock) : Option GBlock :=
  (laws_toCellS a_a.Cells).bind fun v1 =>
  some (GBlock.mk a_a.Size v1)

def laws_toEntry (a_a : GEntry) : Option GEntry :=
  (laws_toBlock a_a.Block).bind fun v1 =>
  some (GEntry.mk a_a.Owner a_a.Day v1)

def laws_toEntryS_L1 (a_a : List GEntry) (k1 : Nat) (s1 : List GEntry) : Option (Res (List GEntry) Empty) :=
  (laws_toEntry (gx a_a k1)).bind fun v1 =>
  gd (k1 < s1.length) <|
  some (.next (s1.set k1 v1))

def laws_toEntryS (a_a : List GEntry) : Option (List GEntry) :=
  gd (a_a.length ≤ 1099511627776) <|
  gd (a_a.length ≤ 4611686018427387904) <|
  (lpO (laws_toEntryS_L1 a_a) a_a.length (List.replicate a_a.length ((GEntry.mk 0 0 (GBlock.mk 0 ([] : List GCell))) : GEntry))).bind fun e1 =>
  some e1

def spec_l01In (a_x : Int) (a_least : Int) (a_most : Int) : Option Bool :=
  some ((decide (a_x ≥ a_least)) && (decide (a_x ≤ a_most)))

def spec_CellOk (a_c : GCell) : Option Bool :=
  (
    (spec_l01In a_c.Split 0 2).bind fun v1 =>
    bif (!v1) then
      some true
    else
      (spec_l01In a_c.A 0 5).bind fun v2 =>
      bif (!v2) then
        some true
      else
        (spec_l01In a_c.B 0 5).bind fun v3 =>
        some (!v3)).bind fun j1 =>
  bif j1 then
    some false
  else
    some ((a_c.Split == 0) == (a_c.A == a_c.B))

def spec_BlockOk_L1 (a_b : GBlock) (k1 : Nat) (_ : Unit) : Option (Res Unit Bool) :=
  (spec_CellOk (gx a_b.Cells k1)).bind fun v2 =>
  bif (!v2) then
    some (.ret false)
  else
    some (.next ())

def spec_BlockOk (a_b : GBlock) : Option Bool :=
  (
    (spec_l01In a_b.Size 1 4).bind fun v1 =>
    bif (!v1) then
      some true
    else
      some (((a_b.Cells.length : Nat) : Int) != (wr (a_b.Size * a_b.Size)))).bind fun j1 =>
  bif j1 then
    some false
  else
    gd (a_b.Cells.length ≤ 4611686018427387904) <|
    sq (forO (spec_BlockOk_L1 a_b) a_b.Cells.length 0 ()) fun _ =>
    some true

def spec_EntryOk (a_e : GEntry) : Option Bool :=
  (
    (spec_l01In a_e.Owner 0 99).bind fun v1 =>
    bif v1 then
      (spec_l01In a_e.Day 0 9999).bind fun v2 =>
      bif v2 then
        (spec_BlockOk a_e.Block).bind fun v3 =>
        some v3
      else
        some false
    else
      some false).bind fun j1 =>
  some j1

def spec_FirstUse_L1 (_ : Nat) (s1 : List Int) : Option (Res (List Int) Empty) :=
  gd (s1.length + 1 ≤ 1099511627776) <|
  some (.next (s1 ++ [(-1)]))

def spec_FirstUse_L2 (a_b : GBlock) (k2 : Nat) (s2 : (List Int) × Int) : Option (Res ((List Int) × Int) Empty) :=
  gd (0 ≤ (wr (((k2 : Nat) : Int).tdiv 2)) ∧ (wr (((k2 : Nat) : Int).tdiv 2)) < ((a_b.Cells.length : Nat) : Int)) <|
  gd (0 ≤ (bif ((((k2 : Nat) : Int).tmod 2) == 1) then (gx a_b.Cells (((wr (((k2 : Nat) : Int).tdiv 2))).toNat)).B else (gx a_b.Cells (((wr (((k2 : Nat) : Int).tdiv 2))).toNat)).A) ∧ (bif ((((k2 : Nat) : Int).tmod 2) == 1) then (gx a_b.Cells (((wr (((k2 : Nat) : Int).tdiv 2))).toNat)).B else (gx a_b.Cells (((wr (((k2 : Nat) : Int).tdiv 2))).toNat)).A) < ((s2.1.length : Nat) : Int)) <|
  some (.next ((bif (decide ((gx s2.1 (((bif ((((k2 : Nat) : Int).tmod 2) == 1) then (gx a_b.Cells (((wr (((k2 : Nat) : Int).tdiv 2))).toNat)).B else (gx a_b.Cells (((wr (((k2 : Nat) : Int).tdiv 2))).toNat)).A)).toNat)) < 0)) then (s2.1.set (((bif ((((k2 : Nat) : Int).tmod 2) == 1) then (gx a_b.Cells (((wr (((k2 : Nat) : Int).tdiv 2))).toNat)).B else (gx a_b.Cells (((wr (((k2 : Nat) : Int).tdiv 2))).toNat)).A)).toNat) s2.2) else s2.1), (bif (decide ((gx s2.1 (((bif ((((k2 : Nat) : Int).tmod 2) == 1) then (gx a_b.Cells (((wr (((k2 : Nat) : Int).tdiv 2))).toNat)).B else (gx a_b.Cells (((wr (((k2 : Nat) : Int).tdiv 2))).toNat)).A)).toNat)) < 0)) then (wr (s2.2 + 1)) else s2.2)))

def spec_FirstUse_L3 (k3 : Nat) (s3 : (List Int) × Int) : Option (Res ((List Int) × Int) Empty) :=
  gd (k3 < s3.1.length) <|
  some (.next ((bif (decide ((gx s3.1 k3) < 0)) then (s3.1.set k3 s3.2) else s3.1), (bif (decide ((gx s3.1 k3) < 0)) then (wr (s3.2 + 1)) else s3.2)))

def spec_FirstUse (a_b : GBlock) : Option (List Int) :=
  (spec_BlockOk a_b).bind fun v1 =>
  bif (!v1) then
    some ([] : List Int)
  else
    (lpO spec_FirstUse_L1 6 ([] : List Int)).bind fun e1 =>
    gd (((wr (2 * ((a_b.Cells.length : Nat) : Int)))).toNat ≤ 4611686018427387904) <|
    (lpO (spec_FirstUse_L2 a_b) (((wr (2 * ((a_b.Cells.length : Nat) : Int)))).toNat) (e1, 0)).bind fun e2 =>
    (lpO spec_FirstUse_L3 6 (e2.1, e2.2)).bind fun e3 =>
    some e3.1

def spec_ListOk_L1 (a_l : List Int) (k1 : Nat) (_ : Unit) : Option (Res Unit Bool) :=
  (spec_l01In (gx a_l k1) 0 5).bind fun v1 =>
  bif (!v1) then
    some (.ret false)
  else
    some (.next ())

def spec_ListOk (a_l : List Int) : Option Bool :=
  gd (a_l.length ≤ 4611686018427387904) <|
  sq (forO (spec_ListOk_L1 a_l) a_l.length 0 ()) fun _ =>
  some (((a_l.length : Nat) : Int) == 6)

def spec_l03Copy (a_b : GBlock) : Option GBlock :=
  gd (([] : List GCell).length + a_b.Cells.length ≤ 1099511627776) <|
  some (GBlock.mk a_b.Size (([] : List GCell) ++ a_b.Cells))

def spec_WholeCell (a_a : Int) : Option GCell :=
  (spec_l01In a_a 0 5).bind fun v1 =>
  bif (!v1) then
    some (GCell.mk 0 0 0)
  else
    some (GCell.mk 0 a_a a_a)

def spec_SplitCell (a_split : Int) (a_a : Int) (a_b : Int) : Option GCell :=
  bif (a_a == a_b) then
    (spec_WholeCell a_a).bind fun v1 =>
    some v1
  else
    (spec_CellOk (GCell.mk a_split a_a a_b)).bind fun v2 =>
    bif (!v2) then
      some (GCell.mk 0 0 0)
    else
      some (GCell.mk a_split a_a a_b)

def spec_ExchangeCell (a_c : GCell) (a_l : List Int) : Option GCell :=
  (
    (spec_CellOk a_c).bind fun v1 =>
    bif (!v1) then
      some true
    else
      (spec_ListOk a_l).bind fun v2 =>
      some (!v2)).bind fun j1 =>
  bif j1 then
    some (GCell.mk 0 0 0)
  else
    gd (0 ≤ a_c.A ∧ a_c.A < ((a_l.length : Nat) : Int)) <|
    gd (0 ≤ a_c.B ∧ a_c.B < ((a_l.length : Nat) : Int)) <|
    (spec_SplitCell a_c.Split (gx a_l ((a_c.A).toNat)) (gx a_l ((a_c.B).toNat))).bind fun v3 =>
    some v3

def spec_ExchangeBlock_L1 (a_b : GBlock) (a_l : List Int) (k1 : Nat) (s1 : List GCell) : Option (Res (List GCell) Empty) :=
  (spec_ExchangeCell (gx a_b.Cells k1) a_l).bind fun v4 =>
  gd (s1.length + 1 ≤ 1099511627776) <|
  some (.next (s1 ++ [v4]))

def spec_ExchangeBlock (a_b : GBlock) (a_l : List Int) : Option (GBlock × Bool) :=
  (
    (spec_BlockOk a_b).bind fun v1 =>
    bif (!v1) then
      some true
    else
      (spec_ListOk a_l).bind fun v2 =>
      some (!v2)).bind fun j1 =>
  bif j1 then
    (spec_l03Copy a_b).bind fun v3 =>
    some (v3, false)
  else
    gd (a_b.Cells.length ≤ 4611686018427387904) <|
    (lpO (spec_ExchangeBlock_L1 a_b a_l) a_b.Cells.length ([] : List GCell)).bind fun e1 =>
    some ((GBlock.mk a_b.Size e1), true)

def spec_l07Plain (a_b : GBlock) : Option GBlock :=
  (spec_FirstUse a_b).bind fun v1 =>
  (spec_ExchangeBlock a_b v1).bind fun v2 =>
  some v2.1

def spec_MirrorCell (a_c : GCell) : Option GCell :=
  (spec_CellOk a_c).bind fun v1 =>
  bif (!v1) then
    some (GCell.mk 0 0 0)
  else
    bif (a_c.Split == 0) then
      some a_c
    else
      some (GCell.mk (wr (3 - a_c.Split)) a_c.B a_c.A)

def spec_MirrorBlock_L2 (a_b : GBlock) (k1 : Nat) (k2 : Nat) (s2 : List GCell) : Option (Res (List GCell) Empty) :=
  gd (0 ≤ (wr ((wr ((wr ((wr (((k1 : Nat) : Int) * a_b.Size)) + a_b.Size)) - 1)) - ((k2 : Nat) : Int))) ∧ (wr ((wr ((wr ((wr (((k1 : Nat) : Int) * a_b.Size)) + a_b.Size)) - 1)) - ((k2 : Nat) : Int))) < ((a_b.Cells.length : Nat) : Int)) <|
  (spec_MirrorCell (gx a_b.Cells (((wr ((wr ((wr ((wr (((k1 : Nat) : Int) * a_b.Size)) + a_b.Size)) - 1)) - ((k2 : Nat) : Int)))).toNat))).bind fun v2 =>
  gd (s2.length + 1 ≤ 1099511627776) <|
  some (.next (s2 ++ [v2]))

def spec_MirrorBlock_L1 (a_b : GBlock) (k1 : Nat) (s1 : List GCell) : Option (Res (List GCell) Empty) :=
  (lpO (spec_MirrorBlock_L2 a_b k1) ((a_b.Size).toNat) s1).bind fun e2 =>
  some (.next e2)

def spec_MirrorBlock (a_b : GBlock) : Option GBlock :=
  (spec_BlockOk a_b).bind fun v1 =>
  bif (!v1) then
    some (GBlock.mk 0 ([] : List GCell))
  else
    gd ((a_b.Size).toNat ≤ 4611686018427387904) <|
    (lpO (spec_MirrorBlock_L1 a_b) ((a_b.Size).toNat) ([] : List GCell)).bind fun e1 =>
    some (GBlock.mk a_b.Size e1)

def spec_TurnCell (a_c : GCell) : Option GCell :=
  (spec_CellOk a_c).bind fun v1 =>
  bif (!v1) then
    some (GCell.mk 0 0 0)
  else
    bif (a_c.Split == 1) then
      some (GCell.mk 2 a_c.B a_c.A)
    else
      bif (a_c.Split == 2) then
        some (GCell.mk 1 a_c.A a_c.B)
      else
        some a_c

def spec_TurnBlock_L2 (a_b : GBlock) (k1 : Nat) (k2 : Nat) (s2 : List GCell) : Option (Res (List GCell) Empty) :=
  gd (0 ≤ (wr ((wr ((wr ((wr (a_b.Size - 1)) - ((k2 : Nat) : Int))) * a_b.Size)) + ((k1 : Nat) : Int))) ∧ (wr ((wr ((wr ((wr (a_b.Size - 1)) - ((k2 : Nat) : Int))) * a_b.Size)) + ((k1 : Nat) : Int))) < ((a_b.Cells.length : Nat) : Int)) <|
  (spec_TurnCell (gx a_b.Cells (((wr ((wr ((wr ((wr (a_b.Size - 1)) - ((k2 : Nat) : Int))) * a_b.Size)) + ((k1 : Nat) : Int)))).toNat))).bind fun v2 =>
  gd (s2.length + 1 ≤ 1099511627776) <|
  some (.next (s2 ++ [v2]))

def spec_TurnBlock_L1 (a_b : GBlock) (k1 : Nat) (s1 : List GCell) : Option (Res (List GCell) Empty) :=
  (lpO (spec_TurnBlock_L2 a_b k1) ((a_b.Size).toNat) s1).bind fun e2 =>
  some (.next e2)

def spec_TurnBlock (a_b : GBlock) : Option GBlock :=
  (spec_BlockOk a_b).bind fun v1 =>
  bif (!v1) then
    some (GBlock.mk 0 ([] : List GCell))
  else
    gd ((a_b.Size).toNat ≤ 4611686018427387904) <|
    (lpO (spec_TurnBlock_L1 a_b) ((a_b.Size).toNat) ([] : List GCell)).bind fun e1 =>
    some (GBlock.mk a_b.Size e1)

def spec_SeenFrom_L1 (_ : Nat) (s1 : Int × (List GCell)) : Option (Res (Int × (List GCell)) Empty) :=
  (spec_TurnBlock (GBlock.mk s1.1 s1.2)).bind fun v5 =>
  some (.next (v5.Size, v5.Cells))

def spec_SeenFrom (a_b : GBlock) (a_k : Int) : Option GBlock :=
  (
    (spec_BlockOk a_b).bind fun v1 =>
    bif (!v1) then
      some true
    else
      (spec_l01In a_k 0 7).bind fun v2 =>
      some (!v2)).bind fun j1 =>
  bif j1 then
    some (GBlock.mk 0 ([] : List GCell))
  else
    (spec_l03Copy a_b).bind fun v3 =>
    (
      bif (decide (a_k ≥ 4)) then
        (spec_MirrorBlock a_b).bind fun v4 =>
        some v4
      else
        some v3).bind fun j2 =>
    gd (((a_k.tmod 4)).toNat ≤ 4611686018427387904) <|
    (lpO spec_SeenFrom_L1 (((a_k.tmod 4)).toNat) ((j2).Size, (j2).Cells)).bind fun e1 =>
    some (GBlock.mk e1.1 e1.2)

def spec_l01Figure (a_x : Int) : Option UInt8 :=
  bif (decide (a_x < 10)) then
    some (u8of (wr (48 + a_x)))
  else
    some (u8of (wr ((wr (97 + a_x)) - 10)))

def spec_FormatInt_L1 (s1 : Int × Str) : Option (Res (Int × Str) Empty) :=
  bif (s1.1 != 0) then
    (spec_l01Figure (bif (decide ((s1.1.tmod 10) < 0)) then (wr (0 - (s1.1.tmod 10))) else (s1.1.tmod 10))).bind fun v1 =>
    gd ((⟨([v1] : List UInt8)⟩ : Str).b.length + s1.2.b.length ≤ 1099511627776) <|
    some (.next ((wr (s1.1.tdiv 10)), (sadd (⟨([v1] : List UInt8)⟩ : Str) s1.2)))
  else
    some (.brk (s1.1, s1.2))

def spec_FormatInt (a_n : Int) : Option Str :=
  bif (a_n == 0) then
    some (⟨[48]⟩ : Str)
  else
    (wlO spec_FormatInt_L1 18446744073709551616 (a_n, (⟨[]⟩ : Str))).bind fun e1 =>
    bif (decide (a_n < 0)) then
      gd ((⟨[45]⟩ : Str).b.length + e1.2.b.length ≤ 1099511627776) <|
      some (sadd (⟨[45]⟩ : Str) e1.2)
    else
      some e1.2

def spec_CellText (a_c : GCell) : Option Str :=
  (spec_CellOk a_c).bind fun v1 =>
  bif (!v1) then
    some (⟨[]⟩ : Str)
  else
    bif (a_c.Split == 1) then
      (spec_FormatInt a_c.A).bind fun v2 =>
      gd (v2.b.length + (⟨[47]⟩ : Str).b.length ≤ 1099511627776) <|
      (spec_FormatInt a_c.B).bind fun v3 =>
      gd ((sadd v2 (⟨[47]⟩ : Str)).b.length + v3.b.length ≤ 1099511627776) <|
      some (sadd (sadd v2 (⟨[47]⟩ : Str)) v3)
    else
      bif (a_c.Split == 2) then
        (spec_FormatInt a_c.A).bind fun v4 =>
        gd (v4.b.length + (⟨[92]⟩ : Str).b.length ≤ 1099511627776) <|
        (spec_FormatInt a_c.B).bind fun v5 =>
        gd ((sadd v4 (⟨[92]⟩ : Str)).b.length + v5.b.length ≤ 1099511627776) <|
        some (sadd (sadd v4 (⟨[92]⟩ : Str)) v5)
      else
        (spec_FormatInt a_c.A).bind fun v6 =>
        some v6

def spec_TextOf_L1 (a_b : GBlock) (k1 : Nat) (s1 : Str) : Option (Res Str Empty) :=
  (spec_BlockOk a_b).bind fun v1 =>
  bif v1 then
    (spec_CellText (gx a_b.Cells k1)).bind fun v2 =>
    gd (s1.b.length + v2.b.length ≤ 1099511627776) <|
    gd ((sadd s1 v2).b.length + (⟨[59]⟩ : Str).b.length ≤ 1099511627776) <|
    some (.next (sadd (sadd s1 v2) (⟨[59]⟩ : Str)))
  else
    some (.brk s1)

def spec_TextOf (a_b : GBlock) : Option Str :=
  gd (a_b.Cells.length ≤ 4611686018427387904) <|
  (lpO (spec_TextOf_L1 a_b) a_b.Cells.length (⟨[]⟩ : Str)).bind fun e1 =>
  some e1

def spec_LeastPattern_L1 (a_b : GBlock) (k1 : Nat) (s1 : Int × (List GCell)) : Option (Res (Int × (List GCell)) Empty) :=
  (spec_SeenFrom a_b (((k1 + 1) : Nat) : Int)).bind fun v3 =>
  (spec_l07Plain v3).bind fun v4 =>
  (spec_TextOf v4).bind fun v5 =>
  (spec_TextOf (GBlock.mk s1.1 s1.2)).bind fun v6 =>
  some (.next ((bif (slt v5 v6) then v4 else (GBlock.mk s1.1 s1.2)).Size, (bif (slt v5 v6) then v4 else (GBlock.mk s1.1 s1.2)).Cells))

def spec_LeastPattern (a_b : GBlock) : Option GBlock :=
  (spec_BlockOk a_b).bind fun v1 =>
  bif (!v1) then
    some (GBlock.mk 0 ([] : List GCell))
  else
    (spec_l07Plain a_b).bind fun v2 =>
    (lpO (spec_LeastPattern_L1 a_b) 7 (v2.Size, v2.Cells)).bind fun e1 =>
    some (GBlock.mk e1.1 e1.2)

def spec_SameBlock_L1 (a_b : GBlock) (a_d : GBlock) (k1 : Nat) (_ : Unit) : Option (Res Unit Bool) :=
  gd (k1 < a_d.Cells.length) <|
  bif (!(beqs [(gx a_b.Cells k1).Split, (gx a_b.Cells k1).A, (gx a_b.Cells k1).B] [(gx a_d.Cells k1).Split, (gx a_d.Cells k1).A, (gx a_d.Cells k1).B])) then
    some (.ret false)
  else
    some (.next ())

def spec_SameBlock (a_b : GBlock) (a_d : GBlock) : Option Bool :=
  bif ((a_b.Size != a_d.Size) || (((a_b.Cells.length : Nat) : Int) != ((a_d.Cells.length : Nat) : Int))) then
    some false
  else
    gd (a_b.Cells.length ≤ 4611686018427387904) <|
    sq (forO (spec_SameBlock_L1 a_b a_d) a_b.Cells.length 0 ()) fun _ =>
    some true

def spec_ArePatternsSame (a_b : GBlock) (a_d : GBlock) : Option Bool :=
  (
    (spec_BlockOk a_b).bind fun v1 =>
    bif v1 then
      (spec_BlockOk a_d).bind fun v2 =>
      bif v2 then
        (spec_LeastPattern a_b).bind fun v3 =>
        (spec_LeastPattern a_d).bind fun v4 =>
        (spec_SameBlock v3 v4).bind fun v5 =>
        some v5
      else
        some false
    else
      some false).bind fun j1 =>
  some j1

def spec_ColorsOf_L2 (a_b : GBlock) (k1 : Nat) (k2 : Nat) (s2 : Bool) : Option (Res Bool Empty) :=
  some (.next (s2 || (((gx a_b.Cells k2).A == ((k1 : Nat) : Int)) || ((gx a_b.Cells k2).B == ((k1 : Nat) : Int)))))

def spec_ColorsOf_L1 (a_b : GBlock) (k1 : Nat) (s1 : List Int) : Option (Res (List Int) Empty) :=
  gd (a_b.Cells.length ≤ 4611686018427387904) <|
  (lpO (spec_ColorsOf_L2 a_b k1) a_b.Cells.length false).bind fun e2 =>
  (
    bif e2 then
      gd (s1.length + 1 ≤ 1099511627776) <|
      some (s1 ++ [((k1 : Nat) : Int)])
    else
      some s1).bind fun j2 =>
  some (.next j2)

def spec_ColorsOf (a_b : GBlock) : Option (List Int) :=
  (spec_BlockOk a_b).bind fun v1 =>
  bif (!v1) then
    some ([] : List Int)
  else
    (lpO (spec_ColorsOf_L1 a_b) 6 ([] : List Int)).bind fun e1 =>
    some e1

def spec_l29Ok (a_b : GBlock) (a_d : GBlock) : Option Bool :=
  (
    (spec_BlockOk a_b).bind fun v1 =>
    bif v1 then
      (spec_BlockOk a_d).bind fun v2 =>
      bif v2 then
        some (a_b.Size == a_d.Size)
      else
        some false
    else
      some false).bind fun j1 =>
  some j1

def spec_ColorAt (a_c : GCell) (a_side : Int) : Option Int :=
  (
    (spec_CellOk a_c).bind fun v1 =>
    bif (!v1) then
      some true
    else
      (spec_l01In a_side 0 3).bind fun v2 =>
      some (!v2)).bind fun j1 =>
  bif j1 then
    some (-1)
  else
    bif ((a_side == 0) || (bif (a_side == 1) then ((a_c.Split == 1) || ((a_side == 3) && (a_c.Split == 2))) else ((a_side == 3) && (a_c.Split == 2)))) then
      some a_c.A
    else
      some a_c.B

def spec_l29Table_L1 (_ : Nat) (s1 : List (List Int)) : Option (Res (List (List Int)) Empty) :=
  gd (s1.length + 1 ≤ 1099511627776) <|
  some (.next (s1 ++ [(List.replicate 6 (0 : Int))]))

def spec_l29Table_L3 (a_b : GBlock) (a_d : GBlock) (k2 : Nat) (k3 : Nat) (s3 : List (List Int)) : Option (Res (List (List Int)) Empty) :=
  gd (k2 < a_d.Cells.length) <|
  (spec_ColorAt (gx a_d.Cells k2) ((k3 : Nat) : Int)).bind fun v1 =>
  (spec_ColorAt (gx a_b.Cells k2) ((k3 : Nat) : Int)).bind fun v2 =>
  gd (0 ≤ v1 ∧ v1 < ((s3.length : Nat) : Int)) <|
  gd (0 ≤ v2 ∧ v2 < (((gx s3 ((v1).toNat)).length : Nat) : Int)) <|
  some (.next (s3.set ((v1).toNat) ((gx s3 ((v1).toNat)).set ((v2).toNat) (wr ((gx (gx s3 ((v1).toNat)) ((v2).toNat)) + 1)))))

def spec_l29Table_L2 (a_b : GBlock) (a_d : GBlock) (k2 : Nat) (s2 : List (List Int)) : Option (Res (List (List Int)) Empty) :=
  (lpO (spec_l29Table_L3 a_b a_d k2) 4 s2).bind fun e3 =>
  some (.next e3)

def spec_l29Table (a_b : GBlock) (a_d : GBlock) : Option (List (List Int)) :=
  (lpO spec_l29Table_L1 6 ([] : List (List Int))).bind fun e1 =>
  gd (a_b.Cells.length ≤ 4611686018427387904) <|
  (lpO (spec_l29Table_L2 a_b a_d) a_b.Cells.length e1).bind fun e2 =>
  some e2

def spec_l29Best_L1 (rec : (List (List Int)) → (List Int) → Int → Int → Option Int) (a_t : List (List Int)) (a_l : List Int) (a_at : Int) (a_used : Int) (k1 : Nat) (s1 : Int) : Option (Res Int Empty) :=
  gd (0 ≤ ((k1 : Nat) : Int)) <|
  (
    bif ((andI (shrI a_used ((k1 : Nat) : Int)) 1) == 0) then
      gd (0 ≤ a_at ∧ a_at < ((a_l.length : Nat) : Int)) <|
      gd (0 ≤ (gx a_l ((a_at).toNat)) ∧ (gx a_l ((a_at).toNat)) < ((a_t.length : Nat) : Int)) <|
      gd (k1 < (gx a_t (((gx a_l ((a_at).toNat))).toNat)).length) <|
      (rec a_t a_l (wr (a_at + 1)) (orI a_used (shlI 1 ((k1 : Nat) : Int)))).bind fun v1 =>
      some (if (wr ((gx (gx a_t (((gx a_l ((a_at).toNat))).toNat)) k1) + v1)) > s1 then (wr ((gx (gx a_t (((gx a_l ((a_at).toNat))).toNat)) k1) + v1)) else s1)
    else
      some s1).bind fun j1 =>
  some (.next j1)

def spec_l29Best : Nat → (List (List Int)) → (List Int) → Int → Int → Option Int
  | 0, _, _, _, _ => none
  | fuel + 1, a_t, a_l, a_at, a_used =>
    bif (a_at == ((a_l.length : Nat) : Int)) then
      some 0
    else
      (lpO (spec_l29Best_L1 (spec_l29Best fuel) a_t a_l a_at a_used) 6 0).bind fun e1 =>
      some e1

def spec_PatternLikeness_L1 (a_b : GBlock) (a_d : GBlock) (v1 : List Int) (k1 : Nat) (s1 : Int) : Option (Res Int Empty) :=
  (spec_SeenFrom a_d ((k1 : Nat) : Int)).bind fun v3 =>
  (spec_l29Table a_b v3).bind fun v4 =>
  (spec_l29Best (v1.length + 1) v4 v1 0 0).bind fun v5 =>
  some (.next (if v5 > s1 then v5 else s1))

def spec_PatternLikeness (a_b : GBlock) (a_d : GBlock) : Option Int :=
  (spec_ColorsOf a_d).bind fun v1 =>
  (
    (spec_l29Ok a_b a_d).bind fun v2 =>
    bif (!v2) then
      some true
    else
      some (decide (((v1.length : Nat) : Int) > 3))).bind fun j1 =>
  bif j1 then
    some 0
  else
    (lpO (spec_PatternLikeness_L1 a_b a_d v1) 8 0).bind fun e1 =>
    some e1

def spec_VerdictOn (a_e : GEntry) (a_f : GEntry) : Option Int :=
  (
    (spec_EntryOk a_e).bind fun v1 =>
    bif (!v1) then
      some true
    else
      (spec_EntryOk a_f).bind fun v2 =>
      bif (!v2) then
        some true
      else
        some (a_e.Block.Size != a_f.Block.Size)).bind fun j1 =>
  bif j1 then
    some 0
  else
    (spec_ArePatternsSame a_e.Block a_f.Block).bind fun v3 =>
    bif v3 then
      some 3
    else
      (spec_PatternLikeness a_e.Block a_f.Block).bind fun v4 =>
      bif (decide ((wr (10 * v4)) ≥ (wr (36 * ((a_e.Block.Cells.length : Nat) : Int))))) then
        some 2
      else
        some 1

def spec_FirstOf_L1 (a_list : List GEntry) (a_e : GEntry) (k1 : Nat) (s1 : Int) : Option (Res Int Empty) :=
  bif (decide (((a_list.length : Nat) : Int) ≤ 10)) then
    (
      (spec_VerdictOn (gx a_list k1) a_e).bind fun v1 =>
      bif (v1 == 3) then
        bif (decide (s1 < 0)) then
          some true
        else
          gd (0 ≤ s1 ∧ s1 < ((a_list.length : Nat) : Int)) <|
          some (decide ((gx a_list k1).Day < (gx a_list ((s1).toNat)).Day))
      else
        some false).bind fun j1 =>
    some (.next (bif j1 then ((k1 : Nat) : Int) else s1))
  else
    some (.brk s1)

def spec_FirstOf (a_list : List GEntry) (a_e : GEntry) : Option Int :=
  gd (a_list.length ≤ 4611686018427387904) <|
  (lpO (spec_FirstOf_L1 a_list a_e) a_list.length (-1)).bind fun e1 =>
  some e1

def impl_within (a_n : Int) (a_a : Int) (a_b : Int) : Option Bool :=
  some ((decide (a_n ≥ a_a)) && (decide (a_n ≤ a_b)))

def impl_isColor (a_a : Int) : Option Bool :=
  (impl_within a_a 0 5).bind fun v1 =>
  some v1

def impl_CellOk (a_c : GCell) : Option Bool :=
  (
    (impl_within a_c.Split 0 2).bind fun v1 =>
    bif v1 then
      (impl_isColor a_c.A).bind fun v2 =>
      bif v2 then
        (impl_isColor a_c.B).bind fun v3 =>
        bif v3 then
          some ((a_c.Split == 0) == (a_c.A == a_c.B))
        else
          some false
      else
        some false
    else
      some false).bind fun j1 =>
  some j1

def impl_BlockOk_L1 (a_b : GBlock) (k1 : Nat) (_ : Unit) : Option (Res Unit Bool) :=
  (impl_CellOk (gx a_b.Cells k1)).bind fun v2 =>
  bif (!v2) then
    some (.ret false)
  else
    some (.next ())

def impl_BlockOk (a_b : GBlock) : Option Bool :=
  (
    (impl_within a_b.Size 1 4).bind fun v1 =>
    bif (!v1) then
      some true
    else
      some (((a_b.Cells.length : Nat) : Int) != (wr (a_b.Size * a_b.Size)))).bind fun j1 =>
  bif j1 then
    some false
  else
    gd (a_b.Cells.length ≤ 4611686018427387904) <|
    sq (forO (impl_BlockOk_L1 a_b) a_b.Cells.length 0 ()) fun _ =>
    some true

def impl_EntryOk (a_e : GEntry) : Option Bool :=
  (
    (impl_within a_e.Owner 0 99).bind fun v1 =>
    bif v1 then
      (impl_within a_e.Day 0 9999).bind fun v2 =>
      bif v2 then
        (impl_BlockOk a_e.Block).bind fun v3 =>
        some v3
      else
        some false
    else
      some false).bind fun j1 =>
  some j1

def impl_Block_copied (a_b : GBlock) : Option GBlock :=
  gd (([] : List GCell).length + a_b.Cells.length ≤ 1099511627776) <|
  some (GBlock.mk a_b.Size (([] : List GCell) ++ a_b.Cells))

def impl_Block_isPlace (a_b : GBlock) (a_x : Int) (a_y : Int) : Option Bool :=
  (
    (impl_BlockOk a_b).bind fun v1 =>
    bif v1 then
      (impl_within a_x 0 (wr (a_b.Size - 1))).bind fun v2 =>
      bif v2 then
        (impl_within a_y 0 (wr (a_b.Size - 1))).bind fun v3 =>
        some v3
      else
        some false
    else
      some false).bind fun j1 =>
  some j1

def impl_CellAt (a_b : GBlock) (a_x : Int) (a_y : Int) : Option GCell :=
  (impl_Block_isPlace a_b a_x a_y).bind fun v1 =>
  bif (!v1) then
    some (GCell.mk 0 0 0)
  else
    gd (0 ≤ (wr ((wr (a_y * a_b.Size)) + a_x)) ∧ (wr ((wr (a_y * a_b.Size)) + a_x)) < ((a_b.Cells.length : Nat) : Int)) <|
    some (gx a_b.Cells (((wr ((wr (a_y * a_b.Size)) + a_x))).toNat))

def impl_MirrorCell (a_c : GCell) : Option GCell :=
  (impl_CellOk a_c).bind fun v1 =>
  bif (!v1) then
    some (GCell.mk 0 0 0)
  else
    bif (a_c.Split == 0) then
      some a_c
    else
      some (GCell.mk (wr (3 - a_c.Split)) a_c.B a_c.A)

def impl_MirrorBlock_c1 (a_x : Int) (a_y : Int) (c_p2 : GBlock) : Option GCell :=
  (impl_CellAt c_p2 (wr ((wr (c_p2.Size - 1)) - a_x)) a_y).bind fun v1 =>
  (impl_MirrorCell v1).bind fun v2 =>
  some v2

def impl_made_L2 (a_one : Int → Int → Option GCell) (k1 : Nat) (k2 : Nat) (s2 : List GCell) : Option (Res (List GCell) Empty) :=
  (a_one ((k2 : Nat) : Int) ((k1 : Nat) : Int)).bind fun v1 =>
  gd (s2.length + 1 ≤ 1099511627776) <|
  some (.next (s2 ++ [v1]))

def impl_made_L1 (a_size : Int) (a_one : Int → Int → Option GCell) (k1 : Nat) (s1 : List GCell) : Option (Res (List GCell) Empty) :=
  (lpO (impl_made_L2 a_one k1) ((a_size).toNat) s1).bind fun e2 =>
  some (.next e2)

def impl_made (a_size : Int) (a_one : Int → Int → Option GCell) : Option GBlock :=
  gd ((a_size).toNat ≤ 4611686018427387904) <|
  (lpO (impl_made_L1 a_size a_one) ((a_size).toNat) ([] : List GCell)).bind fun e1 =>
  some (GBlock.mk a_size e1)

def impl_MirrorBlock (a_b : GBlock) : Option GBlock :=
  (impl_BlockOk a_b).bind fun v1 =>
  bif (!v1) then
    some (GBlock.mk 0 ([] : List GCell))
  else
    (impl_made a_b.Size (fun z0 z1 => impl_MirrorBlock_c1 z0 z1 a_b)).bind fun v2 =>
    some v2

def impl_TurnCell (a_c : GCell) : Option GCell :=
  (impl_CellOk a_c).bind fun v1 =>
  bif (!v1) then
    some (GCell.mk 0 0 0)
  else
    bif (a_c.Split == 1) then
      some (GCell.mk 2 a_c.B a_c.A)
    else
      bif (a_c.Split == 2) then
        some (GCell.mk 1 a_c.A a_c.B)
      else
        some a_c

def impl_TurnBlock_c1 (a_x : Int) (a_y : Int) (c_p2 : GBlock) : Option GCell :=
  (impl_CellAt c_p2 a_y (wr ((wr (c_p2.Size - 1)) - a_x))).bind fun v1 =>
  (impl_TurnCell v1).bind fun v2 =>
  some v2

def impl_TurnBlock (a_b : GBlock) : Option GBlock :=
  (impl_BlockOk a_b).bind fun v1 =>
  bif (!v1) then
    some (GBlock.mk 0 ([] : List GCell))
  else
    (impl_made a_b.Size (fun z0 z1 => impl_TurnBlock_c1 z0 z1 a_b)).bind fun v2 =>
    some v2

def impl_SeenFrom_L1 (_ : Nat) (s1 : Int × (List GCell)) : Option (Res (Int × (List GCell)) Empty) :=
  (impl_TurnBlock (GBlock.mk s1.1 s1.2)).bind fun v5 =>
  some (.next (v5.Size, v5.Cells))

def impl_SeenFrom (a_b : GBlock) (a_k : Int) : Option GBlock :=
  (
    (impl_BlockOk a_b).bind fun v1 =>
    bif (!v1) then
      some true
    else
      (impl_within a_k 0 7).bind fun v2 =>
      some (!v2)).bind fun j1 =>
  bif j1 then
    some (GBlock.mk 0 ([] : List GCell))
  else
    (impl_Block_copied a_b).bind fun v3 =>
    (
      bif (decide (a_k ≥ 4)) then
        (impl_MirrorBlock a_b).bind fun v4 =>
        some v4
      else
        some v3).bind fun j2 =>
    gd (((a_k.tmod 4)).toNat ≤ 4611686018427387904) <|
    (lpO impl_SeenFrom_L1 (((a_k.tmod 4)).toNat) ((j2).Size, (j2).Cells)).bind fun e1 =>
    some (GBlock.mk e1.1 e1.2)

def impl_views_L1 (a_b : GBlock) (k1 : Nat) (s1 : List GBlock) : Option (Res (List GBlock) Empty) :=
  (impl_SeenFrom a_b ((k1 : Nat) : Int)).bind fun v1 =>
  gd (s1.length + 1 ≤ 1099511627776) <|
  some (.next (s1 ++ [v1]))

def impl_views (a_b : GBlock) : Option (List GBlock) :=
  (lpO (impl_views_L1 a_b) 8 ([] : List GBlock)).bind fun e1 =>
  some e1

def impl_indexOf_L1 (a_list : List Int) (a_n : Int) (k1 : Nat) (_ : Unit) : Option (Res Unit Int) :=
  bif ((gx a_list k1) == a_n) then
    some (.ret ((k1 : Nat) : Int))
  else
    some (.next ())

def impl_indexOf (a_list : List Int) (a_n : Int) : Option Int :=
  gd (a_list.length ≤ 4611686018427387904) <|
  sq (forO (impl_indexOf_L1 a_list a_n) a_list.length 0 ()) fun _ =>
  some (-1)

def impl_put_L1 (a_list : List Int) (a_n : Int) (k1 : Nat) (s1 : (List Int) × Bool) : Option (Res ((List Int) × Bool) Empty) :=
  (
    bif ((!s1.2) && (decide (a_n ≤ (gx a_list k1)))) then
      gd (s1.1.length + 1 ≤ 1099511627776) <|
      some ((s1.1 ++ [a_n]), true)
    else
      some (s1.1, s1.2)).bind fun j2 =>
  gd (j2.1.length + 1 ≤ 1099511627776) <|
  some (.next ((j2.1 ++ [(gx a_list k1)]), j2.2))

def impl_put (a_list : List Int) (a_n : Int) : Option (List Int) :=
  gd (a_list.length ≤ 4611686018427387904) <|
  (lpO (impl_put_L1 a_list a_n) a_list.length (([] : List Int), false)).bind fun e1 =>
  (
    bif (!e1.2) then
      gd (e1.1.length + 1 ≤ 1099511627776) <|
      some (e1.1 ++ [a_n])
    else
      some e1.1).bind fun j3 =>
  some j3

def impl_sorted_L1 (a_list : List Int) (k1 : Nat) (s1 : List Int) : Option (Res (List Int) Empty) :=
  (impl_put s1 (gx a_list k1)).bind fun v1 =>
  some (.next v1)

def impl_sorted (a_list : List Int) : Option (List Int) :=
  gd (a_list.length ≤ 4611686018427387904) <|
  (lpO (impl_sorted_L1 a_list) a_list.length ([] : List Int)).bind fun e1 =>
  some e1

def impl_allWithin_L1 (a_list : List Int) (a_a : Int) (a_b : Int) (k1 : Nat) (_ : Unit) : Option (Res Unit Bool) :=
  (impl_within (gx a_list k1) a_a a_b).bind fun v1 =>
  bif (!v1) then
    some (.ret false)
  else
    some (.next ())

def impl_allWithin (a_list : List Int) (a_a : Int) (a_b : Int) : Option Bool :=
  gd (a_list.length ≤ 4611686018427387904) <|
  sq (forO (impl_allWithin_L1 a_list a_a a_b) a_list.length 0 ()) fun _ =>
  some true

def impl_isStrict_L1 (a_list : List Int) (k1 : Nat) (_ : Unit) : Option (Res Unit Bool) :=
  (
    bif (decide (((k1 : Nat) : Int) > 0)) then
      gd (0 ≤ (wr (((k1 : Nat) : Int) - 1)) ∧ (wr (((k1 : Nat) : Int) - 1)) < ((a_list.length : Nat) : Int)) <|
      some (decide ((gx a_list k1) ≤ (gx a_list (((wr (((k1 : Nat) : Int) - 1))).toNat))))
    else
      some false).bind fun j1 =>
  bif j1 then
    some (.ret false)
  else
    some (.next ())

def impl_isStrict (a_list : List Int) (a_a : Int) (a_b : Int) : Option Bool :=
  gd (a_list.length ≤ 4611686018427387904) <|
  sq (forO (impl_isStrict_L1 a_list) a_list.length 0 ()) fun _ =>
  (impl_allWithin a_list a_a a_b).bind fun v1 =>
  some v1

def impl_IsExchange (a_l : List Int) : Option Bool :=
  (
    bif (((a_l.length : Nat) : Int) == 6) then
      (impl_sorted a_l).bind fun v1 =>
      (impl_isStrict v1 0 5).bind fun v2 =>
      some v2
    else
      some false).bind fun j1 =>
  some j1

def impl_UndoList_L1 (a_l : List Int) (k1 : Nat) (s1 : List Int) : Option (Res (List Int) Empty) :=
  gd (0 ≤ (gx a_l k1) ∧ (gx a_l k1) < ((s1.length : Nat) : Int)) <|
  some (.next (s1.set (((gx a_l k1)).toNat) ((k1 : Nat) : Int)))

def impl_UndoList (a_l : List Int) : Option (List Int) :=
  (impl_IsExchange a_l).bind fun v1 =>
  bif (!v1) then
    some ([] : List Int)
  else
    gd (a_l.length ≤ 4611686018427387904) <|
    (lpO (impl_UndoList_L1 a_l) a_l.length (List.replicate 6 (0 : Int))).bind fun e1 =>
    some e1

def impl_FirstUse_L2 (a_b : GBlock) (k1 : Nat) (k2 : Nat) (s2 : List Int) : Option (Res (List Int) Empty) :=
  (impl_indexOf s2 (gx ([(gx a_b.Cells k1).A, (gx a_b.Cells k1).B] : List Int) k2)).bind fun v2 =>
  (
    bif (decide (v2 < 0)) then
      gd (s2.length + 1 ≤ 1099511627776) <|
      some (s2 ++ [(gx ([(gx a_b.Cells k1).A, (gx a_b.Cells k1).B] : List Int) k2)])
    else
      some s2).bind fun j1 =>
  some (.next j1)

def impl_FirstUse_L1 (a_b : GBlock) (k1 : Nat) (s1 : List Int) : Option (Res (List Int) Empty) :=
  gd (([(gx a_b.Cells k1).A, (gx a_b.Cells k1).B] : List Int).length ≤ 4611686018427387904) <|
  (lpO (impl_FirstUse_L2 a_b k1) (([(gx a_b.Cells k1).A, (gx a_b.Cells k1).B] : List Int).length) s1).bind fun e2 =>
  some (.next e2)

def impl_FirstUse_L3 (k3 : Nat) (s3 : List Int) : Option (Res (List Int) Empty) :=
  (impl_indexOf s3 ((k3 : Nat) : Int)).bind fun v3 =>
  (
    bif (decide (v3 < 0)) then
      gd (s3.length + 1 ≤ 1099511627776) <|
      some (s3 ++ [((k3 : Nat) : Int)])
    else
      some s3).bind fun j2 =>
  some (.next j2)

def impl_FirstUse (a_b : GBlock) : Option (List Int) :=
  (impl_BlockOk a_b).bind fun v1 =>
  bif (!v1) then
    some ([] : List Int)
  else
    gd (a_b.Cells.length ≤ 4611686018427387904) <|
    (lpO (impl_FirstUse_L1 a_b) a_b.Cells.length ([] : List Int)).bind fun e1 =>
    (lpO impl_FirstUse_L3 6 e1).bind fun e3 =>
    (impl_UndoList e3).bind fun v4 =>
    some v4

def impl_ListOk (a_l : List Int) : Option Bool :=
  (
    bif (((a_l.length : Nat) : Int) == 6) then
      (impl_allWithin a_l 0 5).bind fun v1 =>
      some v1
    else
      some false).bind fun j1 =>
  some j1

def impl_WholeCell (a_a : Int) : Option GCell :=
  (impl_isColor a_a).bind fun v1 =>
  bif (!v1) then
    some (GCell.mk 0 0 0)
  else
    some (GCell.mk 0 a_a a_a)

def impl_SplitCell (a_split : Int) (a_a : Int) (a_b : Int) : Option GCell :=
  bif (a_a == a_b) then
    (impl_WholeCell a_a).bind fun v1 =>
    some v1
  else
    (impl_CellOk (GCell.mk a_split a_a a_b)).bind fun v2 =>
    bif (!v2) then
      some (GCell.mk 0 0 0)
    else
      some (GCell.mk a_split a_a a_b)

def impl_ExchangeCell (a_c : GCell) (a_l : List Int) : Option GCell :=
  (
    (impl_CellOk a_c).bind fun v1 =>
    bif (!v1) then
      some true
    else
      (impl_ListOk a_l).bind fun v2 =>
      some (!v2)).bind fun j1 =>
  bif j1 then
    some (GCell.mk 0 0 0)
  else
    gd (0 ≤ a_c.A ∧ a_c.A < ((a_l.length : Nat) : Int)) <|
    gd (0 ≤ a_c.B ∧ a_c.B < ((a_l.length : Nat) : Int)) <|
    (impl_SplitCell a_c.Split (gx a_l ((a_c.A).toNat)) (gx a_l ((a_c.B).toNat))).bind fun v3 =>
    some v3

def impl_ExchangeBlock_c1 (a_x : Int) (a_y : Int) (c_p2 : GBlock) (c_p3 : List Int) : Option GCell :=
  (impl_CellAt c_p2 a_x a_y).bind fun v1 =>
  (impl_ExchangeCell v1 c_p3).bind fun v2 =>
  some v2

def impl_ExchangeBlock (a_b : GBlock) (a_l : List Int) : Option (GBlock × Bool) :=
  (
    (impl_BlockOk a_b).bind fun v1 =>
    bif (!v1) then
      some true
    else
      (impl_ListOk a_l).bind fun v2 =>
      some (!v2)).bind fun j1 =>
  bif j1 then
    (impl_Block_copied a_b).bind fun v3 =>
    some (v3, false)
  else
    (impl_made a_b.Size (fun z0 z1 => impl_ExchangeBlock_c1 z0 z1 a_b a_l)).bind fun v4 =>
    some (v4, true)

def impl_plain (a_b : GBlock) : Option GBlock :=
  (impl_FirstUse a_b).bind fun v1 =>
  (impl_ExchangeBlock a_b v1).bind fun v2 =>
  some v2.1

def strconv_Itoa (a_i : Int) : Option Str :=
  gd (0 ≤ a_i ∧ a_i < 10) <|
  some (⟨[UInt8.ofNat (48 + a_i.toNat)]⟩ : Str)

def impl_FormatInt (a_n : Int) : Option Str :=
  (strconv_Itoa a_n).bind fun v1 =>
  some v1

def impl_CellText (a_c : GCell) : Option Str :=
  (impl_CellOk a_c).bind fun v1 =>
  bif (!v1) then
    some (⟨[]⟩ : Str)
  else
    gd (0 ≤ a_c.Split ∧ a_c.Split < ((([(⟨[]⟩ : Str), (⟨[47]⟩ : Str), (⟨[92]⟩ : Str)] : List Str).length : Nat) : Int)) <|
    bif (seq (gx ([(⟨[]⟩ : Str), (⟨[47]⟩ : Str), (⟨[92]⟩ : Str)] : List Str) ((a_c.Split).toNat)) (⟨[]⟩ : Str)) then
      (impl_FormatInt a_c.A).bind fun v2 =>
      some v2
    else
      (impl_FormatInt a_c.A).bind fun v3 =>
      gd (v3.b.length + (gx ([(⟨[]⟩ : Str), (⟨[47]⟩ : Str), (⟨[92]⟩ : Str)] : List Str) ((a_c.Split).toNat)).b.length ≤ 1099511627776) <|
      (impl_FormatInt a_c.B).bind fun v4 =>
      gd ((sadd v3 (gx ([(⟨[]⟩ : Str), (⟨[47]⟩ : Str), (⟨[92]⟩ : Str)] : List Str) ((a_c.Split).toNat))).b.length + v4.b.length ≤ 1099511627776) <|
      some (sadd (sadd v3 (gx ([(⟨[]⟩ : Str), (⟨[47]⟩ : Str), (⟨[92]⟩ : Str)] : List Str) ((a_c.Split).toNat))) v4)

def impl_TextOf_L1 (a_b : GBlock) (k1 : Nat) (s1 : Str) : Option (Res Str Empty) :=
  (impl_CellText (gx a_b.Cells k1)).bind fun v2 =>
  gd (v2.b.length + (⟨[59]⟩ : Str).b.length ≤ 1099511627776) <|
  gd (s1.b.length + (sadd v2 (⟨[59]⟩ : Str)).b.length ≤ 1099511627776) <|
  some (.next (sadd s1 (sadd v2 (⟨[59]⟩ : Str))))

def impl_TextOf (a_b : GBlock) : Option Str :=
  (impl_BlockOk a_b).bind fun v1 =>
  bif (!v1) then
    some (⟨[]⟩ : Str)
  else
    gd (a_b.Cells.length ≤ 4611686018427387904) <|
    (lpO (impl_TextOf_L1 a_b) a_b.Cells.length (⟨[]⟩ : Str)).bind fun e1 =>
    some e1

def impl_least_L1 (a_list : List GBlock) (k1 : Nat) (s1 : Nat) : Option (Res Nat Empty) :=
  gd (s1 < a_list.length) <|
  (impl_TextOf (gx a_list k1)).bind fun v1 =>
  (impl_TextOf (gx a_list s1)).bind fun v2 =>
  some (.next (bif slt v1 v2 then k1 else s1))

def impl_least (a_list : List GBlock) : Option GBlock :=
  gd (0 < a_list.length) <|
  gd (a_list.length ≤ 4611686018427387904) <|
  (lpO (impl_least_L1 a_list) a_list.length 0).bind fun e1 =>
  gd (e1 < a_list.length) <|
  some (gx a_list e1)

def impl_LeastPattern_L1 (v2 : List GBlock) (k1 : Nat) (s1 : List GBlock) : Option (Res (List GBlock) Empty) :=
  (impl_plain (gx v2 k1)).bind fun v3 =>
  gd (s1.length + 1 ≤ 1099511627776) <|
  some (.next (s1 ++ [v3]))

def impl_LeastPattern (a_b : GBlock) : Option GBlock :=
  (impl_BlockOk a_b).bind fun v1 =>
  bif (!v1) then
    some (GBlock.mk 0 ([] : List GCell))
  else
    (impl_views a_b).bind fun v2 =>
    gd (v2.length ≤ 4611686018427387904) <|
    (lpO (impl_LeastPattern_L1 v2) v2.length ([] : List GBlock)).bind fun e1 =>
    (impl_least e1).bind fun v4 =>
    some v4

def impl_SameBlock_L1 (a_b : GBlock) (a_d : GBlock) (k1 : Nat) (_ : Unit) : Option (Res Unit Bool) :=
  gd (k1 < a_d.Cells.length) <|
  bif (!(beqs [(gx a_b.Cells k1).Split, (gx a_b.Cells k1).A, (gx a_b.Cells k1).B] [(gx a_d.Cells k1).Split, (gx a_d.Cells k1).A, (gx a_d.Cells k1).B])) then
    some (.ret false)
  else
    some (.next ())

def impl_SameBlock (a_b : GBlock) (a_d : GBlock) : Option Bool :=
  bif ((a_b.Size != a_d.Size) || (((a_b.Cells.length : Nat) : Int) != ((a_d.Cells.length : Nat) : Int))) then
    some false
  else
    gd (a_b.Cells.length ≤ 4611686018427387904) <|
    sq (forO (impl_SameBlock_L1 a_b a_d) a_b.Cells.length 0 ()) fun _ =>
    some true

def impl_ArePatternsSame (a_b : GBlock) (a_d : GBlock) : Option Bool :=
  (
    (impl_BlockOk a_b).bind fun v1 =>
    bif v1 then
      (impl_BlockOk a_d).bind fun v2 =>
      bif v2 then
        (impl_LeastPattern a_b).bind fun v3 =>
        (impl_LeastPattern a_d).bind fun v4 =>
        (impl_SameBlock v3 v4).bind fun v5 =>
        some v5
      else
        some false
    else
      some false).bind fun j1 =>
  some j1

def impl_arePaired (a_b : GBlock) (a_d : GBlock) : Option Bool :=
  (
    (impl_BlockOk a_b).bind fun v1 =>
    bif v1 then
      (impl_BlockOk a_d).bind fun v2 =>
      bif v2 then
        some (a_b.Size == a_d.Size)
      else
        some false
    else
      some false).bind fun j1 =>
  some j1

def impl_CellArea (a_c : GCell) (a_a : Int) : Option Int :=
  (
    (impl_CellOk a_c).bind fun v1 =>
    bif v1 then
      some (a_c.A == a_a)
    else
      some false).bind fun j1 =>
  (
    (impl_CellOk a_c).bind fun v2 =>
    bif v2 then
      some (a_c.B == a_a)
    else
      some false).bind fun j3 =>
  some (bif j3 then (wr ((bif j1 then (wr (0 + 2)) else 0) + 2)) else (bif j1 then (wr (0 + 2)) else 0))

def impl_AreaOf_L1 (a_b : GBlock) (a_a : Int) (k1 : Nat) (s1 : Int) : Option (Res Int Empty) :=
  (impl_CellArea (gx a_b.Cells k1) a_a).bind fun v2 =>
  some (.next (wr (s1 + v2)))

def impl_AreaOf (a_b : GBlock) (a_a : Int) : Option Int :=
  (impl_BlockOk a_b).bind fun v1 =>
  bif (!v1) then
    some 0
  else
    gd (a_b.Cells.length ≤ 4611686018427387904) <|
    (lpO (impl_AreaOf_L1 a_b a_a) a_b.Cells.length 0).bind fun e1 =>
    some e1

def impl_ColorsOf_L1 (a_b : GBlock) (k1 : Nat) (s1 : List Int) : Option (Res (List Int) Empty) :=
  (impl_AreaOf a_b ((k1 : Nat) : Int)).bind fun v2 =>
  (
    bif (decide (v2 > 0)) then
      gd (s1.length + 1 ≤ 1099511627776) <|
      some (s1 ++ [((k1 : Nat) : Int)])
    else
      some s1).bind fun j1 =>
  some (.next j1)

def impl_ColorsOf (a_b : GBlock) : Option (List Int) :=
  (impl_BlockOk a_b).bind fun v1 =>
  bif (!v1) then
    some ([] : List Int)
  else
    (lpO (impl_ColorsOf_L1 a_b) 6 ([] : List Int)).bind fun e1 =>
    some e1

def impl_choices_L1 (k1 : Nat) (s1 : Int) : Option (Res Int Empty) :=
  some (.next (wr (s1 * (wr (6 - ((k1 : Nat) : Int))))))

def impl_choices (a_n : Int) : Option Int :=
  gd ((a_n).toNat ≤ 4611686018427387904) <|
  (lpO impl_choices_L1 ((a_n).toNat) 1).bind fun e1 =>
  some e1

def impl_ColorwayCount (a_b : GBlock) : Option Int :=
  (impl_BlockOk a_b).bind fun v1 =>
  bif (!v1) then
    some 0
  else
    (impl_ColorsOf a_b).bind fun v2 =>
    (impl_choices ((v2.length : Nat) : Int)).bind fun v3 =>
    some v3

def impl_upTo_L1 (k1 : Nat) (s1 : List Int) : Option (Res (List Int) Empty) :=
  gd (s1.length + 1 ≤ 1099511627776) <|
  some (.next (s1 ++ [((k1 : Nat) : Int)]))

def impl_upTo (a_n : Int) : Option (List Int) :=
  gd ((a_n).toNat ≤ 4611686018427387904) <|
  (lpO impl_upTo_L1 ((a_n).toNat) ([] : List Int)).bind fun e1 =>
  some e1

def impl_ColorwayAt_L1 (v3 : List Int) (k1 : Nat) (s1 : Int × (List Int) × (List Int)) : Option (Res (Int × (List Int) × (List Int)) Empty) :=
  (impl_choices ((v3.length : Nat) : Int)).bind fun v5 =>
  (impl_choices ((k1 + 1 : Nat) : Int)).bind fun v6 =>
  gd (v6 ≠ 0) <|
  gd ((wr (v5.tdiv v6)) ≠ 0) <|
  gd (0 ≤ (wr (s1.1.tdiv (wr (v5.tdiv v6)))) ∧ (wr (s1.1.tdiv (wr (v5.tdiv v6)))) < ((s1.2.1.length : Nat) : Int)) <|
  gd (0 ≤ (gx v3 k1) ∧ (gx v3 k1) < ((s1.2.2.length : Nat) : Int)) <|
  gd (0 ≤ (wr (s1.1.tdiv (wr (v5.tdiv v6)))) ∧ 0 ≤ ((wr (s1.1.tdiv (wr (v5.tdiv v6))))).toNat ∧ ((wr (s1.1.tdiv (wr (v5.tdiv v6))))).toNat ≤ s1.2.1.length) <|
  gd (0 ≤ (wr ((wr (s1.1.tdiv (wr (v5.tdiv v6)))) + 1)) ∧ ((wr ((wr (s1.1.tdiv (wr (v5.tdiv v6)))) + 1))).toNat ≤ s1.2.1.length ∧ s1.2.1.length ≤ s1.2.1.length) <|
  gd (([] : List Int).length + ((s1.2.1.drop 0).take (((wr (s1.1.tdiv (wr (v5.tdiv v6))))).toNat - 0)).length ≤ 1099511627776) <|
  gd ((([] : List Int) ++ ((s1.2.1.drop 0).take (((wr (s1.1.tdiv (wr (v5.tdiv v6))))).toNat - 0))).length + ((s1.2.1.drop (((wr ((wr (s1.1.tdiv (wr (v5.tdiv v6)))) + 1))).toNat)).take (s1.2.1.length - (((wr ((wr (s1.1.tdiv (wr (v5.tdiv v6)))) + 1))).toNat))).length ≤ 1099511627776) <|
  some (.next ((s1.1.tmod (wr (v5.tdiv v6))), ((([] : List Int) ++ ((s1.2.1.drop 0).take (((wr (s1.1.tdiv (wr (v5.tdiv v6))))).toNat - 0))) ++ ((s1.2.1.drop (((wr ((wr (s1.1.tdiv (wr (v5.tdiv v6)))) + 1))).toNat)).take (s1.2.1.length - (((wr ((wr (s1.1.tdiv (wr (v5.tdiv v6)))) + 1))).toNat)))), (s1.2.2.set (((gx v3 k1)).toNat) (gx s1.2.1 (((wr (s1.1.tdiv (wr (v5.tdiv v6))))).toNat)))))

def impl_ColorwayAt (a_b : GBlock) (a_index : Int) : Option (GBlock × Bool) :=
  (impl_ColorwayCount a_b).bind fun v1 =>
  (impl_within a_index 0 (wr (v1 - 1))).bind fun v2 =>
  bif (!v2) then
    some ((GBlock.mk 0 ([] : List GCell)), false)
  else
    (impl_ColorsOf a_b).bind fun v3 =>
    (impl_upTo 6).bind fun v4 =>
    gd (v3.length ≤ 4611686018427387904) <|
    (lpO (impl_ColorwayAt_L1 v3) v3.length (a_index, v4, (List.replicate 6 (0 : Int)))).bind fun e1 =>
    (impl_ExchangeBlock a_b e1.2.2).bind fun v7 =>
    some (v7.1, v7.2)

def impl_ColorAt (a_c : GCell) (a_side : Int) : Option Int :=
  (
    (impl_CellOk a_c).bind fun v1 =>
    bif (!v1) then
      some true
    else
      (impl_within a_side 0 3).bind fun v2 =>
      some (!v2)).bind fun j1 =>
  bif j1 then
    some (-1)
  else
    bif ((a_side == 0) || (bif (a_c.Split == 1) then ((a_side == 1) || ((a_c.Split == 2) && (a_side == 3))) else ((a_c.Split == 2) && (a_side == 3)))) then
      some a_c.A
    else
      some a_c.B

def impl_CellLikeness_L1 (a_c : GCell) (a_d : GCell) (k1 : Nat) (s1 : Int) : Option (Res Int Empty) :=
  (impl_ColorAt a_c ((k1 : Nat) : Int)).bind fun v3 =>
  (impl_ColorAt a_d ((k1 : Nat) : Int)).bind fun v4 =>
  some (.next (bif (v3 == v4) then (wr (s1 + 1)) else s1))

def impl_CellLikeness (a_c : GCell) (a_d : GCell) : Option Int :=
  (
    (impl_CellOk a_c).bind fun v1 =>
    bif (!v1) then
      some true
    else
      (impl_CellOk a_d).bind fun v2 =>
      some (!v2)).bind fun j1 =>
  bif j1 then
    some 0
  else
    (lpO (impl_CellLikeness_L1 a_c a_d) 4 0).bind fun e1 =>
    some e1

def impl_Likeness_L1 (a_b : GBlock) (a_d : GBlock) (k1 : Nat) (s1 : Int) : Option (Res Int Empty) :=
  gd (k1 < a_d.Cells.length) <|
  (impl_CellLikeness (gx a_b.Cells k1) (gx a_d.Cells k1)).bind fun v2 =>
  some (.next (wr (s1 + v2)))

def impl_Likeness (a_b : GBlock) (a_d : GBlock) : Option Int :=
  (impl_arePaired a_b a_d).bind fun v1 =>
  bif (!v1) then
    some 0
  else
    gd (a_b.Cells.length ≤ 4611686018427387904) <|
    (lpO (impl_Likeness_L1 a_b a_d) a_b.Cells.length 0).bind fun e1 =>
    some e1

def impl_BestLikeness_L1 (a_b : GBlock) (v2 : List GBlock) (k1 : Nat) (s1 : Int) : Option (Res Int Empty) :=
  (impl_Likeness a_b (gx v2 k1)).bind fun v3 =>
  some (.next (if v3 > s1 then v3 else s1))

def impl_BestLikeness (a_b : GBlock) (a_d : GBlock) : Option Int :=
  (impl_arePaired a_b a_d).bind fun v1 =>
  bif (!v1) then
    some 0
  else
    (impl_views a_d).bind fun v2 =>
    gd (v2.length ≤ 4611686018427387904) <|
    (lpO (impl_BestLikeness_L1 a_b v2) v2.length 0).bind fun e1 =>
    some e1

def impl_PatternLikeness_L1 (a_b : GBlock) (a_d : GBlock) (k1 : Nat) (s1 : Int) : Option (Res Int Empty) :=
  (impl_ColorwayAt a_d ((k1 : Nat) : Int)).bind fun v4 =>
  (impl_BestLikeness a_b v4.1).bind fun v5 =>
  some (.next (if v5 > s1 then v5 else s1))

def impl_PatternLikeness (a_b : GBlock) (a_d : GBlock) : Option Int :=
  (
    (impl_arePaired a_b a_d).bind fun v1 =>
    bif (!v1) then
      some true
    else
      (impl_ColorsOf a_d).bind fun v2 =>
      some (decide (((v2.length : Nat) : Int) > 3))).bind fun j1 =>
  bif j1 then
    some 0
  else
    (impl_ColorwayCount a_d).bind fun v3 =>
    gd ((v3).toNat ≤ 4611686018427387904) <|
    (lpO (impl_PatternLikeness_L1 a_b a_d) ((v3).toNat) 0).bind fun e1 =>
    some e1

def impl_VerdictOn (a_e : GEntry) (a_f : GEntry) : Option Int :=
  (
    (impl_EntryOk a_e).bind fun v1 =>
    bif (!v1) then
      some true
    else
      (impl_EntryOk a_f).bind fun v2 =>
      bif (!v2) then
        some true
      else
        some (a_e.Block.Size != a_f.Block.Size)).bind fun j1 =>
  bif j1 then
    some 0
  else
    (impl_ArePatternsSame a_e.Block a_f.Block).bind fun v3 =>
    bif v3 then
      some 3
    else
      (impl_PatternLikeness a_e.Block a_f.Block).bind fun v4 =>
      bif (decide ((wr (10 * v4)) ≥ (wr (36 * ((a_e.Block.Cells.length : Nat) : Int))))) then
        some 2
      else
        some 1

def impl_FirstOf_L1 (a_list : List GEntry) (a_e : GEntry) (k1 : Nat) (s1 : Int) : Option (Res Int Empty) :=
  (
    (impl_VerdictOn (GEntry.mk ((gx a_list k1).Owner) ((gx a_list k1).Day) ((gx a_list k1).Block)) a_e).bind fun v1 =>
    bif (v1 == 3) then
      bif (decide (s1 < 0)) then
        some true
      else
        gd (0 ≤ s1 ∧ s1 < ((a_list.length : Nat) : Int)) <|
        some (decide ((gx a_list k1).Day < (gx a_list ((s1).toNat)).Day))
    else
      some false).bind fun j1 =>
  some (.next (bif j1 then ((k1 : Nat) : Int) else s1))

def impl_FirstOf (a_list : List GEntry) (a_e : GEntry) : Option Int :=
  bif (decide (((a_list.length : Nat) : Int) > 10)) then
    some (-1)
  else
    gd (a_list.length ≤ 4611686018427387904) <|
    (lpO (impl_FirstOf_L1 a_list a_e) a_list.length (-1)).bind fun e1 =>
    some e1

def laws_eqCell (a_a : GCell) (a_b : GCell) : Option Bool :=
  bif (a_a.Split != a_b.Split) then
    some false
  else
    bif (a_a.A != a_b.A) then
      some false
    else
      bif (a_a.B != a_b.B) then
        some false
      else
        some true

def laws_eqCellS_L1 (a_a : List GCell) (a_b : List GCell) (k1 : Nat) (_ : Unit) : Option (Res Unit Bool) :=
  gd (k1 < a_b.length) <|
  (laws_eqCell (gx a_a k1) (gx a_b k1)).bind fun v1 =>
  bif (!v1) then
    some (.ret false)
  else
    some (.next ())

def laws_eqCellS (a_a : List GCell) (a_b : List GCell) : Option Bool :=
  bif (((a_a.length : Nat) : Int) != ((a_b.length : Nat) : Int)) then
    some false
  else
    gd (a_a.length ≤ 4611686018427387904) <|
    sq (forO (laws_eqCellS_L1 a_a a_b) a_a.length 0 ()) fun _ =>
    some true

def laws_eqBlock (a_a : GBlock) (a_b : GBlock) : Option Bool :=
  bif (a_a.Size != a_b.Size) then
    some false
  else
    (laws_eqCellS a_a.Cells a_b.Cells).bind fun v1 =>
    bif (!v1) then
      some false
    else
      some true

def laws_eqEntry (a_a : GEntry) (a_b : GEntry) : Option Bool :=
  bif (a_a.Owner != a_b.Owner) then
    some false
  else
    bif (a_a.Day != a_b.Day) then
      some false
    else
      (laws_eqBlock a_a.Block a_b.Block).bind fun v1 =>
      bif (!v1) then
        some false
      else
        some true

def laws_eqEntryS_L1 (a_a : List GEntry) (a_b : List GEntry) (k1 : Nat) (_ : Unit) : Option (Res Unit Bool) :=
  gd (k1 < a_b.length) <|
  (laws_eqEntry (gx a_a k1) (gx a_b k1)).bind fun v1 =>
  bif (!v1) then
    some (.ret false)
  else
    some (.next ())

def laws_eqEntryS (a_a : List GEntry) (a_b : List GEntry) : Option Bool :=
  bif (((a_a.length : Nat) : Int) != ((a_b.length : Nat) : Int)) then
    some false
  else
    gd (a_a.length ≤ 4611686018427387904) <|
    sq (forO (laws_eqEntryS_L1 a_a a_b) a_a.length 0 ()) fun _ =>
    some true

def laws_FnExactFirstOf (a_aList : List GEntry) (a_aE : GEntry) : Option Bool :=
  (laws_szEntryS a_aList 1048576).bind fun v1 =>
  bif (decide (v1 < 0)) then
    some true
  else
    (laws_szEntry a_aE v1).bind fun v2 =>
    bif (decide (v2 < 0)) then
      some true
    else
      (laws_toEntryS a_aList).bind fun v3 =>
      (laws_toEntry a_aE).bind fun v4 =>
      (spec_FirstOf v3 v4).bind fun v5 =>
      (laws_toEntryS a_aList).bind fun v6 =>
      (laws_toEntry a_aE).bind fun v7 =>
      (impl_FirstOf v6 v7).bind fun v8 =>
      bif (v8 != v5) then
        some false
      else
        (laws_toEntryS a_aList).bind fun v9 =>
        (laws_eqEntryS v6 v9).bind fun v10 =>
        bif (!v10) then
          some false
        else
          (laws_toEntry a_aE).bind fun v11 =>
          (laws_eqEntry v7 v11).bind fun v12 =>
          bif (!v12) then
            some false
          else
            some true

end Go.Proofs.YtlfhlajpdmcnaabGreatDoor
