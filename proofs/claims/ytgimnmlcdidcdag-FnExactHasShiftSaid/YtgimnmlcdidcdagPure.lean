/-
  What the functions compute, as Lean functions.
-/
import Derived.Test.YtgimnmlcdidcdagTypes
namespace Go.Proofs.Ytgimnmlcdidcdag
open Go Go.RowKit

def laws_szSpotS (a_a : List GSpot) (a_left : Int) : Option Int :=
  bif (decide ((wr (a_left - ((a_a.length : Nat) : Int))) < 0)) then
    some (-1)
  else
    some (wr (a_left - ((a_a.length : Nat) : Int)))

def laws_szQuilt (a_a : GQuilt) (a_left : Int) : Option Int :=
  (laws_szSpotS a_a.Spots a_left).bind fun v1 =>
  bif (decide (v1 < 0)) then
    some (-1)
  else
    some v1

def laws_szCellS (a_a : List GCell) (a_left : Int) : Option Int :=
  bif (decide ((wr (a_left - ((a_a.length : Nat) : Int))) < 0)) then
    some (-1)
  else
    some (wr (a_left - ((a_a.length : Nat) : Int)))

def laws_szBlock (a_a : GBlock) (a_left : Int) : Option Int :=
  (laws_szCellS a_a.Cells a_left).bind fun v1 =>
  bif (decide (v1 < 0)) then
    some (-1)
  else
    some v1

def laws_szBlockS_L1 (a_a : List GBlock) (k1 : Nat) (s1 : Int) : Option (Res Int Int) :=
  (laws_szBlock (gx a_a k1) s1).bind fun v1 =>
  bif (decide (v1 < 0)) then
    some (.ret (-1))
  else
    some (.next v1)

def laws_szBlockS (a_a : List GBlock) (a_left : Int) : Option Int :=
  bif (decide ((wr (a_left - ((a_a.length : Nat) : Int))) < 0)) then
    some (-1)
  else
    gd (a_a.length ≤ 4611686018427387904) <|
    sq (forO (laws_szBlockS_L1 a_a) a_a.length 0 (wr (a_left - ((a_a.length : Nat) : Int)))) fun e1 =>
    some e1

def laws_toSpot (a_a : GSpot) : Option GSpot :=
  some a_a

def laws_toSpotS_L1 (a_a : List GSpot) (k1 : Nat) (s1 : List GSpot) : Option (Res (List GSpot) Empty) :=
  (laws_toSpot (gx a_a k1)).bind fun v1 =>
  gd (k1 < s1.length) <|
  some (.next (s1.set k1 v1))

def laws_toSpotS (a_a : List GSpot) : Option (List GSpot) :=
  gd (a_a.length ≤ 1099511627776) <|
  gd (a_a.length ≤ 4611686018427387904) <|
  (lpO (laws_toSpotS_L1 a_a) a_a.length (List.replicate a_a.length ((GSpot.mk 0 0) : GSpot))).bind fun e1 =>
  some e1

def laws_toQuilt (a_a : GQuilt) : Option GQuilt :=
  (laws_toSpotS a_a.Spots).bind fun v1 =>
  some (GQuilt.mk a_a.Width a_a.Height v1)

def laws_toCell (a_a : GCell) : Option GCell :=
  some a_a

def laws_toCellS_L1 (a_a : List GCell) (k1 : Nat) (s1 : List GCell) : Option (Res (List GCell) Empty) :=
  (laws_toCell (gx a_a k1)).bind fun v1 =>
  gd (k1 < s1.length) <|
  some (.next (s1.set k1 v1))

def laws_toCellS (a_a : List GCell) : Option (List GCell) :=
  gd (a_a.length ≤ 1099511627776) <|
  gd (a_a.length ≤ 4611686018427387904) <|
  (lpO (laws_toCellS_L1 a_a) a_a.length (List.replicate a_a.length ((GCell.mk 0 0 0) : GCell))).bind fun e1 =>
  some e1

def laws_toBlock (a_a : GBlock) : Option GBlock :=
  (laws_toCellS a_a.Cells).bind fun v1 =>
  some (GBlock.mk a_a.Size v1)

def laws_toBlockS_L1 (a_a : List GBlock) (k1 : Nat) (s1 : List GBlock) : Option (Res (List GBlock) Empty) :=
  (laws_toBlock (gx a_a k1)).bind fun v1 =>
  gd (k1 < s1.length) <|
  some (.next (s1.set k1 v1))

def laws_toBlockS (a_a : List GBlock) : Option (List GBlock) :=
  gd (a_a.length ≤ 1099511627776) <|
  gd (a_a.length ≤ 4611686018427387904) <|
  (lpO (laws_toBlockS_L1 a_a) a_a.length (List.replicate a_a.length ((GBlock.mk 0 ([] : List GCell)) : GBlock))).bind fun e1 =>
  some e1

def spec_l01In (a_x : Int) (a_least : Int) (a_most : Int) : Option Bool :=
  some ((decide (a_x ≥ a_least)) && (decide (a_x ≤ a_most)))

def spec_CellOk (a_c : GCell) : Option Bool :=
  (
    (spec_l01In a_c.Split 0 2).bind fun v1 =>
    bif (!v1) then
      some true
    else
      (spec_l01In a_c.A 0 5).bind fun v2 =>
      bif (!v2) then
        some true
      else
        (spec_l01In a_c.B 0 5).bind fun v3 =>
        some (!v3)).bind fun j1 =>
  bif j1 then
    some false
  else
    some ((a_c.Split == 0) == (a_c.A == a_c.B))

def spec_BlockOk_L1 (a_b : GBlock) (k1 : Nat) (_ : Unit) : Option (Res Unit Bool) :=
  (spec_CellOk (gx a_b.Cells k1)).bind fun v2 =>
  bif (!v2) then
    some (.ret false)
  else
    some (.next ())

def spec_BlockOk (a_b : GBlock) : Option Bool :=
  (
    (spec_l01In a_b.Size 1 4).bind fun v1 =>
    bif (!v1) then
      some true
    else
      some (((a_b.Cells.length : Nat) : Int) != (wr (a_b.Size * a_b.Size)))).bind fun j1 =>
  bif j1 then
    some false
  else
    gd (a_b.Cells.length ≤ 4611686018427387904) <|
    sq (forO (spec_BlockOk_L1 a_b) a_b.Cells.length 0 ()) fun _ =>
    some true

def spec_QuiltOk_L1 (a_blocks : List GBlock) (k1 : Nat) (_ : Unit) : Option (Res Unit Bool) :=
  (
    (spec_BlockOk (gx a_blocks k1)).bind fun v4 =>
    bif (!v4) then
      some true
    else
      gd (0 < a_blocks.length) <|
      some ((gx a_blocks k1).Size != (gx a_blocks 0).Size)).bind fun j2 =>
  bif j2 then
    some (.ret false)
  else
    some (.next ())

def spec_QuiltOk_L2 (a_q : GQuilt) (a_blocks : List GBlock) (k2 : Nat) (_ : Unit) : Option (Res Unit Bool) :=
  (
    (spec_l01In ((gx a_q.Spots k2).Block) 0 (wr (((a_blocks.length : Nat) : Int) - 1))).bind fun v5 =>
    bif (!v5) then
      some true
    else
      (spec_l01In ((gx a_q.Spots k2).Seen) 0 7).bind fun v6 =>
      some (!v6)).bind fun j3 =>
  bif j3 then
    some (.ret false)
  else
    some (.next ())

def spec_QuiltOk (a_q : GQuilt) (a_blocks : List GBlock) : Option Bool :=
  (
    (spec_l01In a_q.Width 1 6).bind fun v1 =>
    bif (!v1) then
      some true
    else
      (spec_l01In a_q.Height 1 6).bind fun v2 =>
      bif (!v2) then
        some true
      else
        (spec_l01In ((a_blocks.length : Nat) : Int) 1 6).bind fun v3 =>
        bif (!v3) then
          some true
        else
          some (((a_q.Spots.length : Nat) : Int) != (wr (a_q.Width * a_q.Height)))).bind fun j1 =>
  bif j1 then
    some false
  else
    gd (a_blocks.length ≤ 4611686018427387904) <|
    sq (forO (spec_QuiltOk_L1 a_blocks) a_blocks.length 0 ()) fun _ =>
    gd (a_q.Spots.length ≤ 4611686018427387904) <|
    sq (forO (spec_QuiltOk_L2 a_q a_blocks) a_q.Spots.length 0 ()) fun _ =>
    some true

def spec_l03Copy (a_b : GBlock) : Option GBlock :=
  gd (([] : List GCell).length + a_b.Cells.length ≤ 1099511627776) <|
  some (GBlock.mk a_b.Size (([] : List GCell) ++ a_b.Cells))

def spec_MirrorCell (a_c : GCell) : Option GCell :=
  (spec_CellOk a_c).bind fun v1 =>
  bif (!v1) then
    some (GCell.mk 0 0 0)
  else
    bif (a_c.Split == 0) then
      some a_c
    else
      some (GCell.mk (wr (3 - a_c.Split)) a_c.B a_c.A)

def spec_MirrorBlock_L2 (a_b : GBlock) (k1 : Nat) (k2 : Nat) (s2 : List GCell) : Option (Res (List GCell) Empty) :=
  gd (0 ≤ (wr ((wr ((wr ((wr (((k1 : Nat) : Int) * a_b.Size)) + a_b.Size)) - 1)) - ((k2 : Nat) : Int))) ∧ (wr ((wr ((wr ((wr (((k1 : Nat) : Int) * a_b.Size)) + a_b.Size)) - 1)) - ((k2 : Nat) : Int))) < ((a_b.Cells.length : Nat) : Int)) <|
  (spec_MirrorCell (gx a_b.Cells (((wr ((wr ((wr ((wr (((k1 : Nat) : Int) * a_b.Size)) + a_b.Size)) - 1)) - ((k2 : Nat) : Int)))).toNat))).bind fun v2 =>
  gd (s2.length + 1 ≤ 1099511627776) <|
  some (.next (s2 ++ [v2]))

def spec_MirrorBlock_L1 (a_b : GBlock) (k1 : Nat) (s1 : List GCell) : Option (Res (List GCell) Empty) :=
  (lpO (spec_MirrorBlock_L2 a_b k1) ((a_b.Size).toNat) s1).bind fun e2 =>
  some (.next e2)

def spec_MirrorBlock (a_b : GBlock) : Option GBlock :=
  (spec_BlockOk a_b).bind fun v1 =>
  bif (!v1) then
    some (GBlock.mk 0 ([] : List GCell))
  else
    gd ((a_b.Size).toNat ≤ 4611686018427387904) <|
    (lpO (spec_MirrorBlock_L1 a_b) ((a_b.Size).toNat) ([] : List GCell)).bind fun e1 =>
    some (GBlock.mk a_b.Size e1)

def spec_TurnCell (a_c : GCell) : Option GCell :=
  (spec_CellOk a_c).bind fun v1 =>
  bif (!v1) then
    some (GCell.mk 0 0 0)
  else
    bif (a_c.Split == 1) then
      some (GCell.mk 2 a_c.B a_c.A)
    else
      bif (a_c.Split == 2) then
        some (GCell.mk 1 a_c.A a_c.B)
      else
        some a_c

def spec_TurnBlock_L2 (a_b : GBlock) (k1 : Nat) (k2 : Nat) (s2 : List GCell) : Option (Res (List GCell) Empty) :=
  gd (0 ≤ (wr ((wr ((wr ((wr (a_b.Size - 1)) - ((k2 : Nat) : Int))) * a_b.Size)) + ((k1 : Nat) : Int))) ∧ (wr ((wr ((wr ((wr (a_b.Size - 1)) - ((k2 : Nat) : Int))) * a_b.Size)) + ((k1 : Nat) : Int))) < ((a_b.Cells.length : Nat) : Int)) <|
  (spec_TurnCell (gx a_b.Cells (((wr ((wr ((wr ((wr (a_b.Size - 1)) - ((k2 : Nat) : Int))) * a_b.Size)) + ((k1 : Nat) : Int)))).toNat))).bind fun v2 =>
  gd (s2.length + 1 ≤ 1099511627776) <|
  some (.next (s2 ++ [v2]))

def spec_TurnBlock_L1 (a_b : GBlock) (k1 : Nat) (s1 : List GCell) : Option (Res (List GCell) Empty) :=
  (lpO (spec_TurnBlock_L2 a_b k1) ((a_b.Size).toNat) s1).bind fun e2 =>
  some (.next e2)

def spec_TurnBlock (a_b : GBlock) : Option GBlock :=
  (spec_BlockOk a_b).bind fun v1 =>
  bif (!v1) then
    some (GBlock.mk 0 ([] : List GCell))
  else
    gd ((a_b.Size).toNat ≤ 4611686018427387904) <|
    (lpO (spec_TurnBlock_L1 a_b) ((a_b.Size).toNat) ([] : List GCell)).bind fun e1 =>
    some (GBlock.mk a_b.Size e1)

def spec_SeenFrom_L1 (_ : Nat) (s1 : Int × (List GCell)) : Option (Res (Int × (List GCell)) Empty) :=
  (spec_TurnBlock (GBlock.mk s1.1 s1.2)).bind fun v5 =>
  some (.next (v5.Size, v5.Cells))

def spec_SeenFrom (a_b : GBlock) (a_k : Int) : Option GBlock :=
  (
    (spec_BlockOk a_b).bind fun v1 =>
    bif (!v1) then
      some true
    else
      (spec_l01In a_k 0 7).bind fun v2 =>
      some (!v2)).bind fun j1 =>
  bif j1 then
    some (GBlock.mk 0 ([] : List GCell))
  else
    (spec_l03Copy a_b).bind fun v3 =>
    (
      bif (decide (a_k ≥ 4)) then
        (spec_MirrorBlock a_b).bind fun v4 =>
        some v4
      else
        some v3).bind fun j2 =>
    gd (((a_k.tmod 4)).toNat ≤ 4611686018427387904) <|
    (lpO spec_SeenFrom_L1 (((a_k.tmod 4)).toNat) ((j2).Size, (j2).Cells)).bind fun e1 =>
    some (GBlock.mk e1.1 e1.2)

def spec_l01Figure (a_x : Int) : Option UInt8 :=
  bif (decide (a_x < 10)) then
    some (u8of (wr (48 + a_x)))
  else
    some (u8of (wr ((wr (97 + a_x)) - 10)))

def spec_FormatInt_L1 (s1 : Int × Str) : Option (Res (Int × Str) Empty) :=
  bif (s1.1 != 0) then
    (spec_l01Figure (bif (decide ((s1.1.tmod 10) < 0)) then (wr (0 - (s1.1.tmod 10))) else (s1.1.tmod 10))).bind fun v1 =>
    gd ((⟨([v1] : List UInt8)⟩ : Str).b.length + s1.2.b.length ≤ 1099511627776) <|
    some (.next ((wr (s1.1.tdiv 10)), (sadd (⟨([v1] : List UInt8)⟩ : Str) s1.2)))
  else
    some (.brk (s1.1, s1.2))

def spec_FormatInt (a_n : Int) : Option Str :=
  bif (a_n == 0) then
    some (⟨[48]⟩ : Str)
  else
    (wlO spec_FormatInt_L1 18446744073709551616 (a_n, (⟨[]⟩ : Str))).bind fun e1 =>
    bif (decide (a_n < 0)) then
      gd ((⟨[45]⟩ : Str).b.length + e1.2.b.length ≤ 1099511627776) <|
      some (sadd (⟨[45]⟩ : Str) e1.2)
    else
      some e1.2

def spec_CellText (a_c : GCell) : Option Str :=
  (spec_CellOk a_c).bind fun v1 =>
  bif (!v1) then
    some (⟨[]⟩ : Str)
  else
    bif (a_c.Split == 1) then
      (spec_FormatInt a_c.A).bind fun v2 =>
      gd (v2.b.length + (⟨[47]⟩ : Str).b.length ≤ 1099511627776) <|
      (spec_FormatInt a_c.B).bind fun v3 =>
      gd ((sadd v2 (⟨[47]⟩ : Str)).b.length + v3.b.length ≤ 1099511627776) <|
      some (sadd (sadd v2 (⟨[47]⟩ : Str)) v3)
    else
      bif (a_c.Split == 2) then
        (spec_FormatInt a_c.A).bind fun v4 =>
        gd (v4.b.length + (⟨[92]⟩ : Str).b.length ≤ 1099511627776) <|
        (spec_FormatInt a_c.B).bind fun v5 =>
        gd ((sadd v4 (⟨[92]⟩ : Str)).b.length + v5.b.length ≤ 1099511627776) <|
        some (sadd (sadd v4 (⟨[92]⟩ : Str)) v5)
      else
        (spec_FormatInt a_c.A).bind fun v6 =>
        some v6

def spec_TextOf_L1 (a_b : GBlock) (k1 : Nat) (s1 : Str) : Option (Res Str Empty) :=
  (spec_BlockOk a_b).bind fun v1 =>
  bif v1 then
    (spec_CellText (gx a_b.Cells k1)).bind fun v2 =>
    gd (s1.b.length + v2.b.length ≤ 1099511627776) <|
    gd ((sadd s1 v2).b.length + (⟨[59]⟩ : Str).b.length ≤ 1099511627776) <|
    some (.next (sadd (sadd s1 v2) (⟨[59]⟩ : Str)))
  else
    some (.brk s1)

def spec_TextOf (a_b : GBlock) : Option Str :=
  gd (a_b.Cells.length ≤ 4611686018427387904) <|
  (lpO (spec_TextOf_L1 a_b) a_b.Cells.length (⟨[]⟩ : Str)).bind fun e1 =>
  some e1

def spec_l18Shows_L1 (a_q : GQuilt) (a_blocks : List GBlock) (k1 : Nat) (s1 : List Str) : Option (Res (List Str) Empty) :=
  gd (0 ≤ (gx a_q.Spots k1).Block ∧ (gx a_q.Spots k1).Block < ((a_blocks.length : Nat) : Int)) <|
  (spec_SeenFrom (gx a_blocks (((gx a_q.Spots k1).Block).toNat)) ((gx a_q.Spots k1).Seen)).bind fun v1 =>
  (spec_TextOf v1).bind fun v2 =>
  gd (s1.length + 1 ≤ 1099511627776) <|
  some (.next (s1 ++ [v2]))

def spec_l18Shows (a_q : GQuilt) (a_blocks : List GBlock) : Option (List Str) :=
  gd (a_q.Spots.length ≤ 4611686018427387904) <|
  (lpO (spec_l18Shows_L1 a_q a_blocks) a_q.Spots.length ([] : List Str)).bind fun e1 =>
  some e1

def spec_l18Same_L2 (a_q : GQuilt) (a_t : List Str) (a_dx : Int) (a_dy : Int) (k1 : Nat) (k2 : Nat) (_ : Unit) : Option (Res Unit (Res Unit Bool)) :=
  gd (0 ≤ (wr ((wr (((k1 : Nat) : Int) * a_q.Width)) + ((k2 : Nat) : Int))) ∧ (wr ((wr (((k1 : Nat) : Int) * a_q.Width)) + ((k2 : Nat) : Int))) < ((a_t.length : Nat) : Int)) <|
  gd (a_q.Height ≠ 0) <|
  gd (a_q.Width ≠ 0) <|
  gd (0 ≤ (wr ((wr (((wr (((k1 : Nat) : Int) + a_dy)).tmod a_q.Height) * a_q.Width)) + ((wr (((k2 : Nat) : Int) + a_dx)).tmod a_q.Width))) ∧ (wr ((wr (((wr (((k1 : Nat) : Int) + a_dy)).tmod a_q.Height) * a_q.Width)) + ((wr (((k2 : Nat) : Int) + a_dx)).tmod a_q.Width))) < ((a_t.length : Nat) : Int)) <|
  bif (!(seq (gx a_t (((wr ((wr (((k1 : Nat) : Int) * a_q.Width)) + ((k2 : Nat) : Int)))).toNat)) (gx a_t (((wr ((wr (((wr (((k1 : Nat) : Int) + a_dy)).tmod a_q.Height) * a_q.Width)) + ((wr (((k2 : Nat) : Int) + a_dx)).tmod a_q.Width)))).toNat)))) then
    some (.ret (.ret false))
  else
    some (.next ())

def spec_l18Same_L1 (a_q : GQuilt) (a_t : List Str) (a_dx : Int) (a_dy : Int) (k1 : Nat) (_ : Unit) : Option (Res Unit Bool) :=
  gd ((a_q.Width).toNat ≤ 4611686018427387904) <|
  sq (forO (spec_l18Same_L2 a_q a_t a_dx a_dy k1) ((a_q.Width).toNat) 0 ()) fun _ =>
  some (.next ())

def spec_l18Same (a_q : GQuilt) (a_t : List Str) (a_dx : Int) (a_dy : Int) : Option Bool :=
  gd ((a_q.Height).toNat ≤ 4611686018427387904) <|
  sq (forO (spec_l18Same_L1 a_q a_t a_dx a_dy) ((a_q.Height).toNat) 0 ()) fun _ =>
  some true

def spec_HasShift (a_q : GQuilt) (a_blocks : List GBlock) (a_dx : Int) (a_dy : Int) : Option Bool :=
  (
    (spec_QuiltOk a_q a_blocks).bind fun v1 =>
    bif (!v1) then
      some true
    else
      (spec_l01In a_dx 0 (wr (a_q.Width - 1))).bind fun v2 =>
      bif (!v2) then
        some true
      else
        (spec_l01In a_dy 0 (wr (a_q.Height - 1))).bind fun v3 =>
        some (!v3)).bind fun j1 =>
  bif j1 then
    some false
  else
    (spec_l18Shows a_q a_blocks).bind fun v4 =>
    (spec_l18Same a_q v4 a_dx a_dy).bind fun v5 =>
    some v5

def impl_within (a_n : Int) (a_a : Int) (a_b : Int) : Option Bool :=
  some ((decide (a_n ≥ a_a)) && (decide (a_n ≤ a_b)))

def impl_isQuilt_L1 (a_q : GQuilt) (a_most : Int) (k1 : Nat) (_ : Unit) : Option (Res Unit Bool) :=
  (
    (impl_within ((gx a_q.Spots k1).Block) 0 a_most).bind fun v3 =>
    bif (!v3) then
      some true
    else
      (impl_within ((gx a_q.Spots k1).Seen) 0 7).bind fun v4 =>
      some (!v4)).bind fun j2 =>
  bif j2 then
    some (.ret false)
  else
    some (.next ())

def impl_isQuilt (a_q : GQuilt) (a_most : Int) : Option Bool :=
  (
    (impl_within a_q.Width 1 6).bind fun v1 =>
    bif (!v1) then
      some true
    else
      (impl_within a_q.Height 1 6).bind fun v2 =>
      bif (!v2) then
        some true
      else
        some (((a_q.Spots.length : Nat) : Int) != (wr (a_q.Width * a_q.Height)))).bind fun j1 =>
  bif j1 then
    some false
  else
    gd (a_q.Spots.length ≤ 4611686018427387904) <|
    sq (forO (impl_isQuilt_L1 a_q a_most) a_q.Spots.length 0 ()) fun _ =>
    some true

def impl_isColor (a_a : Int) : Option Bool :=
  (impl_within a_a 0 5).bind fun v1 =>
  some v1

def impl_CellOk (a_c : GCell) : Option Bool :=
  (
    (impl_within a_c.Split 0 2).bind fun v1 =>
    bif v1 then
      (impl_isColor a_c.A).bind fun v2 =>
      bif v2 then
        (impl_isColor a_c.B).bind fun v3 =>
        bif v3 then
          some ((a_c.Split == 0) == (a_c.A == a_c.B))
        else
          some false
      else
        some false
    else
      some false).bind fun j1 =>
  some j1

def impl_BlockOk_L1 (a_b : GBlock) (k1 : Nat) (_ : Unit) : Option (Res Unit Bool) :=
  (impl_CellOk (gx a_b.Cells k1)).bind fun v2 =>
  bif (!v2) then
    some (.ret false)
  else
    some (.next ())

def impl_BlockOk (a_b : GBlock) : Option Bool :=
  (
    (impl_within a_b.Size 1 4).bind fun v1 =>
    bif (!v1) then
      some true
    else
      some (((a_b.Cells.length : Nat) : Int) != (wr (a_b.Size * a_b.Size)))).bind fun j1 =>
  bif j1 then
    some false
  else
    gd (a_b.Cells.length ≤ 4611686018427387904) <|
    sq (forO (impl_BlockOk_L1 a_b) a_b.Cells.length 0 ()) fun _ =>
    some true

def impl_QuiltOk_L1 (a_blocks : List GBlock) (k1 : Nat) (_ : Unit) : Option (Res Unit Bool) :=
  (
    (impl_BlockOk (gx a_blocks k1)).bind fun v3 =>
    bif (!v3) then
      some true
    else
      gd (0 < a_blocks.length) <|
      some ((gx a_blocks k1).Size != (gx a_blocks 0).Size)).bind fun j2 =>
  bif j2 then
    some (.ret false)
  else
    some (.next ())

def impl_QuiltOk (a_q : GQuilt) (a_blocks : List GBlock) : Option Bool :=
  (
    (impl_isQuilt a_q (wr (((a_blocks.length : Nat) : Int) - 1))).bind fun v1 =>
    bif (!v1) then
      some true
    else
      (impl_within ((a_blocks.length : Nat) : Int) 1 6).bind fun v2 =>
      some (!v2)).bind fun j1 =>
  bif j1 then
    some false
  else
    gd (a_blocks.length ≤ 4611686018427387904) <|
    sq (forO (impl_QuiltOk_L1 a_blocks) a_blocks.length 0 ()) fun _ =>
    some true

def impl_isShift (a_q : GQuilt) (a_dx : Int) (a_dy : Int) : Option Bool :=
  (
    (impl_within a_dx 0 (wr (a_q.Width - 1))).bind fun v1 =>
    bif v1 then
      (impl_within a_dy 0 (wr (a_q.Height - 1))).bind fun v2 =>
      some v2
    else
      some false).bind fun j1 =>
  some j1

def impl_Block_copied (a_b : GBlock) : Option GBlock :=
  gd (([] : List GCell).length + a_b.Cells.length ≤ 1099511627776) <|
  some (GBlock.mk a_b.Size (([] : List GCell) ++ a_b.Cells))

def impl_Block_isPlace (a_b : GBlock) (a_x : Int) (a_y : Int) : Option Bool :=
  (
    (impl_BlockOk a_b).bind fun v1 =>
    bif v1 then
      (impl_within a_x 0 (wr (a_b.Size - 1))).bind fun v2 =>
      bif v2 then
        (impl_within a_y 0 (wr (a_b.Size - 1))).bind fun v3 =>
        some v3
      else
        some false
    else
      some false).bind fun j1 =>
  some j1

def impl_CellAt (a_b : GBlock) (a_x : Int) (a_y : Int) : Option GCell :=
  (impl_Block_isPlace a_b a_x a_y).bind fun v1 =>
  bif (!v1) then
    some (GCell.mk 0 0 0)
  else
    gd (0 ≤ (wr ((wr (a_y * a_b.Size)) + a_x)) ∧ (wr ((wr (a_y * a_b.Size)) + a_x)) < ((a_b.Cells.length : Nat) : Int)) <|
    some (gx a_b.Cells (((wr ((wr (a_y * a_b.Size)) + a_x))).toNat))

def impl_MirrorCell (a_c : GCell) : Option GCell :=
  (impl_CellOk a_c).bind fun v1 =>
  bif (!v1) then
    some (GCell.mk 0 0 0)
  else
    bif (a_c.Split == 0) then
      some a_c
    else
      some (GCell.mk (wr (3 - a_c.Split)) a_c.B a_c.A)

def impl_MirrorBlock_c1 (a_x : Int) (a_y : Int) (c_p2 : GBlock) : Option GCell :=
  (impl_CellAt c_p2 (wr ((wr (c_p2.Size - 1)) - a_x)) a_y).bind fun v1 =>
  (impl_MirrorCell v1).bind fun v2 =>
  some v2

def impl_made_L2 (a_one : Int → Int → Option GCell) (k1 : Nat) (k2 : Nat) (s2 : List GCell) : Option (Res (List GCell) Empty) :=
  (a_one ((k2 : Nat) : Int) ((k1 : Nat) : Int)).bind fun v1 =>
  gd (s2.length + 1 ≤ 1099511627776) <|
  some (.next (s2 ++ [v1]))

def impl_made_L1 (a_size : Int) (a_one : Int → Int → Option GCell) (k1 : Nat) (s1 : List GCell) : Option (Res (List GCell) Empty) :=
  (lpO (impl_made_L2 a_one k1) ((a_size).toNat) s1).bind fun e2 =>
  some (.next e2)

def impl_made (a_size : Int) (a_one : Int → Int → Option GCell) : Option GBlock :=
  gd ((a_size).toNat ≤ 4611686018427387904) <|
  (lpO (impl_made_L1 a_size a_one) ((a_size).toNat) ([] : List GCell)).bind fun e1 =>
  some (GBlock.mk a_size e1)

def impl_MirrorBlock (a_b : GBlock) : Option GBlock :=
  (impl_BlockOk a_b).bind fun v1 =>
  bif (!v1) then
    some (GBlock.mk 0 ([] : List GCell))
  else
    (impl_made a_b.Size (fun z0 z1 => impl_MirrorBlock_c1 z0 z1 a_b)).bind fun v2 =>
    some v2

def impl_TurnCell (a_c : GCell) : Option GCell :=
  (impl_CellOk a_c).bind fun v1 =>
  bif (!v1) then
    some (GCell.mk 0 0 0)
  else
    bif (a_c.Split == 1) then
      some (GCell.mk 2 a_c.B a_c.A)
    else
      bif (a_c.Split == 2) then
        some (GCell.mk 1 a_c.A a_c.B)
      else
        some a_c

def impl_TurnBlock_c1 (a_x : Int) (a_y : Int) (c_p2 : GBlock) : Option GCell :=
  (impl_CellAt c_p2 a_y (wr ((wr (c_p2.Size - 1)) - a_x))).bind fun v1 =>
  (impl_TurnCell v1).bind fun v2 =>
  some v2

def impl_TurnBlock (a_b : GBlock) : Option GBlock :=
  (impl_BlockOk a_b).bind fun v1 =>
  bif (!v1) then
    some (GBlock.mk 0 ([] : List GCell))
  else
    (impl_made a_b.Size (fun z0 z1 => impl_TurnBlock_c1 z0 z1 a_b)).bind fun v2 =>
    some v2

def impl_SeenFrom_L1 (_ : Nat) (s1 : Int × (List GCell)) : Option (Res (Int × (List GCell)) Empty) :=
  (impl_TurnBlock (GBlock.mk s1.1 s1.2)).bind fun v5 =>
  some (.next (v5.Size, v5.Cells))

def impl_SeenFrom (a_b : GBlock) (a_k : Int) : Option GBlock :=
  (
    (impl_BlockOk a_b).bind fun v1 =>
    bif (!v1) then
      some true
    else
      (impl_within a_k 0 7).bind fun v2 =>
      some (!v2)).bind fun j1 =>
  bif j1 then
    some (GBlock.mk 0 ([] : List GCell))
  else
    (impl_Block_copied a_b).bind fun v3 =>
    (
      bif (decide (a_k ≥ 4)) then
        (impl_MirrorBlock a_b).bind fun v4 =>
        some v4
      else
        some v3).bind fun j2 =>
    gd (((a_k.tmod 4)).toNat ≤ 4611686018427387904) <|
    (lpO impl_SeenFrom_L1 (((a_k.tmod 4)).toNat) ((j2).Size, (j2).Cells)).bind fun e1 =>
    some (GBlock.mk e1.1 e1.2)

def impl_shown_L1 (a_q : GQuilt) (a_blocks : List GBlock) (k1 : Nat) (s1 : List GBlock) : Option (Res (List GBlock) Empty) :=
  gd (0 ≤ (gx a_q.Spots k1).Block ∧ (gx a_q.Spots k1).Block < ((a_blocks.length : Nat) : Int)) <|
  (impl_SeenFrom (gx a_blocks (((gx a_q.Spots k1).Block).toNat)) ((gx a_q.Spots k1).Seen)).bind fun v1 =>
  gd (s1.length + 1 ≤ 1099511627776) <|
  some (.next (s1 ++ [v1]))

def impl_shown (a_q : GQuilt) (a_blocks : List GBlock) : Option (List GBlock) :=
  gd (a_q.Spots.length ≤ 4611686018427387904) <|
  (lpO (impl_shown_L1 a_q a_blocks) a_q.Spots.length ([] : List GBlock)).bind fun e1 =>
  some e1

def impl_shifted (a_q : GQuilt) (a_i : Int) (a_dx : Int) (a_dy : Int) : Option Int :=
  gd (a_q.Width ≠ 0) <|
  gd (a_q.Height ≠ 0) <|
  some (wr ((wr (((wr ((wr (a_i.tdiv a_q.Width)) + a_dy)).tmod a_q.Height) * a_q.Width)) + ((wr ((a_i.tmod a_q.Width) + a_dx)).tmod a_q.Width)))

def impl_SameBlock_L1 (a_b : GBlock) (a_d : GBlock) (k1 : Nat) (_ : Unit) : Option (Res Unit Bool) :=
  gd (k1 < a_d.Cells.length) <|
  bif (!(beqs [(gx a_b.Cells k1).Split, (gx a_b.Cells k1).A, (gx a_b.Cells k1).B] [(gx a_d.Cells k1).Split, (gx a_d.Cells k1).A, (gx a_d.Cells k1).B])) then
    some (.ret false)
  else
    some (.next ())

def impl_SameBlock (a_b : GBlock) (a_d : GBlock) : Option Bool :=
  bif ((a_b.Size != a_d.Size) || (((a_b.Cells.length : Nat) : Int) != ((a_d.Cells.length : Nat) : Int))) then
    some false
  else
    gd (a_b.Cells.length ≤ 4611686018427387904) <|
    sq (forO (impl_SameBlock_L1 a_b a_d) a_b.Cells.length 0 ()) fun _ =>
    some true

def impl_HasShift_L1 (a_q : GQuilt) (a_dx : Int) (a_dy : Int) (v3 : List GBlock) (k1 : Nat) (_ : Unit) : Option (Res Unit Bool) :=
  (impl_shifted a_q ((k1 : Nat) : Int) a_dx a_dy).bind fun v4 =>
  gd (0 ≤ v4 ∧ v4 < ((v3.length : Nat) : Int)) <|
  (impl_SameBlock (gx v3 k1) (gx v3 ((v4).toNat))).bind fun v5 =>
  bif (!v5) then
    some (.ret false)
  else
    some (.next ())

def impl_HasShift (a_q : GQuilt) (a_blocks : List GBlock) (a_dx : Int) (a_dy : Int) : Option Bool :=
  (
    (impl_QuiltOk a_q a_blocks).bind fun v1 =>
    bif (!v1) then
      some true
    else
      (impl_isShift a_q a_dx a_dy).bind fun v2 =>
      some (!v2)).bind fun j1 =>
  bif j1 then
    some false
  else
    (impl_shown a_q a_blocks).bind fun v3 =>
    gd (v3.length ≤ 4611686018427387904) <|
    sq (forO (impl_HasShift_L1 a_q a_dx a_dy v3) v3.length 0 ()) fun _ =>
    some true

def laws_eqSpot (a_a : GSpot) (a_b : GSpot) : Option Bool :=
  bif (a_a.Block != a_b.Block) then
    some false
  else
    bif (a_a.Seen != a_b.Seen) then
      some false
    else
      some true

def laws_eqSpotS_L1 (a_a : List GSpot) (a_b : List GSpot) (k1 : Nat) (_ : Unit) : Option (Res Unit Bool) :=
  gd (k1 < a_b.length) <|
  (laws_eqSpot (gx a_a k1) (gx a_b k1)).bind fun v1 =>
  bif (!v1) then
    some (.ret false)
  else
    some (.next ())

def laws_eqSpotS (a_a : List GSpot) (a_b : List GSpot) : Option Bool :=
  bif (((a_a.length : Nat) : Int) != ((a_b.length : Nat) : Int)) then
    some false
  else
    gd (a_a.length ≤ 4611686018427387904) <|
    sq (forO (laws_eqSpotS_L1 a_a a_b) a_a.length 0 ()) fun _ =>
    some true

def laws_eqQuilt (a_a : GQuilt) (a_b : GQuilt) : Option Bool :=
  bif (a_a.Width != a_b.Width) then
    some false
  else
    bif (a_a.Height != a_b.Height) then
      some false
    else
      (laws_eqSpotS a_a.Spots a_b.Spots).bind fun v1 =>
      bif (!v1) then
        some false
      else
        some true

def laws_eqCell (a_a : GCell) (a_b : GCell) : Option Bool :=
  bif (a_a.Split != a_b.Split) then
    some false
  else
    bif (a_a.A != a_b.A) then
      some false
    else
      bif (a_a.B != a_b.B) then
        some false
      else
        some true

def laws_eqCellS_L1 (a_a : List GCell) (a_b : List GCell) (k1 : Nat) (_ : Unit) : Option (Res Unit Bool) :=
  gd (k1 < a_b.length) <|
  (laws_eqCell (gx a_a k1) (gx a_b k1)).bind fun v1 =>
  bif (!v1) then
    some (.ret false)
  else
    some (.next ())

def laws_eqCellS (a_a : List GCell) (a_b : List GCell) : Option Bool :=
  bif (((a_a.length : Nat) : Int) != ((a_b.length : Nat) : Int)) then
    some false
  else
    gd (a_a.length ≤ 4611686018427387904) <|
    sq (forO (laws_eqCellS_L1 a_a a_b) a_a.length 0 ()) fun _ =>
    some true

def laws_eqBlock (a_a : GBlock) (a_b : GBlock) : Option Bool :=
  bif (a_a.Size != a_b.Size) then
    some false
  else
    (laws_eqCellS a_a.Cells a_b.Cells).bind fun v1 =>
    bif (!v1) then
      some false
    else
      some true

def laws_eqBlockS_L1 (a_a : List GBlock) (a_b : List GBlock) (k1 : Nat) (_ : Unit) : Option (Res Unit Bool) :=
  gd (k1 < a_b.length) <|
  (laws_eqBlock (gx a_a k1) (gx a_b k1)).bind fun v1 =>
  bif (!v1) then
    some (.ret false)
  else
    some (.next ())

def laws_eqBlockS (a_a : List GBlock) (a_b : List GBlock) : Option Bool :=
  bif (((a_a.length : Nat) : Int) != ((a_b.length : Nat) : Int)) then
    some false
  else
    gd (a_a.length ≤ 4611686018427387904) <|
    sq (forO (laws_eqBlockS_L1 a_a a_b) a_a.length 0 ()) fun _ =>
    some true

def laws_FnExactHasShift (a_aQ : GQuilt) (a_aBlocks : List GBlock) (a_aDx : Int) (a_aDy : Int) : Option Bool :=
  (laws_szQuilt a_aQ 1048576).bind fun v1 =>
  bif (decide (v1 < 0)) then
    some true
  else
    (laws_szBlockS a_aBlocks v1).bind fun v2 =>
    bif (decide (v2 < 0)) then
      some true
    else
      (laws_toQuilt a_aQ).bind fun v3 =>
      (laws_toBlockS a_aBlocks).bind fun v4 =>
      (spec_HasShift v3 v4 a_aDx a_aDy).bind fun v5 =>
      (laws_toQuilt a_aQ).bind fun v6 =>
      (laws_toBlockS a_aBlocks).bind fun v7 =>
      (impl_HasShift v6 v7 a_aDx a_aDy).bind fun v8 =>
      bif (!(v8 == v5)) then
        some false
      else
        (laws_toQuilt a_aQ).bind fun v9 =>
        (laws_eqQuilt v6 v9).bind fun v10 =>
        bif (!v10) then
          some false
        else
          (laws_toBlockS a_aBlocks).bind fun v11 =>
          (laws_eqBlockS v7 v11).bind fun v12 =>
          bif (!v12) then
            some false
          else
            some true

end Go.Proofs.Ytgimnmlcdidcdag
