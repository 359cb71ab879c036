/-
  What the functions compute, as Lean functions.
-/
import Derived.Test.YtgimnmlcdidcdaeTypes
namespace Go.Proofs.Ytgimnmlcdidcdae
open Go Go.RowKit

def laws_szSpotS (a_a : List GSpot) (a_left : Int) : Option Int :=
  bif (decide ((wr (a_left - ((a_a.length : Nat) : Int))) < 0)) then
    some (-1)
  else
    some (wr (a_left - ((a_a.length : Nat) : Int)))

def laws_szQuilt (a_a : GQuilt) (a_left : Int) : Option Int :=
  (laws_szSpotS a_a.Spots a_left).bind fun v1 =>
  bif (decide (v1 < 0)) then
    some (-1)
  else
    some v1

def laws_szCellS (a_a : List GCell) (a_left : Int) : Option Int :=
  bif (decide ((wr (a_left - ((a_a.length : Nat) : Int))) < 0)) then
    some (-1)
  else
    some (wr (a_left - ((a_a.length : Nat) : Int)))

def laws_szBlock (a_a : GBlock) (a_left : Int) : Option Int :=
  (laws_szCellS a_a.Cells a_left).bind fun v1 =>
  bif (decide (v1 < 0)) then
    some (-1)
  else
    some v1

def laws_szBlockS_L1 (a_a : List GBlock) (k1 : Nat) (s1 : Int) : Option (Res Int Int) :=
  (laws_szBlock (gx a_a k1) s1).bind fun v1 =>
  bif (decide (v1 < 0)) then
    some (.ret (-1))
  else
    some (.next v1)

def laws_szBlockS (a_a : List GBlock) (a_left : Int) : Option Int :=
  bif (decide ((wr (a_left - ((a_a.length : Nat) : Int))) < 0)) then
    some (-1)
  else
    gd (a_a.length ≤ 4611686018427387904) <|
    sq (forO (laws_szBlockS_L1 a_a) a_a.length 0 (wr (a_left - ((a_a.length : Nat) : Int)))) fun e1 =>
    some e1

def laws_toSpot (a_a : GSpot) : Option GSpot :=
  some a_a

def laws_toSpotS_L1 (a_a : List GSpot) (k1 : Nat) (s1 : List GSpot) : Option (Res (List GSpot) Empty) :=
  (laws_toSpot (gx a_a k1)).bind fun v1 =>
  gd (k1 < s1.length) <|
  some (.next (s1.set k1 v1))

def laws_toSpotS (a_a : List GSpot) : Option (List GSpot) :=
  gd (a_a.length ≤ 1099511627776) <|
  gd (a_a.length ≤ 4611686018427387904) <|
  (lpO (laws_toSpotS_L1 a_a) a_a.length (List.replicate a_a.length ((GSpot.mk 0 0) : GSpot))).bind fun e1 =>
  some e1

def laws_toQuilt (a_a : GQuilt) : Option GQuilt :=
  (laws_toSpotS a_a.Spots).bind fun v1 =>
  some (GQuilt.mk a_a.Width a_a.Height v1)

def laws_toCell (a_a : GCell) : Option GCell :=
  some a_a

def laws_toCellS_L1 (a_a : List GCell) (k1 : Nat) (s1 : List GCell) : Option (Res (List GCell) Empty) :=
  (laws_toCell (gx a_a k1)).bind fun v1 =>
  gd (k1 < s1.length) <|
  some (.next (s1.set k1 v1))

def laws_toCellS (a_a : List GCell) : Option (List GCell) :=
  gd (a_a.length ≤ 1099511627776) <|
  gd (a_a.length ≤ 4611686018427387904) <|
  (lpO (laws_toCellS_L1 a_a) a_a.length (List.replicate a_a.length ((GCell.mk 0 0 0) : GCell))).bind fun e1 =>
  some e1

def laws_toBlock (a_a : GBlock) : Option GBlock :=
  (laws_toCellS a_a.Cells).bind fun v1 =>
  some (GBlock.mk a_a.Size v1)

def laws_toBlockS_L1 (a_a : List GBlock) (k1 : Nat) (s1 : List GBlock) : Option (Res (List GBlock) Empty) :=
  (laws_toBlock (gx a_a k1)).bind fun v1 =>
  gd (k1 < s1.length) <|
  some (.next (s1.set k1 v1))

def laws_toBlockS (a_a : List GBlock) : Option (List GBlock) :=
  gd (a_a.length ≤ 1099511627776) <|
  gd (a_a.length ≤ 4611686018427387904) <|
  (lpO (laws_toBlockS_L1 a_a) a_a.length (List.replicate a_a.length ((GBlock.mk 0 ([] : List GCell)) : GBlock))).bind fun e1 =>
  some e1

def spec_l01In (a_x : Int) (a_least : Int) (a_most : Int) : Option Bool :=
  some ((decide (a_x ≥ a_least)) && (decide (a_x ≤ a_most)))

def spec_CellOk (a_c : GCell) : Option Bool :=
  (
    (spec_l01In a_c.Split 0 2).bind fun v1 =>
    bif (!v1) then
      some true
    else
      (spec_l01In a_c.A 0 5).bind fun v2 =>
      bif (!v2) then
        some true
      else
        (spec_l01In a_c.B 0 5).bind fun v3 =>
        some (!v3)).bind fun j1 =>
  bif j1 then
    some false
  else
    some ((a_c.Split == 0) == (a_c.A == a_c.B))

def spec_BlockOk_L1 (a_b : GBlock) (k1 : Nat) (_ : Unit) : Option (Res Unit Bool) :=
  (spec_CellOk (gx a_b.Cells k1)).bind fun v2 =>
  bif (!v2) then
    some (.ret false)
  else
    some (.next ())

def spec_BlockOk (a_b : GBlock) : Option Bool :=
  (
    (spec_l01In a_b.Size 1 4).bind fun v1 =>
    bif (!v1) then
      some true
    else
      some (((a_b.Cells.length : Nat) : Int) != (wr (a_b.Size * a_b.Size)))).bind fun j1 =>
  bif j1 then
    some false
  else
    gd (a_b.Cells.length ≤ 4611686018427387904) <|
    sq (forO (spec_BlockOk_L1 a_b) a_b.Cells.length 0 ()) fun _ =>
    some true

def spec_QuiltOk_L1 (a_blocks : List GBlock) (k1 : Nat) (_ : Unit) : Option (Res Unit Bool) :=
  (
    (spec_BlockOk (gx a_blocks k1)).bind fun v4 =>
    bif (!v4) then
      some true
    else
      gd (0 < a_blocks.length) <|
      some ((gx a_blocks k1).Size != (gx a_blocks 0).Size)).bind fun j2 =>
  bif j2 then
    some (.ret false)
  else
    some (.next ())

def spec_QuiltOk_L2 (a_q : GQuilt) (a_blocks : List GBlock) (k2 : Nat) (_ : Unit) : Option (Res Unit Bool) :=
  (
    (spec_l01In ((gx a_q.Spots k2).Block) 0 (wr (((a_blocks.length : Nat) : Int) - 1))).bind fun v5 =>
    bif (!v5) then
      some true
    else
      (spec_l01In ((gx a_q.Spots k2).Seen) 0 7).bind fun v6 =>
      some (!v6)).bind fun j3 =>
  bif j3 then
    some (.ret false)
  else
    some (.next ())

def spec_QuiltOk (a_q : GQuilt) (a_blocks : List GBlock) : Option Bool :=
  (
    (spec_l01In a_q.Width 1 6).bind fun v1 =>
    bif (!v1) then
      some true
    else
      (spec_l01In a_q.Height 1 6).bind fun v2 =>
      bif (!v2) then
        some true
      else
        (spec_l01In ((a_blocks.length : Nat) : Int) 1 6).bind fun v3 =>
        bif (!v3) then
          some true
        else
          some (((a_q.Spots.length : Nat) : Int) != (wr (a_q.Width * a_q.Height)))).bind fun j1 =>
  bif j1 then
    some false
  else
    gd (a_blocks.length ≤ 4611686018427387904) <|
    sq (forO (spec_QuiltOk_L1 a_blocks) a_blocks.length 0 ()) fun _ =>
    gd (a_q.Spots.length ≤ 4611686018427387904) <|
    sq (forO (spec_QuiltOk_L2 a_q a_blocks) a_q.Spots.length 0 ()) fun _ =>
    some true

def spec_UseOf_L1 (a_q : GQuilt) (k1 : Nat) (s1 : List Int) : Option (Res (List Int) Empty) :=
  gd (0 ≤ (gx a_q.Spots k1).Block ∧ (gx a_q.Spots k1).Block < ((s1.length : Nat) : Int)) <|
  some (.next (s1.set (((gx a_q.Spots k1).Block).toNat) (wr ((gx s1 (((gx a_q.Spots k1).Block).toNat)) + 1))))

def spec_UseOf (a_q : GQuilt) (a_blocks : List GBlock) : Option (List Int) :=
  (spec_QuiltOk a_q a_blocks).bind fun v1 =>
  bif (!v1) then
    some ([] : List Int)
  else
    gd (a_blocks.length ≤ 1099511627776) <|
    gd (a_q.Spots.length ≤ 4611686018427387904) <|
    (lpO (spec_UseOf_L1 a_q) a_q.Spots.length (List.replicate a_blocks.length (0 : Int))).bind fun e1 =>
    some e1

def spec_CellArea (a_c : GCell) (a_a : Int) : Option Int :=
  (spec_CellOk a_c).bind fun v1 =>
  bif (!v1) then
    some 0
  else
    some (bif (a_c.B == a_a) then (wr ((bif (a_c.A == a_a) then (wr (0 + 2)) else 0) + 2)) else (bif (a_c.A == a_a) then (wr (0 + 2)) else 0))

def spec_AreaOf_L1 (a_b : GBlock) (a_a : Int) (k1 : Nat) (s1 : Int) : Option (Res Int Empty) :=
  (spec_CellArea (gx a_b.Cells k1) a_a).bind fun v2 =>
  some (.next (wr (s1 + v2)))

def spec_AreaOf (a_b : GBlock) (a_a : Int) : Option Int :=
  (spec_BlockOk a_b).bind fun v1 =>
  bif (!v1) then
    some 0
  else
    gd (a_b.Cells.length ≤ 4611686018427387904) <|
    (lpO (spec_AreaOf_L1 a_b a_a) a_b.Cells.length 0).bind fun e1 =>
    some e1

def spec_QuiltAreas_L2 (a_blocks : List GBlock) (v1 : List Int) (k1 : Nat) (k2 : Nat) (s2 : List Int) : Option (Res (List Int) Empty) :=
  gd (k2 < s2.length) <|
  gd (k1 < a_blocks.length) <|
  (spec_AreaOf (gx a_blocks k1) ((k2 : Nat) : Int)).bind fun v2 =>
  some (.next (s2.set k2 (wr ((gx s2 k2) + (wr ((gx v1 k1) * v2))))))

def spec_QuiltAreas_L1 (a_blocks : List GBlock) (v1 : List Int) (k1 : Nat) (s1 : List Int) : Option (Res (List Int) Empty) :=
  (lpO (spec_QuiltAreas_L2 a_blocks v1 k1) 6 s1).bind fun e2 =>
  some (.next e2)

def spec_QuiltAreas (a_q : GQuilt) (a_blocks : List GBlock) : Option (List Int) :=
  (spec_UseOf a_q a_blocks).bind fun v1 =>
  bif (((v1.length : Nat) : Int) == 0) then
    some ([] : List Int)
  else
    gd (v1.length ≤ 4611686018427387904) <|
    (lpO (spec_QuiltAreas_L1 a_blocks v1) v1.length (List.replicate 6 (0 : Int))).bind fun e1 =>
    some e1

def impl_within (a_n : Int) (a_a : Int) (a_b : Int) : Option Bool :=
  some ((decide (a_n ≥ a_a)) && (decide (a_n ≤ a_b)))

def impl_isQuilt_L1 (a_q : GQuilt) (a_most : Int) (k1 : Nat) (_ : Unit) : Option (Res Unit Bool) :=
  (
    (impl_within ((gx a_q.Spots k1).Block) 0 a_most).bind fun v3 =>
    bif (!v3) then
      some true
    else
      (impl_within ((gx a_q.Spots k1).Seen) 0 7).bind fun v4 =>
      some (!v4)).bind fun j2 =>
  bif j2 then
    some (.ret false)
  else
    some (.next ())

def impl_isQuilt (a_q : GQuilt) (a_most : Int) : Option Bool :=
  (
    (impl_within a_q.Width 1 6).bind fun v1 =>
    bif (!v1) then
      some true
    else
      (impl_within a_q.Height 1 6).bind fun v2 =>
      bif (!v2) then
        some true
      else
        some (((a_q.Spots.length : Nat) : Int) != (wr (a_q.Width * a_q.Height)))).bind fun j1 =>
  bif j1 then
    some false
  else
    gd (a_q.Spots.length ≤ 4611686018427387904) <|
    sq (forO (impl_isQuilt_L1 a_q a_most) a_q.Spots.length 0 ()) fun _ =>
    some true

def impl_isColor (a_a : Int) : Option Bool :=
  (impl_within a_a 0 5).bind fun v1 =>
  some v1

def impl_CellOk (a_c : GCell) : Option Bool :=
  (
    (impl_within a_c.Split 0 2).bind fun v1 =>
    bif v1 then
      (impl_isColor a_c.A).bind fun v2 =>
      bif v2 then
        (impl_isColor a_c.B).bind fun v3 =>
        bif v3 then
          some ((a_c.Split == 0) == (a_c.A == a_c.B))
        else
          some false
      else
        some false
    else
      some false).bind fun j1 =>
  some j1

def impl_BlockOk_L1 (a_b : GBlock) (k1 : Nat) (_ : Unit) : Option (Res Unit Bool) :=
  (impl_CellOk (gx a_b.Cells k1)).bind fun v2 =>
  bif (!v2) then
    some (.ret false)
  else
    some (.next ())

def impl_BlockOk (a_b : GBlock) : Option Bool :=
  (
    (impl_within a_b.Size 1 4).bind fun v1 =>
    bif (!v1) then
      some true
    else
      some (((a_b.Cells.length : Nat) : Int) != (wr (a_b.Size * a_b.Size)))).bind fun j1 =>
  bif j1 then
    some false
  else
    gd (a_b.Cells.length ≤ 4611686018427387904) <|
    sq (forO (impl_BlockOk_L1 a_b) a_b.Cells.length 0 ()) fun _ =>
    some true

def impl_QuiltOk_L1 (a_blocks : List GBlock) (k1 : Nat) (_ : Unit) : Option (Res Unit Bool) :=
  (
    (impl_BlockOk (gx a_blocks k1)).bind fun v3 =>
    bif (!v3) then
      some true
    else
      gd (0 < a_blocks.length) <|
      some ((gx a_blocks k1).Size != (gx a_blocks 0).Size)).bind fun j2 =>
  bif j2 then
    some (.ret false)
  else
    some (.next ())

def impl_QuiltOk (a_q : GQuilt) (a_blocks : List GBlock) : Option Bool :=
  (
    (impl_isQuilt a_q (wr (((a_blocks.length : Nat) : Int) - 1))).bind fun v1 =>
    bif (!v1) then
      some true
    else
      (impl_within ((a_blocks.length : Nat) : Int) 1 6).bind fun v2 =>
      some (!v2)).bind fun j1 =>
  bif j1 then
    some false
  else
    gd (a_blocks.length ≤ 4611686018427387904) <|
    sq (forO (impl_QuiltOk_L1 a_blocks) a_blocks.length 0 ()) fun _ =>
    some true

def impl_Block_copied (a_b : GBlock) : Option GBlock :=
  gd (([] : List GCell).length + a_b.Cells.length ≤ 1099511627776) <|
  some (GBlock.mk a_b.Size (([] : List GCell) ++ a_b.Cells))

def impl_Block_isPlace (a_b : GBlock) (a_x : Int) (a_y : Int) : Option Bool :=
  (
    (impl_BlockOk a_b).bind fun v1 =>
    bif v1 then
      (impl_within a_x 0 (wr (a_b.Size - 1))).bind fun v2 =>
      bif v2 then
        (impl_within a_y 0 (wr (a_b.Size - 1))).bind fun v3 =>
        some v3
      else
        some false
    else
      some false).bind fun j1 =>
  some j1

def impl_CellAt (a_b : GBlock) (a_x : Int) (a_y : Int) : Option GCell :=
  (impl_Block_isPlace a_b a_x a_y).bind fun v1 =>
  bif (!v1) then
    some (GCell.mk 0 0 0)
  else
    gd (0 ≤ (wr ((wr (a_y * a_b.Size)) + a_x)) ∧ (wr ((wr (a_y * a_b.Size)) + a_x)) < ((a_b.Cells.length : Nat) : Int)) <|
    some (gx a_b.Cells (((wr ((wr (a_y * a_b.Size)) + a_x))).toNat))

def impl_MirrorCell (a_c : GCell) : Option GCell :=
  (impl_CellOk a_c).bind fun v1 =>
  bif (!v1) then
    some (GCell.mk 0 0 0)
  else
    bif (a_c.Split == 0) then
      some a_c
    else
      some (GCell.mk (wr (3 - a_c.Split)) a_c.B a_c.A)

def impl_MirrorBlock_c1 (a_x : Int) (a_y : Int) (c_p2 : GBlock) : Option GCell :=
  (impl_CellAt c_p2 (wr ((wr (c_p2.Size - 1)) - a_x)) a_y).bind fun v1 =>
  (impl_MirrorCell v1).bind fun v2 =>
  some v2

def impl_made_L2 (a_one : Int → Int → Option GCell) (k1 : Nat) (k2 : Nat) (s2 : List GCell) : Option (Res (List GCell) Empty) :=
  (a_one ((k2 : Nat) : Int) ((k1 : Nat) : Int)).bind fun v1 =>
  gd (s2.length + 1 ≤ 1099511627776) <|
  some (.next (s2 ++ [v1]))

def impl_made_L1 (a_size : Int) (a_one : Int → Int → Option GCell) (k1 : Nat) (s1 : List GCell) : Option (Res (List GCell) Empty) :=
  (lpO (impl_made_L2 a_one k1) ((a_size).toNat) s1).bind fun e2 =>
  some (.next e2)

def impl_made (a_size : Int) (a_one : Int → Int → Option GCell) : Option GBlock :=
  gd ((a_size).toNat ≤ 4611686018427387904) <|
  (lpO (impl_made_L1 a_size a_one) ((a_size).toNat) ([] : List GCell)).bind fun e1 =>
  some (GBlock.mk a_size e1)

def impl_MirrorBlock (a_b : GBlock) : Option GBlock :=
  (impl_BlockOk a_b).bind fun v1 =>
  bif (!v1) then
    some (GBlock.mk 0 ([] : List GCell))
  else
    (impl_made a_b.Size (fun z0 z1 => impl_MirrorBlock_c1 z0 z1 a_b)).bind fun v2 =>
    some v2

def impl_TurnCell (a_c : GCell) : Option GCell :=
  (impl_CellOk a_c).bind fun v1 =>
  bif (!v1) then
    some (GCell.mk 0 0 0)
  else
    bif (a_c.Split == 1) then
      some (GCell.mk 2 a_c.B a_c.A)
    else
      bif (a_c.Split == 2) then
        some (GCell.mk 1 a_c.A a_c.B)
      else
        some a_c

def impl_TurnBlock_c1 (a_x : Int) (a_y : Int) (c_p2 : GBlock) : Option GCell :=
  (impl_CellAt c_p2 a_y (wr ((wr (c_p2.Size - 1)) - a_x))).bind fun v1 =>
  (impl_TurnCell v1).bind fun v2 =>
  some v2

def impl_TurnBlock (a_b : GBlock) : Option GBlock :=
  (impl_BlockOk a_b).bind fun v1 =>
  bif (!v1) then
    some (GBlock.mk 0 ([] : List GCell))
  else
    (impl_made a_b.Size (fun z0 z1 => impl_TurnBlock_c1 z0 z1 a_b)).bind fun v2 =>
    some v2

def impl_SeenFrom_L1 (_ : Nat) (s1 : Int × (List GCell)) : Option (Res (Int × (List GCell)) Empty) :=
  (impl_TurnBlock (GBlock.mk s1.1 s1.2)).bind fun v5 =>
  some (.next (v5.Size, v5.Cells))

def impl_SeenFrom (a_b : GBlock) (a_k : Int) : Option GBlock :=
  (
    (impl_BlockOk a_b).bind fun v1 =>
    bif (!v1) then
      some true
    else
      (impl_within a_k 0 7).bind fun v2 =>
      some (!v2)).bind fun j1 =>
  bif j1 then
    some (GBlock.mk 0 ([] : List GCell))
  else
    (impl_Block_copied a_b).bind fun v3 =>
    (
      bif (decide (a_k ≥ 4)) then
        (impl_MirrorBlock a_b).bind fun v4 =>
        some v4
      else
        some v3).bind fun j2 =>
    gd (((a_k.tmod 4)).toNat ≤ 4611686018427387904) <|
    (lpO impl_SeenFrom_L1 (((a_k.tmod 4)).toNat) ((j2).Size, (j2).Cells)).bind fun e1 =>
    some (GBlock.mk e1.1 e1.2)

def impl_shown_L1 (a_q : GQuilt) (a_blocks : List GBlock) (k1 : Nat) (s1 : List GBlock) : Option (Res (List GBlock) Empty) :=
  gd (0 ≤ (gx a_q.Spots k1).Block ∧ (gx a_q.Spots k1).Block < ((a_blocks.length : Nat) : Int)) <|
  (impl_SeenFrom (gx a_blocks (((gx a_q.Spots k1).Block).toNat)) ((gx a_q.Spots k1).Seen)).bind fun v1 =>
  gd (s1.length + 1 ≤ 1099511627776) <|
  some (.next (s1 ++ [v1]))

def impl_shown (a_q : GQuilt) (a_blocks : List GBlock) : Option (List GBlock) :=
  gd (a_q.Spots.length ≤ 4611686018427387904) <|
  (lpO (impl_shown_L1 a_q a_blocks) a_q.Spots.length ([] : List GBlock)).bind fun e1 =>
  some e1

def impl_CellArea (a_c : GCell) (a_a : Int) : Option Int :=
  (
    (impl_CellOk a_c).bind fun v1 =>
    bif v1 then
      some (a_c.A == a_a)
    else
      some false).bind fun j1 =>
  (
    (impl_CellOk a_c).bind fun v2 =>
    bif v2 then
      some (a_c.B == a_a)
    else
      some false).bind fun j3 =>
  some (bif j3 then (wr ((bif j1 then (wr (0 + 2)) else 0) + 2)) else (bif j1 then (wr (0 + 2)) else 0))

def impl_AreaOf_L1 (a_b : GBlock) (a_a : Int) (k1 : Nat) (s1 : Int) : Option (Res Int Empty) :=
  (impl_CellArea (gx a_b.Cells k1) a_a).bind fun v2 =>
  some (.next (wr (s1 + v2)))

def impl_AreaOf (a_b : GBlock) (a_a : Int) : Option Int :=
  (impl_BlockOk a_b).bind fun v1 =>
  bif (!v1) then
    some 0
  else
    gd (a_b.Cells.length ≤ 4611686018427387904) <|
    (lpO (impl_AreaOf_L1 a_b a_a) a_b.Cells.length 0).bind fun e1 =>
    some e1

def impl_QuiltAreas_L2 (v2 : List GBlock) (k1 : Nat) (k2 : Nat) (s2 : List Int) : Option (Res (List Int) Empty) :=
  gd (k2 < s2.length) <|
  (impl_AreaOf (gx v2 k1) ((k2 : Nat) : Int)).bind fun v3 =>
  some (.next (s2.set k2 (wr ((gx s2 k2) + v3))))

def impl_QuiltAreas_L1 (v2 : List GBlock) (k1 : Nat) (s1 : List Int) : Option (Res (List Int) Empty) :=
  gd (s1.length ≤ 4611686018427387904) <|
  (lpO (impl_QuiltAreas_L2 v2 k1) s1.length s1).bind fun e2 =>
  some (.next e2)

def impl_QuiltAreas (a_q : GQuilt) (a_blocks : List GBlock) : Option (List Int) :=
  (impl_QuiltOk a_q a_blocks).bind fun v1 =>
  bif (!v1) then
    some ([] : List Int)
  else
    (impl_shown a_q a_blocks).bind fun v2 =>
    gd (v2.length ≤ 4611686018427387904) <|
    (lpO (impl_QuiltAreas_L1 v2) v2.length (List.replicate 6 (0 : Int))).bind fun e1 =>
    some e1

def laws_eqIntS_L1 (a_a : List Int) (a_b : List Int) (k1 : Nat) (_ : Unit) : Option (Res Unit Bool) :=
  gd (k1 < a_b.length) <|
  bif ((gx a_a k1) != (gx a_b k1)) then
    some (.ret false)
  else
    some (.next ())

def laws_eqIntS (a_a : List Int) (a_b : List Int) : Option Bool :=
  bif (((a_a.length : Nat) : Int) != ((a_b.length : Nat) : Int)) then
    some false
  else
    gd (a_a.length ≤ 4611686018427387904) <|
    sq (forO (laws_eqIntS_L1 a_a a_b) a_a.length 0 ()) fun _ =>
    some true

def laws_eqSpot (a_a : GSpot) (a_b : GSpot) : Option Bool :=
  bif (a_a.Block != a_b.Block) then
    some false
  else
    bif (a_a.Seen != a_b.Seen) then
      some false
    else
      some true

def laws_eqSpotS_L1 (a_a : List GSpot) (a_b : List GSpot) (k1 : Nat) (_ : Unit) : Option (Res Unit Bool) :=
  gd (k1 < a_b.length) <|
  (laws_eqSpot (gx a_a k1) (gx a_b k1)).bind fun v1 =>
  bif (!v1) then
    some (.ret false)
  else
    some (.next ())

def laws_eqSpotS (a_a : List GSpot) (a_b : List GSpot) : Option Bool :=
  bif (((a_a.length : Nat) : Int) != ((a_b.length : Nat) : Int)) then
    some false
  else
    gd (a_a.length ≤ 4611686018427387904) <|
    sq (forO (laws_eqSpotS_L1 a_a a_b) a_a.length 0 ()) fun _ =>
    some true

def laws_eqQuilt (a_a : GQuilt) (a_b : GQuilt) : Option Bool :=
  bif (a_a.Width != a_b.Width) then
    some false
  else
    bif (a_a.Height != a_b.Height) then
      some false
    else
      (laws_eqSpotS a_a.Spots a_b.Spots).bind fun v1 =>
      bif (!v1) then
        some false
      else
        some true

def laws_eqCell (a_a : GCell) (a_b : GCell) : Option Bool :=
  bif (a_a.Split != a_b.Split) then
    some false
  else
    bif (a_a.A != a_b.A) then
      some false
    else
      bif (a_a.B != a_b.B) then
        some false
      else
        some true

def laws_eqCellS_L1 (a_a : List GCell) (a_b : List GCell) (k1 : Nat) (_ : Unit) : Option (Res Unit Bool) :=
  gd (k1 < a_b.length) <|
  (laws_eqCell (gx a_a k1) (gx a_b k1)).bind fun v1 =>
  bif (!v1) then
    some (.ret false)
  else
    some (.next ())

def laws_eqCellS (a_a : List GCell) (a_b : List GCell) : Option Bool :=
  bif (((a_a.length : Nat) : Int) != ((a_b.length : Nat) : Int)) then
    some false
  else
    gd (a_a.length ≤ 4611686018427387904) <|
    sq (forO (laws_eqCellS_L1 a_a a_b) a_a.length 0 ()) fun _ =>
    some true

def laws_eqBlock (a_a : GBlock) (a_b : GBlock) : Option Bool :=
  bif (a_a.Size != a_b.Size) then
    some false
  else
    (laws_eqCellS a_a.Cells a_b.Cells).bind fun v1 =>
    bif (!v1) then
      some false
    else
      some true

def laws_eqBlockS_L1 (a_a : List GBlock) (a_b : List GBlock) (k1 : Nat) (_ : Unit) : Option (Res Unit Bool) :=
  gd (k1 < a_b.length) <|
  (laws_eqBlock (gx a_a k1) (gx a_b k1)).bind fun v1 =>
  bif (!v1) then
    some (.ret false)
  else
    some (.next ())

def laws_eqBlockS (a_a : List GBlock) (a_b : List GBlock) : Option Bool :=
  bif (((a_a.length : Nat) : Int) != ((a_b.length : Nat) : Int)) then
    some false
  else
    gd (a_a.length ≤ 4611686018427387904) <|
    sq (forO (laws_eqBlockS_L1 a_a a_b) a_a.length 0 ()) fun _ =>
    some true

def laws_markSpotS_L1 (k1 : Nat) (s1 : (List GSpot) × Int) : Option (Res ((List GSpot) × Int) Empty) :=
  some (.next ((s1.1.set k1 (GSpot.mk s1.2 (wr (s1.2 + 1)))), (wr ((wr (s1.2 + 1)) + 1))))

def laws_markSpotS (a_a : List GSpot) (a_k : Int) : Option (Int × (List GSpot)) :=
  gd (a_a.length ≤ 4611686018427387904) <|
  (lpO laws_markSpotS_L1 a_a.length (a_a, a_k)).bind fun e1 =>
  some (e1.2, e1.1)

def laws_markQuilt (a_a : GQuilt) (a_k : Int) : Option (Int × (List GSpot)) :=
  (laws_markSpotS a_a.Spots a_k).bind fun v1 =>
  some (v1.1, v1.2)

def laws_markCellS_L1 (k1 : Nat) (s1 : (List GCell) × Int) : Option (Res ((List GCell) × Int) Empty) :=
  some (.next ((s1.1.set k1 (GCell.mk s1.2 (wr (s1.2 + 1)) (wr ((wr (s1.2 + 1)) + 1)))), (wr ((wr ((wr (s1.2 + 1)) + 1)) + 1))))

def laws_markCellS (a_a : List GCell) (a_k : Int) : Option (Int × (List GCell)) :=
  gd (a_a.length ≤ 4611686018427387904) <|
  (lpO laws_markCellS_L1 a_a.length (a_a, a_k)).bind fun e1 =>
  some (e1.2, e1.1)

def laws_markBlockS_L1 (k1 : Nat) (s1 : (List GBlock) × Int) : Option (Res ((List GBlock) × Int) Empty) :=
  (laws_markCellS ((gx s1.1 k1).Cells) (wr (s1.2 + 1))).bind fun v1 =>
  some (.next ((s1.1.set k1 (GBlock.mk s1.2 v1.2)), v1.1))

def laws_markBlockS (a_a : List GBlock) (a_k : Int) : Option (Int × (List GBlock)) :=
  gd (a_a.length ≤ 4611686018427387904) <|
  (lpO laws_markBlockS_L1 a_a.length (a_a, a_k)).bind fun e1 =>
  some (e1.2, e1.1)

def laws_markIntS_L1 (k1 : Nat) (s1 : (List Int) × Int) : Option (Res ((List Int) × Int) Empty) :=
  some (.next ((s1.1.set k1 s1.2), (wr (s1.2 + 1))))

def laws_markIntS (a_a : List Int) (a_k : Int) : Option (Int × (List Int)) :=
  gd (a_a.length ≤ 4611686018427387904) <|
  (lpO laws_markIntS_L1 a_a.length (a_a, a_k)).bind fun e1 =>
  some (e1.2, e1.1)

def laws_heldIntS_L1 (a_a : List Int) (k1 : Nat) (s1 : Int) : Option (Res Int Int) :=
  bif ((gx a_a k1) != s1) then
    some (.ret (-1))
  else
    some (.next (wr (s1 + 1)))

def laws_heldIntS (a_a : List Int) (a_k : Int) : Option Int :=
  gd (a_a.length ≤ 4611686018427387904) <|
  sq (forO (laws_heldIntS_L1 a_a) a_a.length 0 a_k) fun e1 =>
  some e1

def laws_FnExactQuiltAreas (a_aQ : GQuilt) (a_aBlocks : List GBlock) : Option Bool :=
  (laws_szQuilt a_aQ 1048576).bind fun v1 =>
  bif (decide (v1 < 0)) then
    some true
  else
    (laws_szBlockS a_aBlocks v1).bind fun v2 =>
    bif (decide (v2 < 0)) then
      some true
    else
      (laws_toQuilt a_aQ).bind fun v3 =>
      (laws_toBlockS a_aBlocks).bind fun v4 =>
      (spec_QuiltAreas v3 v4).bind fun v5 =>
      (laws_toQuilt a_aQ).bind fun v6 =>
      (laws_toBlockS a_aBlocks).bind fun v7 =>
      (impl_QuiltAreas v6 v7).bind fun v8 =>
      (laws_eqIntS v8 v5).bind fun v9 =>
      bif (!v9) then
        some false
      else
        (laws_toQuilt a_aQ).bind fun v10 =>
        (laws_eqQuilt v6 v10).bind fun v11 =>
        bif (!v11) then
          some false
        else
          (laws_toBlockS a_aBlocks).bind fun v12 =>
          (laws_eqBlockS v7 v12).bind fun v13 =>
          bif (!v13) then
            some false
          else
            (laws_markQuilt v6 1).bind fun v14 =>
            (laws_markBlockS v7 v14.1).bind fun v15 =>
            (
              bif (decide (v15.1 < 0)) then
                some true
              else
                (laws_eqIntS v8 v5).bind fun v16 =>
                some (!v16)).bind fun j1 =>
            bif j1 then
              some false
            else
              (laws_markIntS v8 1).bind fun v17 =>
              (laws_heldIntS v17.2 1).bind fun v18 =>
              bif (decide (v18 < 0)) then
                some false
              else
                bif (v18 != v17.1) then
                  some false
                else
                  (laws_toQuilt a_aQ).bind fun v19 =>
                  (laws_toBlockS a_aBlocks).bind fun v20 =>
                  (impl_QuiltAreas v19 v20).bind fun v21 =>
                  (laws_eqIntS v21 v5).bind fun v22 =>
                  bif (!v22) then
                    some false
                  else
                    (laws_heldIntS v17.2 1).bind fun v23 =>
                    bif (decide (v23 < 0)) then
                      some false
                    else
                      bif (v23 != v17.1) then
                        some false
                      else
                        some true

end Go.Proofs.Ytgimnmlcdidcdae
