/-
 What the functions compute, as Lean functions.
-/
import Derived.Test.YtkahnmhkfmjomaeTypes
namespace Go.Proofs.Ytkahnmhkfmjomae
open Go Go.RowKit

def laws_big (a_code : List UInt8) : Option Bool :=
 some (decide (((a_code.length : Nat) : Int) > 1048576))

def spec_l01New_L1 (a_code : List UInt8) (k1 : Nat) (s1 : Int) : Option (Res Int Empty) :=
 bif (decide (((k1 : Nat) : Int) < 4000)) then
  some (.next (andI (wr ((wr ((wr (s1 * 131)) + (((gx a_code k1)).toNat : Int))) + 7)) 1073741823))
 else
  some (.brk s1)

def spec_l01New (a_code : List UInt8) : Option (Int × Int) :=
 gd (a_code.length ≤ 4611686018427387904) <|
 (lpO (spec_l01New_L1 a_code) a_code.length (wr (33041 + ((a_code.length : Nat) : Int)))).bind fun e1 =>
 some (0, e1)

def spec_l01Byte (a_c0 : List UInt8) (a_c1 : Int) (a_c2 : Int) : Option (Int × Int × Int) :=
 (
  bif (decide (a_c1 < ((a_c0.length : Nat) : Int))) then
   gd (0 ≤ a_c1 ∧ a_c1 < ((a_c0.length : Nat) : Int)) <|
   some ((andI (wr ((andI (xorI (shrI (wr ((wr (a_c2 * 6364136223846793005)) + 1442695040888963407)) 33) (shrI (wr ((wr (a_c2 * 6364136223846793005)) + 1442695040888963407)) 45)) 255) + (((gx a_c0 ((a_c1).toNat))).toNat : Int))) 255), (wr (a_c1 + 1)))
  else
   some ((andI (xorI (shrI (wr ((wr (a_c2 * 6364136223846793005)) + 1442695040888963407)) 33) (shrI (wr ((wr (a_c2 * 6364136223846793005)) + 1442695040888963407)) 45)) 255), a_c1)).bind fun j1 =>
 some (j1.1, j1.2, (wr ((wr (a_c2 * 6364136223846793005)) + 1442695040888963407)))

def spec_l01Below (a_c0 : List UInt8) (a_c1 : Int) (a_c2 : Int) (a_n : Int) : Option (Int × Int × Int) :=
 bif (decide (a_n ≤ 0)) then
  some (0, a_c1, a_c2)
 else
  bif (decide (a_n ≤ 256)) then
   (spec_l01Byte a_c0 a_c1 a_c2).bind fun v1 =>
   gd (a_n ≠ 0) <|
   some ((v1.1.tmod a_n), v1.2.1, v1.2.2)
  else
   (spec_l01Byte a_c0 a_c1 a_c2).bind fun v2 =>
   (spec_l01Byte a_c0 v2.2.1 v2.2.2).bind fun v3 =>
   (spec_l01Byte a_c0 v3.2.1 v3.2.2).bind fun v4 =>
   (spec_l01Byte a_c0 v4.2.1 v4.2.2).bind fun v5 =>
   gd (a_n ≠ 0) <|
   some (((wr ((wr ((wr ((wr (v2.1 * 16777216)) + (wr (v3.1 * 65536)))) + (wr (v4.1 * 256)))) + v5.1)).tmod a_n), v5.2.1, v5.2.2)

def spec_l01In (a_x : Int) (a_least : Int) (a_most : Int) : Option Bool :=
 some ((decide (a_x ≥ a_least)) && (decide (a_x ≤ a_most)))

def spec_WholeCell (a_a : Int) : Option GCell :=
 (spec_l01In a_a 0 5).bind fun v1 =>
 bif (!v1) then
  some (GCell.mk 0 0 0)
 else
  some (GCell.mk 0 a_a a_a)

def spec_CellOk (a_c : GCell) : Option Bool :=
 (
  (spec_l01In a_c.Split 0 2).bind fun v1 =>
  bif (!v1) then
   some true
  else
   (spec_l01In a_c.A 0 5).bind fun v2 =>
   bif (!v2) then
    some true
   else
    (spec_l01In a_c.B 0 5).bind fun v3 =>
    some (!v3)).bind fun j1 =>
 bif j1 then
  some false
 else
  some ((a_c.Split == 0) == (a_c.A == a_c.B))

def spec_SplitCell (a_split : Int) (a_a : Int) (a_b : Int) : Option GCell :=
 bif (a_a == a_b) then
  (spec_WholeCell a_a).bind fun v1 =>
  some v1
 else
  (spec_CellOk (GCell.mk a_split a_a a_b)).bind fun v2 =>
  bif (!v2) then
   some (GCell.mk 0 0 0)
  else
   some (GCell.mk a_split a_a a_b)

def spec_l02Cell (a_c0 : List UInt8) (a_c1 : Int) (a_c2 : Int) : Option (GCell × Int × Int) :=
 (spec_l01Below a_c0 a_c1 a_c2 3).bind fun v1 =>
 (spec_l01Below a_c0 v1.2.1 v1.2.2 3).bind fun v2 =>
 (spec_l01Below a_c0 v2.2.1 v2.2.2 3).bind fun v3 =>
 (spec_SplitCell v1.1 v2.1 v3.1).bind fun v4 =>
 some (v4, v3.2.1, v3.2.2)

def spec_l17Blocks_L2 (a_c0 : List UInt8) (_ : Nat) (s2 : (List GCell) × Int × Int) : Option (Res ((List GCell) × Int × Int) Empty) :=
 (spec_l02Cell a_c0 s2.2.1 s2.2.2).bind fun v3 =>
 gd (s2.1.length + 1 ≤ 1099511627776) <|
 some (.next ((s2.1 ++ [v3.1]), v3.2.1, v3.2.2))

def spec_l17Blocks_L1 (a_c0 : List UInt8) (v2 : Int × Int × Int) (_ : Nat) (s1 : (List GBlock) × Int × Int) : Option (Res ((List GBlock) × Int × Int) Empty) :=
 gd (((wr ((wr (1 + v2.1)) * (wr (1 + v2.1))))).toNat ≤ 4611686018427387904) <|
 (lpO (spec_l17Blocks_L2 a_c0) (((wr ((wr (1 + v2.1)) * (wr (1 + v2.1))))).toNat) (([] : List GCell), s1.2.1, s1.2.2)).bind fun e2 =>
 gd (s1.1.length + 1 ≤ 1099511627776) <|
 some (.next ((s1.1 ++ [(GBlock.mk (wr (1 + v2.1)) e2.1)]), e2.2.1, e2.2.2))

def spec_l17Blocks (a_c0 : List UInt8) (a_c1 : Int) (a_c2 : Int) : Option ((List GBlock) × Int × Int) :=
 (spec_l01Below a_c0 a_c1 a_c2 3).bind fun v1 =>
 (spec_l01Below a_c0 v1.2.1 v1.2.2 3).bind fun v2 =>
 gd (((wr (1 + v1.1))).toNat ≤ 4611686018427387904) <|
 (lpO (spec_l17Blocks_L1 a_c0 v2) (((wr (1 + v1.1))).toNat) (([] : List GBlock), v2.2.1, v2.2.2)).bind fun e1 =>
 some (e1.1, e1.2.1, e1.2.2)

def spec_l01Once (a_c0 : List UInt8) (a_c1 : Int) (a_c2 : Int) (a_n : Int) : Option (Bool × Int × Int) :=
 (spec_l01Below a_c0 a_c1 a_c2 a_n).bind fun v1 =>
 some ((v1.1 == 0), v1.2.1, v1.2.2)

def spec_l17Quilt_L1 (a_c0 : List UInt8) (a_n : Int) (v3 : Bool × Int × Int) (k1 : Nat) (s1 : Int × Int × (List GSpot)) : Option (Res (Int × Int × (List GSpot)) Empty) :=
 (spec_l01Below a_c0 s1.1 s1.2.1 a_n).bind fun v4 =>
 (spec_l01Below a_c0 v4.2.1 v4.2.2 8).bind fun v5 =>
 (
  bif v3.1 then
   gd (a_n ≠ 0) <|
   some (GSpot.mk ((((k1 : Nat) : Int).tmod 2).tmod a_n) (((k1 : Nat) : Int).tmod 2))
  else
   some (GSpot.mk v4.1 v5.1)).bind fun j1 =>
 gd (s1.2.2.length + 1 ≤ 1099511627776) <|
 some (.next (v5.2.1, v5.2.2, (s1.2.2 ++ [(j1)])))

def spec_l17Quilt (a_c0 : List UInt8) (a_c1 : Int) (a_c2 : Int) (a_n : Int) : Option (GQuilt × Int × Int) :=
 (spec_l01Below a_c0 a_c1 a_c2 4).bind fun v1 =>
 (spec_l01Below a_c0 v1.2.1 v1.2.2 4).bind fun v2 =>
 (spec_l01Once a_c0 v2.2.1 v2.2.2 3).bind fun v3 =>
 gd (((wr ((wr (1 + v1.1)) * (wr (1 + v2.1))))).toNat ≤ 4611686018427387904) <|
 (lpO (spec_l17Quilt_L1 a_c0 a_n v3) (((wr ((wr (1 + v1.1)) * (wr (1 + v2.1))))).toNat) (v3.2.1, v3.2.2, ([] : List GSpot))).bind fun e1 =>
 some ((GQuilt.mk (wr (1 + v1.1)) (wr (1 + v2.1)) e1.2.2), e1.1, e1.2.1)

def spec_DrawQuilt (a_code : List UInt8) : Option (GQuilt × (List GBlock)) :=
 (spec_l01New a_code).bind fun v1 =>
 (spec_l17Blocks a_code v1.1 v1.2).bind fun v2 =>
 (spec_l17Quilt a_code v2.2.1 v2.2.2 ((v2.1.length : Nat) : Int)).bind fun v3 =>
 some (v3.1, v2.1)

def impl_within (a_n : Int) (a_a : Int) (a_b : Int) : Option Bool :=
 some ((decide (a_n ≥ a_a)) && (decide (a_n ≤ a_b)))

def impl_isQuilt_L1 (a_q : GQuilt) (a_most : Int) (k1 : Nat) (_ : Unit) : Option (Res Unit Bool) :=
 (
  (impl_within ((gx a_q.Spots k1).Block) 0 a_most).bind fun v3 =>
  bif (!v3) then
   some true
  else
   (impl_within ((gx a_q.Spots k1).Seen) 0 7).bind fun v4 =>
   some (!v4)).bind fun j2 =>
 bif j2 then
  some (.ret false)
 else
  some (.next ())

def impl_isQuilt (a_q : GQuilt) (a_most : Int) : Option Bool :=
 (
  (impl_within a_q.Width 1 6).bind fun v1 =>
  bif (!v1) then
   some true
  else
   (impl_within a_q.Height 1 6).bind fun v2 =>
   bif (!v2) then
    some true
   else
    some (((a_q.Spots.length : Nat) : Int) != (wr (a_q.Width * a_q.Height)))).bind fun j1 =>
 bif j1 then
  some false
 else
  gd (a_q.Spots.length ≤ 4611686018427387904) <|
  sq (forO (impl_isQuilt_L1 a_q a_most) a_q.Spots.length 0 ()) fun _ =>
  some true

def impl_isColor (a_a : Int) : Option Bool :=
 (impl_within a_a 0 5).bind fun v1 =>
 some v1

def impl_CellOk (a_c : GCell) : Option Bool :=
 (
  (impl_within a_c.Split 0 2).bind fun v1 =>
  bif v1 then
   (impl_isColor a_c.A).bind fun v2 =>
   bif v2 then
    (impl_isColor a_c.B).bind fun v3 =>
    bif v3 then
     some ((a_c.Split == 0) == (a_c.A == a_c.B))
    else
     some false
   else
    some false
  else
   some false).bind fun j1 =>
 some j1

def impl_BlockOk_L1 (a_b : GBlock) (k1 : Nat) (_ : Unit) : Option (Res Unit Bool) :=
 (impl_CellOk (gx a_b.Cells k1)).bind fun v2 =>
 bif (!v2) then
  some (.ret false)
 else
  some (.next ())

def impl_BlockOk (a_b : GBlock) : Option Bool :=
 (
  (impl_within a_b.Size 1 4).bind fun v1 =>
  bif (!v1) then
   some true
  else
   some (((a_b.Cells.length : Nat) : Int) != (wr (a_b.Size * a_b.Size)))).bind fun j1 =>
 bif j1 then
  some false
 else
  gd (a_b.Cells.length ≤ 4611686018427387904) <|
  sq (forO (impl_BlockOk_L1 a_b) a_b.Cells.length 0 ()) fun _ =>
  some true

def impl_QuiltOk_L1 (a_blocks : List GBlock) (k1 : Nat) (_ : Unit) : Option (Res Unit Bool) :=
 (
  (impl_BlockOk (gx a_blocks k1)).bind fun v3 =>
  bif (!v3) then
   some true
  else
   gd (0 < a_blocks.length) <|
   some ((gx a_blocks k1).Size != (gx a_blocks 0).Size)).bind fun j2 =>
 bif j2 then
  some (.ret false)
 else
  some (.next ())

def impl_QuiltOk (a_q : GQuilt) (a_blocks : List GBlock) : Option Bool :=
 (
  (impl_isQuilt a_q (wr (((a_blocks.length : Nat) : Int) - 1))).bind fun v1 =>
  bif (!v1) then
   some true
  else
   (impl_within ((a_blocks.length : Nat) : Int) 1 6).bind fun v2 =>
   some (!v2)).bind fun j1 =>
 bif j1 then
  some false
 else
  gd (a_blocks.length ≤ 4611686018427387904) <|
  sq (forO (impl_QuiltOk_L1 a_blocks) a_blocks.length 0 ()) fun _ =>
  some true

def impl_isShift (a_q : GQuilt) (a_dx : Int) (a_dy : Int) : Option Bool :=
 (
  (impl_within a_dx 0 (wr (a_q.Width - 1))).bind fun v1 =>
  bif v1 then
   (impl_within a_dy 0 (wr (a_q.Height - 1))).bind fun v2 =>
   some v2
  else
   some false).bind fun j1 =>
 some j1

def impl_Block_copied (a_b : GBlock) : Option GBlock :=
 gd (([] : List GCell).length + a_b.Cells.length ≤ 1099511627776) <|
 some (GBlock.mk a_b.Size (([] : List GCell) ++ a_b.Cells))

def impl_Block_isPlace (a_b : GBlock) (a_x : Int) (a_y : Int) : Option Bool :=
 (
  (impl_BlockOk a_b).bind fun v1 =>
  bif v1 then
   (impl_within a_x 0 (wr (a_b.Size - 1))).bind fun v2 =>
   bif v2 then
    (impl_within a_y 0 (wr (a_b.Size - 1))).bind fun v3 =>
    some v3
   else
    some false
  else
   some false).bind fun j1 =>
 some j1

def impl_CellAt (a_b : GBlock) (a_x : Int) (a_y : Int) : Option GCell :=
 (impl_Block_isPlace a_b a_x a_y).bind fun v1 =>
 bif (!v1) then
  some (GCell.mk 0 0 0)
 else
  gd (0 ≤ (wr ((wr (a_y * a_b.Size)) + a_x)) ∧ (wr ((wr (a_y * a_b.Size)) + a_x)) < ((a_b.Cells.length : Nat) : Int)) <|
  some (gx a_b.Cells (((wr ((wr (a_y * a_b.Size)) + a_x))).toNat))

def impl_MirrorCell (a_c : GCell) : Option GCell :=
 (impl_CellOk a_c).bind fun v1 =>
 bif (!v1) then
  some (GCell.mk 0 0 0)
 else
  bif (a_c.Split == 0) then
   some a_c
  else
   some (GCell.mk (wr (3 - a_c.Split)) a_c.B a_c.A)

def impl_MirrorBlock_c1 (a_x : Int) (a_y : Int) (c_p2 : GBlock) : Option GCell :=
 (impl_CellAt c_p2 (wr ((wr (c_p2.Size - 1)) - a_x)) a_y).bind fun v1 =>
 (impl_MirrorCell v1).bind fun v2 =>
 some v2

def impl_made_L2 (a_one : Int → Int → Option GCell) (k1 : Nat) (k2 : Nat) (s2 : List GCell) : Option (Res (List GCell) Empty) :=
 (a_one ((k2 : Nat) : Int) ((k1 : Nat) : Int)).bind fun v1 =>
 gd (s2.length + 1 ≤ 1099511627776) <|
 some (.next (s2 ++ [v1]))

def impl_made_L1 (a_size : Int) (a_one : Int → Int → Option GCell) (k1 : Nat) (s1 : List GCell) : Option (Res (List GCell) Empty) :=
 (lpO (impl_made_L2 a_one k1) ((a_size).toNat) s1).bind fun e2 =>
 some (.next e2)

def impl_made (a_size : Int) (a_one : Int → Int → Option GCell) : Option GBlock :=
 gd ((a_size).toNat ≤ 4611686018427387904) <|
 (lpO (impl_made_L1 a_size a_one) ((a_size).toNat) ([] : List GCell)).bind fun e1 =>
 some (GBlock.mk a_size e1)

def impl_MirrorBlock (a_b : GBlock) : Option GBlock :=
 (impl_BlockOk a_b).bind fun v1 =>
 bif (!v1) then
  some (GBlock.mk 0 ([] : List GCell))
 else
  (impl_made a_b.Size (fun z0 z1 => impl_MirrorBlock_c1 z0 z1 a_b)).bind fun v2 =>
  some v2

def impl_TurnCell (a_c : GCell) : Option GCell :=
 (impl_CellOk a_c).bind fun v1 =>
 bif (!v1) then
  some (GCell.mk 0 0 0)
 else
  bif (a_c.Split == 1) then
   some (GCell.mk 2 a_c.B a_c.A)
  else
   bif (a_c.Split == 2) then
    some (GCell.mk 1 a_c.A a_c.B)
   else
    some a_c

def impl_TurnBlock_c1 (a_x : Int) (a_y : Int) (c_p2 : GBlock) : Option GCell :=
 (impl_CellAt c_p2 a_y (wr ((wr (c_p2.Size - 1)) - a_x))).bind fun v1 =>
 (impl_TurnCell v1).bind fun v2 =>
 some v2

def impl_TurnBlock (a_b : GBlock) : Option GBlock :=
 (impl_BlockOk a_b).bind fun v1 =>
 bif (!v1) then
  some (GBlock.mk 0 ([] : List GCell))
 else
  (impl_made a_b.Size (fun z0 z1 => impl_TurnBlock_c1 z0 z1 a_b)).bind fun v2 =>
  some v2

def impl_SeenFrom_L1 (_ : Nat) (s1 : Int × (List GCell)) : Option (Res (Int × (List GCell)) Empty) :=
 (impl_TurnBlock (GBlock.mk s1.1 s1.2)).bind fun v5 =>
 some (.next (v5.Size, v5.Cells))

def impl_SeenFrom (a_b : GBlock) (a_k : Int) : Option GBlock :=
 (
  (impl_BlockOk a_b).bind fun v1 =>
  bif (!v1) then
   some true
  else
   (impl_within a_k 0 7).bind fun v2 =>
   some (!v2)).bind fun j1 =>
 bif j1 then
  some (GBlock.mk 0 ([] : List GCell))
 else
  (impl_Block_copied a_b).bind fun v3 =>
  (
   bif (decide (a_k ≥ 4)) then
    (impl_MirrorBlock a_b).bind fun v4 =>
    some v4
   else
    some v3).bind fun j2 =>
  gd (((a_k.tmod 4)).toNat ≤ 4611686018427387904) <|
  (lpO impl_SeenFrom_L1 (((a_k.tmod 4)).toNat) ((j2).Size, (j2).Cells)).bind fun e1 =>
  some (GBlock.mk e1.1 e1.2)

def impl_shown_L1 (a_q : GQuilt) (a_blocks : List GBlock) (k1 : Nat) (s1 : List GBlock) : Option (Res (List GBlock) Empty) :=
 gd (0 ≤ (gx a_q.Spots k1).Block ∧ (gx a_q.Spots k1).Block < ((a_blocks.length : Nat) : Int)) <|
 (impl_SeenFrom (gx a_blocks (((gx a_q.Spots k1).Block).toNat)) ((gx a_q.Spots k1).Seen)).bind fun v1 =>
 gd (s1.length + 1 ≤ 1099511627776) <|
 some (.next (s1 ++ [v1]))

def impl_shown (a_q : GQuilt) (a_blocks : List GBlock) : Option (List GBlock) :=
 gd (a_q.Spots.length ≤ 4611686018427387904) <|
 (lpO (impl_shown_L1 a_q a_blocks) a_q.Spots.length ([] : List GBlock)).bind fun e1 =>
 some e1

def impl_shifted (a_q : GQuilt) (a_i : Int) (a_dx : Int) (a_dy : Int) : Option Int :=
 gd (a_q.Width ≠ 0) <|
 gd (a_q.Height ≠ 0) <|
 some (wr ((wr (((wr ((wr (a_i.tdiv a_q.Width)) + a_dy)).tmod a_q.Height) * a_q.Width)) + ((wr ((a_i.tmod a_q.Width) + a_dx)).tmod a_q.Width)))

def impl_SameBlock_L1 (a_b : GBlock) (a_d : GBlock) (k1 : Nat) (_ : Unit) : Option (Res Unit Bool) :=
 gd (k1 < a_d.Cells.length) <|
 bif (!(beqs [(gx a_b.Cells k1).Split, (gx a_b.Cells k1).A, (gx a_b.Cells k1).B] [(gx a_d.Cells k1).Split, (gx a_d.Cells k1).A, (gx a_d.Cells k1).B])) then
  some (.ret false)
 else
  some (.next ())

def impl_SameBlock (a_b : GBlock) (a_d : GBlock) : Option Bool :=
 bif ((a_b.Size != a_d.Size) || (((a_b.Cells.length : Nat) : Int) != ((a_d.Cells.length : Nat) : Int))) then
  some false
 else
  gd (a_b.Cells.length ≤ 4611686018427387904) <|
  sq (forO (impl_SameBlock_L1 a_b a_d) a_b.Cells.length 0 ()) fun _ =>
  some true

def impl_HasShift_L1 (a_q : GQuilt) (a_dx : Int) (a_dy : Int) (v3 : List GBlock) (k1 : Nat) (_ : Unit) : Option (Res Unit Bool) :=
 (impl_shifted a_q ((k1 : Nat) : Int) a_dx a_dy).bind fun v4 =>
 gd (0 ≤ v4 ∧ v4 < ((v3.length : Nat) : Int)) <|
 (impl_SameBlock (gx v3 k1) (gx v3 ((v4).toNat))).bind fun v5 =>
 bif (!v5) then
  some (.ret false)
 else
  some (.next ())

def impl_HasShift (a_q : GQuilt) (a_blocks : List GBlock) (a_dx : Int) (a_dy : Int) : Option Bool :=
 (
  (impl_QuiltOk a_q a_blocks).bind fun v1 =>
  bif (!v1) then
   some true
  else
   (impl_isShift a_q a_dx a_dy).bind fun v2 =>
   some (!v2)).bind fun j1 =>
 bif j1 then
  some false
 else
  (impl_shown a_q a_blocks).bind fun v3 =>
  gd (v3.length ≤ 4611686018427387904) <|
  sq (forO (impl_HasShift_L1 a_q a_dx a_dy v3) v3.length 0 ()) fun _ =>
  some true

def impl_ShiftsOf_L2 (a_q : GQuilt) (a_blocks : List GBlock) (k1 : Nat) (k2 : Nat) (s2 : List (List Int)) : Option (Res (List (List Int)) Empty) :=
 (impl_HasShift a_q a_blocks ((k2 : Nat) : Int) ((k1 : Nat) : Int)).bind fun v2 =>
 (
  bif v2 then
   gd (s2.length + 1 ≤ 1099511627776) <|
   some (s2 ++ [([((k2 : Nat) : Int), ((k1 : Nat) : Int)] : List Int)])
  else
   some s2).bind fun j1 =>
 some (.next j1)

def impl_ShiftsOf_L1 (a_q : GQuilt) (a_blocks : List GBlock) (k1 : Nat) (s1 : List (List Int)) : Option (Res (List (List Int)) Empty) :=
 gd ((a_q.Width).toNat ≤ 4611686018427387904) <|
 (lpO (impl_ShiftsOf_L2 a_q a_blocks k1) ((a_q.Width).toNat) s1).bind fun e2 =>
 some (.next e2)

def impl_ShiftsOf (a_q : GQuilt) (a_blocks : List GBlock) : Option (List (List Int)) :=
 (impl_QuiltOk a_q a_blocks).bind fun v1 =>
 bif (!v1) then
  some ([] : List (List Int))
 else
  gd ((a_q.Height).toNat ≤ 4611686018427387904) <|
  (lpO (impl_ShiftsOf_L1 a_q a_blocks) ((a_q.Height).toNat) ([] : List (List Int))).bind fun e1 =>
  some e1

def impl_CountMotifs (a_q : GQuilt) (a_blocks : List GBlock) : Option Int :=
 (impl_QuiltOk a_q a_blocks).bind fun v1 =>
 bif (!v1) then
  some 0
 else
  (impl_ShiftsOf a_q a_blocks).bind fun v2 =>
  gd (((v2.length : Nat) : Int) ≠ 0) <|
  some (wr (((a_q.Spots.length : Nat) : Int).tdiv ((v2.length : Nat) : Int)))

def laws_at (a_code : List UInt8) (a_i : Int) : Option Int :=
 bif (((a_code.length : Nat) : Int) == 0) then
  some 0
 else
  gd (((a_code.length : Nat) : Int) ≠ 0) <|
  gd (0 ≤ ((wr ((wr (a_i * 5)) + 1)).tmod ((a_code.length : Nat) : Int)) ∧ ((wr ((wr (a_i * 5)) + 1)).tmod ((a_code.length : Nat) : Int)) < ((a_code.length : Nat) : Int)) <|
  some (((gx a_code ((((wr ((wr (a_i * 5)) + 1)).tmod ((a_code.length : Nat) : Int))).toNat))).toNat : Int)

def impl_Quilt_copied (a_q : GQuilt) : Option GQuilt :=
 gd (([] : List GSpot).length + a_q.Spots.length ≤ 1099511627776) <|
 some (GQuilt.mk a_q.Width a_q.Height (([] : List GSpot) ++ a_q.Spots))

def impl_ShiftQuilt_L1 (a_q : GQuilt) (a_dx : Int) (a_dy : Int) (k1 : Nat) (s1 : List GSpot) : Option (Res (List GSpot) Empty) :=
 (impl_shifted a_q ((k1 : Nat) : Int) a_dx a_dy).bind fun v4 =>
 gd (0 ≤ v4 ∧ v4 < ((a_q.Spots.length : Nat) : Int)) <|
 gd (k1 < s1.length) <|
 some (.next (s1.set k1 (gx a_q.Spots ((v4).toNat))))

def impl_ShiftQuilt (a_q : GQuilt) (a_blocks : List GBlock) (a_dx : Int) (a_dy : Int) : Option (GQuilt × Bool) :=
 (impl_Quilt_copied a_q).bind fun v1 =>
 (
  (impl_QuiltOk a_q a_blocks).bind fun v2 =>
  bif (!v2) then
   some true
  else
   (impl_isShift a_q a_dx a_dy).bind fun v3 =>
   some (!v3)).bind fun j1 =>
 bif j1 then
  some (v1, false)
 else
  gd (v1.Spots.length ≤ 4611686018427387904) <|
  (lpO (impl_ShiftQuilt_L1 a_q a_dx a_dy) v1.Spots.length v1.Spots).bind fun e1 =>
  some ((GQuilt.mk v1.Width v1.Height e1), true)

def impl_isLess_L1 (a_a : List GSpot) (a_b : List GSpot) (k1 : Nat) (_ : Unit) : Option (Res Unit Bool) :=
 gd (k1 < a_b.length) <|
 bif (!(beqs [(gx a_a k1).Block, (gx a_a k1).Seen] [(gx a_b k1).Block, (gx a_b k1).Seen])) then
  some (.ret ((decide ((gx a_a k1).Block < (gx a_b k1).Block)) || (((gx a_a k1).Block == (gx a_b k1).Block) && (decide ((gx a_a k1).Seen < (gx a_b k1).Seen)))))
 else
  some (.next ())

def impl_isLess (a_a : List GSpot) (a_b : List GSpot) : Option Bool :=
 gd (a_a.length ≤ 4611686018427387904) <|
 sq (forO (impl_isLess_L1 a_a a_b) a_a.length 0 ()) fun _ =>
 some false

def impl_LeastShift_L2 (a_q : GQuilt) (a_blocks : List GBlock) (k1 : Nat) (k2 : Nat) (s2 : Int × Int × (List GSpot)) : Option (Res (Int × Int × (List GSpot)) Empty) :=
 (impl_ShiftQuilt a_q a_blocks ((k2 : Nat) : Int) ((k1 : Nat) : Int)).bind fun v3 =>
 (impl_isLess v3.1.Spots s2.2.2).bind fun v4 =>
 some (.next ((bif v4 then v3.1 else (GQuilt.mk s2.1 s2.2.1 s2.2.2)).Width, (bif v4 then v3.1 else (GQuilt.mk s2.1 s2.2.1 s2.2.2)).Height, (bif v4 then v3.1 else (GQuilt.mk s2.1 s2.2.1 s2.2.2)).Spots))

def impl_LeastShift_L1 (a_q : GQuilt) (a_blocks : List GBlock) (k1 : Nat) (s1 : Int × Int × (List GSpot)) : Option (Res (Int × Int × (List GSpot)) Empty) :=
 gd ((a_q.Width).toNat ≤ 4611686018427387904) <|
 (lpO (impl_LeastShift_L2 a_q a_blocks k1) ((a_q.Width).toNat) (s1.1, s1.2.1, s1.2.2)).bind fun e2 =>
 some (.next (e2.1, e2.2.1, e2.2.2))

def impl_LeastShift (a_q : GQuilt) (a_blocks : List GBlock) : Option GQuilt :=
 (impl_Quilt_copied a_q).bind fun v1 =>
 (impl_QuiltOk a_q a_blocks).bind fun v2 =>
 bif (!v2) then
  some v1
 else
  gd ((a_q.Height).toNat ≤ 4611686018427387904) <|
  (lpO (impl_LeastShift_L1 a_q a_blocks) ((a_q.Height).toNat) (v1.Width, v1.Height, v1.Spots)).bind fun e1 =>
  some (GQuilt.mk e1.1 e1.2.1 e1.2.2)

def spec_BlockOk_L1 (a_b : GBlock) (k1 : Nat) (_ : Unit) : Option (Res Unit Bool) :=
 (spec_CellOk (gx a_b.Cells k1)).bind fun v2 =>
 bif (!v2) then
  some (.ret false)
 else
  some (.next ())

def spec_BlockOk (a_b : GBlock) : Option Bool :=
 (
  (spec_l01In a_b.Size 1 4).bind fun v1 =>
  bif (!v1) then
   some true
  else
   some (((a_b.Cells.length : Nat) : Int) != (wr (a_b.Size * a_b.Size)))).bind fun j1 =>
 bif j1 then
  some false
 else
  gd (a_b.Cells.length ≤ 4611686018427387904) <|
  sq (forO (spec_BlockOk_L1 a_b) a_b.Cells.length 0 ()) fun _ =>
  some true

def spec_QuiltOk_L1 (a_blocks : List GBlock) (k1 : Nat) (_ : Unit) : Option (Res Unit Bool) :=
 (
  (spec_BlockOk (gx a_blocks k1)).bind fun v4 =>
  bif (!v4) then
   some true
  else
   gd (0 < a_blocks.length) <|
   some ((gx a_blocks k1).Size != (gx a_blocks 0).Size)).bind fun j2 =>
 bif j2 then
  some (.ret false)
 else
  some (.next ())

def spec_QuiltOk_L2 (a_q : GQuilt) (a_blocks : List GBlock) (k2 : Nat) (_ : Unit) : Option (Res Unit Bool) :=
 (
  (spec_l01In ((gx a_q.Spots k2).Block) 0 (wr (((a_blocks.length : Nat) : Int) - 1))).bind fun v5 =>
  bif (!v5) then
   some true
  else
   (spec_l01In ((gx a_q.Spots k2).Seen) 0 7).bind fun v6 =>
   some (!v6)).bind fun j3 =>
 bif j3 then
  some (.ret false)
 else
  some (.next ())

def spec_QuiltOk (a_q : GQuilt) (a_blocks : List GBlock) : Option Bool :=
 (
  (spec_l01In a_q.Width 1 6).bind fun v1 =>
  bif (!v1) then
   some true
  else
   (spec_l01In a_q.Height 1 6).bind fun v2 =>
   bif (!v2) then
    some true
   else
    (spec_l01In ((a_blocks.length : Nat) : Int) 1 6).bind fun v3 =>
    bif (!v3) then
     some true
    else
     some (((a_q.Spots.length : Nat) : Int) != (wr (a_q.Width * a_q.Height)))).bind fun j1 =>
 bif j1 then
  some false
 else
  gd (a_blocks.length ≤ 4611686018427387904) <|
  sq (forO (spec_QuiltOk_L1 a_blocks) a_blocks.length 0 ()) fun _ =>
  gd (a_q.Spots.length ≤ 4611686018427387904) <|
  sq (forO (spec_QuiltOk_L2 a_q a_blocks) a_q.Spots.length 0 ()) fun _ =>
  some true

def spec_l03Copy (a_b : GBlock) : Option GBlock :=
 gd (([] : List GCell).length + a_b.Cells.length ≤ 1099511627776) <|
 some (GBlock.mk a_b.Size (([] : List GCell) ++ a_b.Cells))

def spec_MirrorCell (a_c : GCell) : Option GCell :=
 (spec_CellOk a_c).bind fun v1 =>
 bif (!v1) then
  some (GCell.mk 0 0 0)
 else
  bif (a_c.Split == 0) then
   some a_c
  else
   some (GCell.mk (wr (3 - a_c.Split)) a_c.B a_c.A)

def spec_MirrorBlock_L2 (a_b : GBlock) (k1 : Nat) (k2 : Nat) (s2 : List GCell) : Option (Res (List GCell) Empty) :=
 gd (0 ≤ (wr ((wr ((wr ((wr (((k1 : Nat) : Int) * a_b.Size)) + a_b.Size)) - 1)) - ((k2 : Nat) : Int))) ∧ (wr ((wr ((wr ((wr (((k1 : Nat) : Int) * a_b.Size)) + a_b.Size)) - 1)) - ((k2 : Nat) : Int))) < ((a_b.Cells.length : Nat) : Int)) <|
 (spec_MirrorCell (gx a_b.Cells (((wr ((wr ((wr ((wr (((k1 : Nat) : Int) * a_b.Size)) + a_b.Size)) - 1)) - ((k2 : Nat) : Int)))).toNat))).bind fun v2 =>
 gd (s2.length + 1 ≤ 1099511627776) <|
 some (.next (s2 ++ [v2]))

def spec_MirrorBlock_L1 (a_b : GBlock) (k1 : Nat) (s1 : List GCell) : Option (Res (List GCell) Empty) :=
 (lpO (spec_MirrorBlock_L2 a_b k1) ((a_b.Size).toNat) s1).bind fun e2 =>
 some (.next e2)

def spec_MirrorBlock (a_b : GBlock) : Option GBlock :=
 (spec_BlockOk a_b).bind fun v1 =>
 bif (!v1) then
  some (GBlock.mk 0 ([] : List GCell))
 else
  gd ((a_b.Size).toNat ≤ 4611686018427387904) <|
  (lpO (spec_MirrorBlock_L1 a_b) ((a_b.Size).toNat) ([] : List GCell)).bind fun e1 =>
  some (GBlock.mk a_b.Size e1)

def spec_TurnCell (a_c : GCell) : Option GCell :=
 (spec_CellOk a_c).bind fun v1 =>
 bif (!v1) then
  some (GCell.mk 0 0 0)
 else
  bif (a_c.Split == 1) then
   some (GCell.mk 2 a_c.B a_c.A)
  else
   bif (a_c.Split == 2) then
    some (GCell.mk 1 a_c.A a_c.B)
   else
    some a_c

def spec_TurnBlock_L2 (a_b : GBlock) (k1 : Nat) (k2 : Nat) (s2 : List GCell) : Option (Res (List GCell) Empty) :=
 gd (0 ≤ (wr ((wr ((wr ((wr (a_b.Size - 1)) - ((k2 : Nat) : Int))) * a_b.Size)) + ((k1 : Nat) : Int))) ∧ (wr ((wr ((wr ((wr (a_b.Size - 1)) - ((k2 : Nat) : Int))) * a_b.Size)) + ((k1 : Nat) : Int))) < ((a_b.Cells.length : Nat) : Int)) <|
 (spec_TurnCell (gx a_b.Cells (((wr ((wr ((wr ((wr (a_b.Size - 1)) - ((k2 : Nat) : Int))) * a_b.Size)) + ((k1 : Nat) : Int)))).toNat))).bind fun v2 =>
 gd (s2.length + 1 ≤ 1099511627776) <|
 some (.next (s2 ++ [v2]))

def spec_TurnBlock_L1 (a_b : GBlock) (k1 : Nat) (s1 : List GCell) : Option (Res (List GCell) Empty) :=
 (lpO (spec_TurnBlock_L2 a_b k1) ((a_b.Size).toNat) s1).bind fun e2 =>
 some (.next e2)

def spec_TurnBlock (a_b : GBlock) : Option GBlock :=
 (spec_BlockOk a_b).bind fun v1 =>
 bif (!v1) then
  some (GBlock.mk 0 ([] : List GCell))
 else
  gd ((a_b.Size).toNat ≤ 4611686018427387904) <|
  (lpO (spec_TurnBlock_L1 a_b) ((a_b.Size).toNat) ([] : List GCell)).bind fun e1 =>
  some (GBlock.mk a_b.Size e1)

def spec_SeenFrom_L1 (_ : Nat) (s1 : Int × (List GCell)) : Option (Res (Int × (List GCell)) Empty) :=
 (spec_TurnBlock (GBlock.mk s1.1 s1.2)).bind fun v5 =>
 some (.next (v5.Size, v5.Cells))

def spec_SeenFrom (a_b : GBlock) (a_k : Int) : Option GBlock :=
 (
  (spec_BlockOk a_b).bind fun v1 =>
  bif (!v1) then
   some true
  else
   (spec_l01In a_k 0 7).bind fun v2 =>
   some (!v2)).bind fun j1 =>
 bif j1 then
  some (GBlock.mk 0 ([] : List GCell))
 else
  (spec_l03Copy a_b).bind fun v3 =>
  (
   bif (decide (a_k ≥ 4)) then
    (spec_MirrorBlock a_b).bind fun v4 =>
    some v4
   else
    some v3).bind fun j2 =>
  gd (((a_k.tmod 4)).toNat ≤ 4611686018427387904) <|
  (lpO spec_SeenFrom_L1 (((a_k.tmod 4)).toNat) ((j2).Size, (j2).Cells)).bind fun e1 =>
  some (GBlock.mk e1.1 e1.2)

def spec_ShownAt (a_q : GQuilt) (a_blocks : List GBlock) (a_x : Int) (a_y : Int) : Option GBlock :=
 (
  (spec_QuiltOk a_q a_blocks).bind fun v1 =>
  bif (!v1) then
   some true
  else
   (spec_l01In a_x 0 (wr (a_q.Width - 1))).bind fun v2 =>
   bif (!v2) then
    some true
   else
    (spec_l01In a_y 0 (wr (a_q.Height - 1))).bind fun v3 =>
    some (!v3)).bind fun j1 =>
 bif j1 then
  some (GBlock.mk 0 ([] : List GCell))
 else
  gd (0 ≤ (wr ((wr (a_y * a_q.Width)) + a_x)) ∧ (wr ((wr (a_y * a_q.Width)) + a_x)) < ((a_q.Spots.length : Nat) : Int)) <|
  gd (0 ≤ (gx a_q.Spots (((wr ((wr (a_y * a_q.Width)) + a_x))).toNat)).Block ∧ (gx a_q.Spots (((wr ((wr (a_y * a_q.Width)) + a_x))).toNat)).Block < ((a_blocks.length : Nat) : Int)) <|
  (spec_SeenFrom (gx a_blocks (((gx a_q.Spots (((wr ((wr (a_y * a_q.Width)) + a_x))).toNat)).Block).toNat)) ((gx a_q.Spots (((wr ((wr (a_y * a_q.Width)) + a_x))).toNat)).Seen)).bind fun v4 =>
  some v4

def spec_SameBlock_L1 (a_b : GBlock) (a_d : GBlock) (k1 : Nat) (_ : Unit) : Option (Res Unit Bool) :=
 gd (k1 < a_d.Cells.length) <|
 bif (!(beqs [(gx a_b.Cells k1).Split, (gx a_b.Cells k1).A, (gx a_b.Cells k1).B] [(gx a_d.Cells k1).Split, (gx a_d.Cells k1).A, (gx a_d.Cells k1).B])) then
  some (.ret false)
 else
  some (.next ())

def spec_SameBlock (a_b : GBlock) (a_d : GBlock) : Option Bool :=
 bif ((a_b.Size != a_d.Size) || (((a_b.Cells.length : Nat) : Int) != ((a_d.Cells.length : Nat) : Int))) then
  some false
 else
  gd (a_b.Cells.length ≤ 4611686018427387904) <|
  sq (forO (spec_SameBlock_L1 a_b a_d) a_b.Cells.length 0 ()) fun _ =>
  some true

def laws_FnRepeats_L1 (v2 : GQuilt × (List GBlock)) (v3 : List (List Int)) (k1 : Nat) (_ : Unit) : Option (Res Unit Bool) :=
 (
  bif ((((gx v3 k1).length : Nat) : Int) != 2) then
   some true
  else
   gd (0 < (gx v3 k1).length) <|
   gd (1 < (gx v3 k1).length) <|
   (impl_HasShift v2.1 v2.2 (gx (gx v3 k1) 0) (gx (gx v3 k1) 1)).bind fun v6 =>
   bif (!v6) then
    some true
   else
    gd (0 < (gx v3 (((wr (((v3.length : Nat) : Int) - 1))).toNat)).length) <|
    gd (v2.1.Width ≠ 0) <|
    gd (1 < (gx v3 (((wr (((v3.length : Nat) : Int) - 1))).toNat)).length) <|
    gd (v2.1.Height ≠ 0) <|
    (impl_HasShift v2.1 v2.2 ((wr ((gx (gx v3 k1) 0) + (gx (gx v3 (((wr (((v3.length : Nat) : Int) - 1))).toNat)) 0))).tmod v2.1.Width) ((wr ((gx (gx v3 k1) 1) + (gx (gx v3 (((wr (((v3.length : Nat) : Int) - 1))).toNat)) 1))).tmod v2.1.Height)).bind fun v7 =>
    some (!v7)).bind fun j2 =>
 bif j2 then
  some (.ret false)
 else
  some (.next ())

def laws_FnRepeats_L2 (v11 : GQuilt) (v12 : GQuilt) (k2 : Nat) (_ : Unit) : Option (Res Unit Bool) :=
 gd (k2 < v11.Spots.length) <|
 gd (k2 < v12.Spots.length) <|
 bif (!(beqs [(gx v11.Spots k2).Block, (gx v11.Spots k2).Seen] [(gx v12.Spots k2).Block, (gx v12.Spots k2).Seen])) then
  some (.ret false)
 else
  some (.next ())

def laws_FnRepeats (a_code : List UInt8) : Option Bool :=
 (laws_big a_code).bind fun v1 =>
 bif v1 then
  some true
 else
  (spec_DrawQuilt a_code).bind fun v2 =>
  (impl_ShiftsOf v2.1 v2.2).bind fun v3 =>
  (impl_CountMotifs v2.1 v2.2).bind fun v4 =>
  (
   bif (((v3.length : Nat) : Int) == 0) then
    some true
   else
    gd (((v3.length : Nat) : Int) ≠ 0) <|
    bif ((((v2.1.Spots.length : Nat) : Int).tmod ((v3.length : Nat) : Int)) != 0) then
     some true
    else
     bif ((wr (v4 * ((v3.length : Nat) : Int))) != ((v2.1.Spots.length : Nat) : Int)) then
      some true
     else
      (impl_HasShift v2.1 v2.2 0 0).bind fun v5 =>
      some (!v5)).bind fun j1 =>
  bif j1 then
   some false
  else
   gd (0 ≤ (wr (((v3.length : Nat) : Int) - 1)) ∧ (wr (((v3.length : Nat) : Int) - 1)) < ((v3.length : Nat) : Int)) <|
   bif ((((gx v3 (((wr (((v3.length : Nat) : Int) - 1))).toNat)).length : Nat) : Int) != 2) then
    some false
   else
    gd (v3.length ≤ 4611686018427387904) <|
    sq (forO (laws_FnRepeats_L1 v2 v3) v3.length 0 ()) fun _ =>
    (laws_at a_code 0).bind fun v8 =>
    gd (v2.1.Width ≠ 0) <|
    (laws_at a_code 1).bind fun v9 =>
    gd (v2.1.Height ≠ 0) <|
    (impl_ShiftQuilt v2.1 v2.2 (v8.tmod v2.1.Width) (v9.tmod v2.1.Height)).bind fun v10 =>
    (impl_LeastShift v2.1 v2.2).bind fun v11 =>
    (impl_LeastShift v10.1 v2.2).bind fun v12 =>
    (
     bif (!v10.2) then
      some true
     else
      bif (((v11.Spots.length : Nat) : Int) != ((v2.1.Spots.length : Nat) : Int)) then
       some true
      else
       bif (((v12.Spots.length : Nat) : Int) != ((v2.1.Spots.length : Nat) : Int)) then
        some true
       else
        (impl_ShiftsOf v10.1 v2.2).bind fun v13 =>
        some (((v13.length : Nat) : Int) != ((v3.length : Nat) : Int))).bind fun j3 =>
    bif j3 then
     some false
    else
     gd (v2.1.Spots.length ≤ 4611686018427387904) <|
     sq (forO (laws_FnRepeats_L2 v11 v12) v2.1.Spots.length 0 ()) fun _ =>
     (impl_HasShift v2.1 v2.2 (v8.tmod v2.1.Width) (v9.tmod v2.1.Height)).bind fun v14 =>
     (
      bif (!v14) then
       some true
      else
       (spec_ShownAt v2.1 v2.2 0 0).bind fun v15 =>
       (spec_ShownAt v2.1 v2.2 (v8.tmod v2.1.Width) (v9.tmod v2.1.Height)).bind fun v16 =>
       (spec_SameBlock v15 v16).bind fun v17 =>
       some v17).bind fun j4 =>
     some j4

end Go.Proofs.Ytkahnmhkfmjomae
