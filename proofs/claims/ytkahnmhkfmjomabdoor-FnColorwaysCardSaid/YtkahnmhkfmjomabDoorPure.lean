/-
 What the functions compute, as Lean functions.
-/
import Derived.Test.YtkahnmhkfmjomabDoorTypes
namespace Go.Proofs.YtkahnmhkfmjomabDoor
open Go Go.RowKit

def laws_big (a_code : List UInt8) : Option Bool :=
 some (decide (((a_code.length : Nat) : Int) > 1048576))

def spec_l01New_L1 (a_code : List UInt8) (k1 : Nat) (s1 : Int) : Option (Res Int Empty) :=
 bif (decide (((k1 : Nat) : Int) < 4000)) then
  some (.next (andI (wr ((wr ((wr (s1 * 131)) + (((gx a_code k1)).toNat : Int))) + 7)) 1073741823))
 else
  some (.brk s1)

def spec_l01New (a_code : List UInt8) : Option (Int × Int) :=
 gd (a_code.length ≤ 4611686018427387904) <|
 (lpO (spec_l01New_L1 a_code) a_code.length (wr (33041 + ((a_code.length : Nat) : Int)))).bind fun e1 =>
 some (0, e1)

def spec_l01Byte (a_c0 : List UInt8) (a_c1 : Int) (a_c2 : Int) : Option (Int × Int × Int) :=
 (
  bif (decide (a_c1 < ((a_c0.length : Nat) : Int))) then
   gd (0 ≤ a_c1 ∧ a_c1 < ((a_c0.length : Nat) : Int)) <|
   some ((andI (wr ((andI (xorI (shrI (wr ((wr (a_c2 * 6364136223846793005)) + 1442695040888963407)) 33) (shrI (wr ((wr (a_c2 * 6364136223846793005)) + 1442695040888963407)) 45)) 255) + (((gx a_c0 ((a_c1).toNat))).toNat : Int))) 255), (wr (a_c1 + 1)))
  else
   some ((andI (xorI (shrI (wr ((wr (a_c2 * 6364136223846793005)) + 1442695040888963407)) 33) (shrI (wr ((wr (a_c2 * 6364136223846793005)) + 1442695040888963407)) 45)) 255), a_c1)).bind fun j1 =>
 some (j1.1, j1.2, (wr ((wr (a_c2 * 6364136223846793005)) + 1442695040888963407)))

def spec_l01Below (a_c0 : List UInt8) (a_c1 : Int) (a_c2 : Int) (a_n : Int) : Option (Int × Int × Int) :=
 bif (decide (a_n ≤ 0)) then
  some (0, a_c1, a_c2)
 else
  bif (decide (a_n ≤ 256)) then
   (spec_l01Byte a_c0 a_c1 a_c2).bind fun v1 =>
   gd (a_n ≠ 0) <|
   some ((v1.1.tmod a_n), v1.2.1, v1.2.2)
  else
   (spec_l01Byte a_c0 a_c1 a_c2).bind fun v2 =>
   (spec_l01Byte a_c0 v2.2.1 v2.2.2).bind fun v3 =>
   (spec_l01Byte a_c0 v3.2.1 v3.2.2).bind fun v4 =>
   (spec_l01Byte a_c0 v4.2.1 v4.2.2).bind fun v5 =>
   gd (a_n ≠ 0) <|
   some (((wr ((wr ((wr ((wr (v2.1 * 16777216)) + (wr (v3.1 * 65536)))) + (wr (v4.1 * 256)))) + v5.1)).tmod a_n), v5.2.1, v5.2.2)

def spec_l01In (a_x : Int) (a_least : Int) (a_most : Int) : Option Bool :=
 some ((decide (a_x ≥ a_least)) && (decide (a_x ≤ a_most)))

def spec_WholeCell (a_a : Int) : Option GCell :=
 (spec_l01In a_a 0 5).bind fun v1 =>
 bif (!v1) then
  some (GCell.mk 0 0 0)
 else
  some (GCell.mk 0 a_a a_a)

def spec_StarBlock  : Option GBlock :=
 (spec_WholeCell 1).bind fun v1 =>
 some (GBlock.mk 3 ([(GCell.mk 1 0 1), v1, (GCell.mk 2 1 0), v1, v1, v1, (GCell.mk 2 0 1), v1, (GCell.mk 1 1 0)] : List GCell))

def spec_PlainBlock_L1 (a_a : Int) (_ : Nat) (s1 : List GCell) : Option (Res (List GCell) Empty) :=
 (spec_WholeCell a_a).bind fun v3 =>
 gd (s1.length + 1 ≤ 1099511627776) <|
 some (.next (s1 ++ [v3]))

def spec_PlainBlock (a_size : Int) (a_a : Int) : Option (GBlock × Bool) :=
 (
  (spec_l01In a_size 1 4).bind fun v1 =>
  bif (!v1) then
   some true
  else
   (spec_l01In a_a 0 5).bind fun v2 =>
   some (!v2)).bind fun j1 =>
 bif j1 then
  some ((GBlock.mk 0 ([] : List GCell)), false)
 else
  gd (((wr (a_size * a_size))).toNat ≤ 4611686018427387904) <|
  (lpO (spec_PlainBlock_L1 a_a) (((wr (a_size * a_size))).toNat) ([] : List GCell)).bind fun e1 =>
  some ((GBlock.mk a_size e1), true)

def spec_CellOk (a_c : GCell) : Option Bool :=
 (
  (spec_l01In a_c.Split 0 2).bind fun v1 =>
  bif (!v1) then
   some true
  else
   (spec_l01In a_c.A 0 5).bind fun v2 =>
   bif (!v2) then
    some true
   else
    (spec_l01In a_c.B 0 5).bind fun v3 =>
    some (!v3)).bind fun j1 =>
 bif j1 then
  some false
 else
  some ((a_c.Split == 0) == (a_c.A == a_c.B))

def spec_SplitCell (a_split : Int) (a_a : Int) (a_b : Int) : Option GCell :=
 bif (a_a == a_b) then
  (spec_WholeCell a_a).bind fun v1 =>
  some v1
 else
  (spec_CellOk (GCell.mk a_split a_a a_b)).bind fun v2 =>
  bif (!v2) then
   some (GCell.mk 0 0 0)
  else
   some (GCell.mk a_split a_a a_b)

def spec_l02Cell (a_c0 : List UInt8) (a_c1 : Int) (a_c2 : Int) : Option (GCell × Int × Int) :=
 (spec_l01Below a_c0 a_c1 a_c2 3).bind fun v1 =>
 (spec_l01Below a_c0 v1.2.1 v1.2.2 3).bind fun v2 =>
 (spec_l01Below a_c0 v2.2.1 v2.2.2 3).bind fun v3 =>
 (spec_SplitCell v1.1 v2.1 v3.1).bind fun v4 =>
 some (v4, v3.2.1, v3.2.2)

def spec_l03Block_L1 (a_c0 : List UInt8) (_ : Nat) (s1 : (List GCell) × Int × Int) : Option (Res ((List GCell) × Int × Int) Empty) :=
 (spec_l02Cell a_c0 s1.2.1 s1.2.2).bind fun v7 =>
 gd (s1.1.length + 1 ≤ 1099511627776) <|
 some (.next ((s1.1 ++ [v7.1]), v7.2.1, v7.2.2))

def spec_l03Block (a_c0 : List UInt8) (a_c1 : Int) (a_c2 : Int) : Option (GBlock × Int × Int) :=
 (spec_l01Below a_c0 a_c1 a_c2 6).bind fun v1 =>
 bif (v1.1 == 0) then
  spec_StarBlock.bind fun v2 =>
  some (v2, v1.2.1, v1.2.2)
 else
  bif (v1.1 == 1) then
   (spec_l01Below a_c0 v1.2.1 v1.2.2 4).bind fun v3 =>
   (spec_l01Below a_c0 v3.2.1 v3.2.2 3).bind fun v4 =>
   (spec_PlainBlock (wr (1 + v3.1)) v4.1).bind fun v5 =>
   some (v5.1, v4.2.1, v4.2.2)
  else
   (spec_l01Below a_c0 v1.2.1 v1.2.2 4).bind fun v6 =>
   gd (((wr ((wr (1 + v6.1)) * (wr (1 + v6.1))))).toNat ≤ 4611686018427387904) <|
   (lpO (spec_l03Block_L1 a_c0) (((wr ((wr (1 + v6.1)) * (wr (1 + v6.1))))).toNat) (([] : List GCell), v6.2.1, v6.2.2)).bind fun e1 =>
   some ((GBlock.mk (wr (1 + v6.1)) e1.1), e1.2.1, e1.2.2)

def spec_DrawBlock (a_code : List UInt8) : Option GBlock :=
 (spec_l01New a_code).bind fun v1 =>
 (spec_l03Block a_code v1.1 v1.2).bind fun v2 =>
 some v2.1

def impl_within (a_n : Int) (a_a : Int) (a_b : Int) : Option Bool :=
 some ((decide (a_n ≥ a_a)) && (decide (a_n ≤ a_b)))

def impl_isColor (a_a : Int) : Option Bool :=
 (impl_within a_a 0 5).bind fun v1 =>
 some v1

def impl_CellOk (a_c : GCell) : Option Bool :=
 (
  (impl_within a_c.Split 0 2).bind fun v1 =>
  bif v1 then
   (impl_isColor a_c.A).bind fun v2 =>
   bif v2 then
    (impl_isColor a_c.B).bind fun v3 =>
    bif v3 then
     some ((a_c.Split == 0) == (a_c.A == a_c.B))
    else
     some false
   else
    some false
  else
   some false).bind fun j1 =>
 some j1

def impl_BlockOk_L1 (a_b : GBlock) (k1 : Nat) (_ : Unit) : Option (Res Unit Bool) :=
 (impl_CellOk (gx a_b.Cells k1)).bind fun v2 =>
 bif (!v2) then
  some (.ret false)
 else
  some (.next ())

def impl_BlockOk (a_b : GBlock) : Option Bool :=
 (
  (impl_within a_b.Size 1 4).bind fun v1 =>
  bif (!v1) then
   some true
  else
   some (((a_b.Cells.length : Nat) : Int) != (wr (a_b.Size * a_b.Size)))).bind fun j1 =>
 bif j1 then
  some false
 else
  gd (a_b.Cells.length ≤ 4611686018427387904) <|
  sq (forO (impl_BlockOk_L1 a_b) a_b.Cells.length 0 ()) fun _ =>
  some true

def impl_CellArea (a_c : GCell) (a_a : Int) : Option Int :=
 (
  (impl_CellOk a_c).bind fun v1 =>
  bif v1 then
   some (a_c.A == a_a)
  else
   some false).bind fun j1 =>
 (
  (impl_CellOk a_c).bind fun v2 =>
  bif v2 then
   some (a_c.B == a_a)
  else
   some false).bind fun j3 =>
 some (bif j3 then (wr ((bif j1 then (wr (0 + 2)) else 0) + 2)) else (bif j1 then (wr (0 + 2)) else 0))

def impl_AreaOf_L1 (a_b : GBlock) (a_a : Int) (k1 : Nat) (s1 : Int) : Option (Res Int Empty) :=
 (impl_CellArea (gx a_b.Cells k1) a_a).bind fun v2 =>
 some (.next (wr (s1 + v2)))

def impl_AreaOf (a_b : GBlock) (a_a : Int) : Option Int :=
 (impl_BlockOk a_b).bind fun v1 =>
 bif (!v1) then
  some 0
 else
  gd (a_b.Cells.length ≤ 4611686018427387904) <|
  (lpO (impl_AreaOf_L1 a_b a_a) a_b.Cells.length 0).bind fun e1 =>
  some e1

def impl_ColorsOf_L1 (a_b : GBlock) (k1 : Nat) (s1 : List Int) : Option (Res (List Int) Empty) :=
 (impl_AreaOf a_b ((k1 : Nat) : Int)).bind fun v2 =>
 (
  bif (decide (v2 > 0)) then
   gd (s1.length + 1 ≤ 1099511627776) <|
   some (s1 ++ [((k1 : Nat) : Int)])
  else
   some s1).bind fun j1 =>
 some (.next j1)

def impl_ColorsOf (a_b : GBlock) : Option (List Int) :=
 (impl_BlockOk a_b).bind fun v1 =>
 bif (!v1) then
  some ([] : List Int)
 else
  (lpO (impl_ColorsOf_L1 a_b) 6 ([] : List Int)).bind fun e1 =>
  some e1

def impl_choices_L1 (k1 : Nat) (s1 : Int) : Option (Res Int Empty) :=
 some (.next (wr (s1 * (wr (6 - ((k1 : Nat) : Int))))))

def impl_choices (a_n : Int) : Option Int :=
 gd ((a_n).toNat ≤ 4611686018427387904) <|
 (lpO impl_choices_L1 ((a_n).toNat) 1).bind fun e1 =>
 some e1

def impl_ColorwayCount (a_b : GBlock) : Option Int :=
 (impl_BlockOk a_b).bind fun v1 =>
 bif (!v1) then
  some 0
 else
  (impl_ColorsOf a_b).bind fun v2 =>
  (impl_choices ((v2.length : Nat) : Int)).bind fun v3 =>
  some v3

def spec_BlockOk_L1 (a_b : GBlock) (k1 : Nat) (_ : Unit) : Option (Res Unit Bool) :=
 (spec_CellOk (gx a_b.Cells k1)).bind fun v2 =>
 bif (!v2) then
  some (.ret false)
 else
  some (.next ())

def spec_BlockOk (a_b : GBlock) : Option Bool :=
 (
  (spec_l01In a_b.Size 1 4).bind fun v1 =>
  bif (!v1) then
   some true
  else
   some (((a_b.Cells.length : Nat) : Int) != (wr (a_b.Size * a_b.Size)))).bind fun j1 =>
 bif j1 then
  some false
 else
  gd (a_b.Cells.length ≤ 4611686018427387904) <|
  sq (forO (spec_BlockOk_L1 a_b) a_b.Cells.length 0 ()) fun _ =>
  some true

def spec_ColorsOf_L2 (a_b : GBlock) (k1 : Nat) (k2 : Nat) (s2 : Bool) : Option (Res Bool Empty) :=
 some (.next (s2 || (((gx a_b.Cells k2).A == ((k1 : Nat) : Int)) || ((gx a_b.Cells k2).B == ((k1 : Nat) : Int)))))

def spec_ColorsOf_L1 (a_b : GBlock) (k1 : Nat) (s1 : List Int) : Option (Res (List Int) Empty) :=
 gd (a_b.Cells.length ≤ 4611686018427387904) <|
 (lpO (spec_ColorsOf_L2 a_b k1) a_b.Cells.length false).bind fun e2 =>
 (
  bif e2 then
   gd (s1.length + 1 ≤ 1099511627776) <|
   some (s1 ++ [((k1 : Nat) : Int)])
  else
   some s1).bind fun j2 =>
 some (.next j2)

def spec_ColorsOf (a_b : GBlock) : Option (List Int) :=
 (spec_BlockOk a_b).bind fun v1 =>
 bif (!v1) then
  some ([] : List Int)
 else
  (lpO (spec_ColorsOf_L1 a_b) 6 ([] : List Int)).bind fun e1 =>
  some e1

def laws_at (a_code : List UInt8) (a_i : Int) : Option Int :=
 bif (((a_code.length : Nat) : Int) == 0) then
  some 0
 else
  gd (((a_code.length : Nat) : Int) ≠ 0) <|
  gd (0 ≤ ((wr ((wr (a_i * 5)) + 1)).tmod ((a_code.length : Nat) : Int)) ∧ ((wr ((wr (a_i * 5)) + 1)).tmod ((a_code.length : Nat) : Int)) < ((a_code.length : Nat) : Int)) <|
  some (((gx a_code ((((wr ((wr (a_i * 5)) + 1)).tmod ((a_code.length : Nat) : Int))).toNat))).toNat : Int)

def impl_upTo_L1 (k1 : Nat) (s1 : List Int) : Option (Res (List Int) Empty) :=
 gd (s1.length + 1 ≤ 1099511627776) <|
 some (.next (s1 ++ [((k1 : Nat) : Int)]))

def impl_upTo (a_n : Int) : Option (List Int) :=
 gd ((a_n).toNat ≤ 4611686018427387904) <|
 (lpO impl_upTo_L1 ((a_n).toNat) ([] : List Int)).bind fun e1 =>
 some e1

def impl_allWithin_L1 (a_list : List Int) (a_a : Int) (a_b : Int) (k1 : Nat) (_ : Unit) : Option (Res Unit Bool) :=
 (impl_within (gx a_list k1) a_a a_b).bind fun v1 =>
 bif (!v1) then
  some (.ret false)
 else
  some (.next ())

def impl_allWithin (a_list : List Int) (a_a : Int) (a_b : Int) : Option Bool :=
 gd (a_list.length ≤ 4611686018427387904) <|
 sq (forO (impl_allWithin_L1 a_list a_a a_b) a_list.length 0 ()) fun _ =>
 some true

def impl_ListOk (a_l : List Int) : Option Bool :=
 (
  bif (((a_l.length : Nat) : Int) == 6) then
   (impl_allWithin a_l 0 5).bind fun v1 =>
   some v1
  else
   some false).bind fun j1 =>
 some j1

def impl_Block_copied (a_b : GBlock) : Option GBlock :=
 gd (([] : List GCell).length + a_b.Cells.length ≤ 1099511627776) <|
 some (GBlock.mk a_b.Size (([] : List GCell) ++ a_b.Cells))

def impl_Block_isPlace (a_b : GBlock) (a_x : Int) (a_y : Int) : Option Bool :=
 (
  (impl_BlockOk a_b).bind fun v1 =>
  bif v1 then
   (impl_within a_x 0 (wr (a_b.Size - 1))).bind fun v2 =>
   bif v2 then
    (impl_within a_y 0 (wr (a_b.Size - 1))).bind fun v3 =>
    some v3
   else
    some false
  else
   some false).bind fun j1 =>
 some j1

def impl_CellAt (a_b : GBlock) (a_x : Int) (a_y : Int) : Option GCell :=
 (impl_Block_isPlace a_b a_x a_y).bind fun v1 =>
 bif (!v1) then
  some (GCell.mk 0 0 0)
 else
  gd (0 ≤ (wr ((wr (a_y * a_b.Size)) + a_x)) ∧ (wr ((wr (a_y * a_b.Size)) + a_x)) < ((a_b.Cells.length : Nat) : Int)) <|
  some (gx a_b.Cells (((wr ((wr (a_y * a_b.Size)) + a_x))).toNat))

def impl_WholeCell (a_a : Int) : Option GCell :=
 (impl_isColor a_a).bind fun v1 =>
 bif (!v1) then
  some (GCell.mk 0 0 0)
 else
  some (GCell.mk 0 a_a a_a)

def impl_SplitCell (a_split : Int) (a_a : Int) (a_b : Int) : Option GCell :=
 bif (a_a == a_b) then
  (impl_WholeCell a_a).bind fun v1 =>
  some v1
 else
  (impl_CellOk (GCell.mk a_split a_a a_b)).bind fun v2 =>
  bif (!v2) then
   some (GCell.mk 0 0 0)
  else
   some (GCell.mk a_split a_a a_b)

def impl_ExchangeCell (a_c : GCell) (a_l : List Int) : Option GCell :=
 (
  (impl_CellOk a_c).bind fun v1 =>
  bif (!v1) then
   some true
  else
   (impl_ListOk a_l).bind fun v2 =>
   some (!v2)).bind fun j1 =>
 bif j1 then
  some (GCell.mk 0 0 0)
 else
  gd (0 ≤ a_c.A ∧ a_c.A < ((a_l.length : Nat) : Int)) <|
  gd (0 ≤ a_c.B ∧ a_c.B < ((a_l.length : Nat) : Int)) <|
  (impl_SplitCell a_c.Split (gx a_l ((a_c.A).toNat)) (gx a_l ((a_c.B).toNat))).bind fun v3 =>
  some v3

def impl_ExchangeBlock_c1 (a_x : Int) (a_y : Int) (c_p2 : GBlock) (c_p3 : List Int) : Option GCell :=
 (impl_CellAt c_p2 a_x a_y).bind fun v1 =>
 (impl_ExchangeCell v1 c_p3).bind fun v2 =>
 some v2

def impl_made_L2 (a_one : Int → Int → Option GCell) (k1 : Nat) (k2 : Nat) (s2 : List GCell) : Option (Res (List GCell) Empty) :=
 (a_one ((k2 : Nat) : Int) ((k1 : Nat) : Int)).bind fun v1 =>
 gd (s2.length + 1 ≤ 1099511627776) <|
 some (.next (s2 ++ [v1]))

def impl_made_L1 (a_size : Int) (a_one : Int → Int → Option GCell) (k1 : Nat) (s1 : List GCell) : Option (Res (List GCell) Empty) :=
 (lpO (impl_made_L2 a_one k1) ((a_size).toNat) s1).bind fun e2 =>
 some (.next e2)

def impl_made (a_size : Int) (a_one : Int → Int → Option GCell) : Option GBlock :=
 gd ((a_size).toNat ≤ 4611686018427387904) <|
 (lpO (impl_made_L1 a_size a_one) ((a_size).toNat) ([] : List GCell)).bind fun e1 =>
 some (GBlock.mk a_size e1)

def impl_ExchangeBlock (a_b : GBlock) (a_l : List Int) : Option (GBlock × Bool) :=
 (
  (impl_BlockOk a_b).bind fun v1 =>
  bif (!v1) then
   some true
  else
   (impl_ListOk a_l).bind fun v2 =>
   some (!v2)).bind fun j1 =>
 bif j1 then
  (impl_Block_copied a_b).bind fun v3 =>
  some (v3, false)
 else
  (impl_made a_b.Size (fun z0 z1 => impl_ExchangeBlock_c1 z0 z1 a_b a_l)).bind fun v4 =>
  some (v4, true)

def impl_ColorwayAt_L1 (v3 : List Int) (k1 : Nat) (s1 : Int × (List Int) × (List Int)) : Option (Res (Int × (List Int) × (List Int)) Empty) :=
 (impl_choices ((v3.length : Nat) : Int)).bind fun v5 =>
 (impl_choices ((k1 + 1 : Nat) : Int)).bind fun v6 =>
 gd (v6 ≠ 0) <|
 gd ((wr (v5.tdiv v6)) ≠ 0) <|
 gd (0 ≤ (wr (s1.1.tdiv (wr (v5.tdiv v6)))) ∧ (wr (s1.1.tdiv (wr (v5.tdiv v6)))) < ((s1.2.1.length : Nat) : Int)) <|
 gd (0 ≤ (gx v3 k1) ∧ (gx v3 k1) < ((s1.2.2.length : Nat) : Int)) <|
 gd (0 ≤ (wr (s1.1.tdiv (wr (v5.tdiv v6)))) ∧ 0 ≤ ((wr (s1.1.tdiv (wr (v5.tdiv v6))))).toNat ∧ ((wr (s1.1.tdiv (wr (v5.tdiv v6))))).toNat ≤ s1.2.1.length) <|
 gd (0 ≤ (wr ((wr (s1.1.tdiv (wr (v5.tdiv v6)))) + 1)) ∧ ((wr ((wr (s1.1.tdiv (wr (v5.tdiv v6)))) + 1))).toNat ≤ s1.2.1.length ∧ s1.2.1.length ≤ s1.2.1.length) <|
 gd (([] : List Int).length + ((s1.2.1.drop 0).take (((wr (s1.1.tdiv (wr (v5.tdiv v6))))).toNat - 0)).length ≤ 1099511627776) <|
 gd ((([] : List Int) ++ ((s1.2.1.drop 0).take (((wr (s1.1.tdiv (wr (v5.tdiv v6))))).toNat - 0))).length + ((s1.2.1.drop (((wr ((wr (s1.1.tdiv (wr (v5.tdiv v6)))) + 1))).toNat)).take (s1.2.1.length - (((wr ((wr (s1.1.tdiv (wr (v5.tdiv v6)))) + 1))).toNat))).length ≤ 1099511627776) <|
 some (.next ((s1.1.tmod (wr (v5.tdiv v6))), ((([] : List Int) ++ ((s1.2.1.drop 0).take (((wr (s1.1.tdiv (wr (v5.tdiv v6))))).toNat - 0))) ++ ((s1.2.1.drop (((wr ((wr (s1.1.tdiv (wr (v5.tdiv v6)))) + 1))).toNat)).take (s1.2.1.length - (((wr ((wr (s1.1.tdiv (wr (v5.tdiv v6)))) + 1))).toNat)))), (s1.2.2.set (((gx v3 k1)).toNat) (gx s1.2.1 (((wr (s1.1.tdiv (wr (v5.tdiv v6))))).toNat)))))

def impl_ColorwayAt (a_b : GBlock) (a_index : Int) : Option (GBlock × Bool) :=
 (impl_ColorwayCount a_b).bind fun v1 =>
 (impl_within a_index 0 (wr (v1 - 1))).bind fun v2 =>
 bif (!v2) then
  some ((GBlock.mk 0 ([] : List GCell)), false)
 else
  (impl_ColorsOf a_b).bind fun v3 =>
  (impl_upTo 6).bind fun v4 =>
  gd (v3.length ≤ 4611686018427387904) <|
  (lpO (impl_ColorwayAt_L1 v3) v3.length (a_index, v4, (List.replicate 6 (0 : Int)))).bind fun e1 =>
  (impl_ExchangeBlock a_b e1.2.2).bind fun v7 =>
  some (v7.1, v7.2)

def impl_SameBlock_L1 (a_b : GBlock) (a_d : GBlock) (k1 : Nat) (_ : Unit) : Option (Res Unit Bool) :=
 gd (k1 < a_d.Cells.length) <|
 bif (!(beqs [(gx a_b.Cells k1).Split, (gx a_b.Cells k1).A, (gx a_b.Cells k1).B] [(gx a_d.Cells k1).Split, (gx a_d.Cells k1).A, (gx a_d.Cells k1).B])) then
  some (.ret false)
 else
  some (.next ())

def impl_SameBlock (a_b : GBlock) (a_d : GBlock) : Option Bool :=
 bif ((a_b.Size != a_d.Size) || (((a_b.Cells.length : Nat) : Int) != ((a_d.Cells.length : Nat) : Int))) then
  some false
 else
  gd (a_b.Cells.length ≤ 4611686018427387904) <|
  sq (forO (impl_SameBlock_L1 a_b a_d) a_b.Cells.length 0 ()) fun _ =>
  some true

def impl_indexOf_L1 (a_list : List Int) (a_n : Int) (k1 : Nat) (_ : Unit) : Option (Res Unit Int) :=
 bif ((gx a_list k1) == a_n) then
  some (.ret ((k1 : Nat) : Int))
 else
  some (.next ())

def impl_indexOf (a_list : List Int) (a_n : Int) : Option Int :=
 gd (a_list.length ≤ 4611686018427387904) <|
 sq (forO (impl_indexOf_L1 a_list a_n) a_list.length 0 ()) fun _ =>
 some (-1)

def impl_put_L1 (a_list : List Int) (a_n : Int) (k1 : Nat) (s1 : (List Int) × Bool) : Option (Res ((List Int) × Bool) Empty) :=
 (
  bif ((!s1.2) && (decide (a_n ≤ (gx a_list k1)))) then
   gd (s1.1.length + 1 ≤ 1099511627776) <|
   some ((s1.1 ++ [a_n]), true)
  else
   some (s1.1, s1.2)).bind fun j2 =>
 gd (j2.1.length + 1 ≤ 1099511627776) <|
 some (.next ((j2.1 ++ [(gx a_list k1)]), j2.2))

def impl_put (a_list : List Int) (a_n : Int) : Option (List Int) :=
 gd (a_list.length ≤ 4611686018427387904) <|
 (lpO (impl_put_L1 a_list a_n) a_list.length (([] : List Int), false)).bind fun e1 =>
 (
  bif (!e1.2) then
   gd (e1.1.length + 1 ≤ 1099511627776) <|
   some (e1.1 ++ [a_n])
  else
   some e1.1).bind fun j3 =>
 some j3

def impl_sorted_L1 (a_list : List Int) (k1 : Nat) (s1 : List Int) : Option (Res (List Int) Empty) :=
 (impl_put s1 (gx a_list k1)).bind fun v1 =>
 some (.next v1)

def impl_sorted (a_list : List Int) : Option (List Int) :=
 gd (a_list.length ≤ 4611686018427387904) <|
 (lpO (impl_sorted_L1 a_list) a_list.length ([] : List Int)).bind fun e1 =>
 some e1

def impl_isStrict_L1 (a_list : List Int) (k1 : Nat) (_ : Unit) : Option (Res Unit Bool) :=
 (
  bif (decide (((k1 : Nat) : Int) > 0)) then
   gd (0 ≤ (wr (((k1 : Nat) : Int) - 1)) ∧ (wr (((k1 : Nat) : Int) - 1)) < ((a_list.length : Nat) : Int)) <|
   some (decide ((gx a_list k1) ≤ (gx a_list (((wr (((k1 : Nat) : Int) - 1))).toNat))))
  else
   some false).bind fun j1 =>
 bif j1 then
  some (.ret false)
 else
  some (.next ())

def impl_isStrict (a_list : List Int) (a_a : Int) (a_b : Int) : Option Bool :=
 gd (a_list.length ≤ 4611686018427387904) <|
 sq (forO (impl_isStrict_L1 a_list) a_list.length 0 ()) fun _ =>
 (impl_allWithin a_list a_a a_b).bind fun v1 =>
 some v1

def impl_IsExchange (a_l : List Int) : Option Bool :=
 (
  bif (((a_l.length : Nat) : Int) == 6) then
   (impl_sorted a_l).bind fun v1 =>
   (impl_isStrict v1 0 5).bind fun v2 =>
   some v2
  else
   some false).bind fun j1 =>
 some j1

def impl_UndoList_L1 (a_l : List Int) (k1 : Nat) (s1 : List Int) : Option (Res (List Int) Empty) :=
 gd (0 ≤ (gx a_l k1) ∧ (gx a_l k1) < ((s1.length : Nat) : Int)) <|
 some (.next (s1.set (((gx a_l k1)).toNat) ((k1 : Nat) : Int)))

def impl_UndoList (a_l : List Int) : Option (List Int) :=
 (impl_IsExchange a_l).bind fun v1 =>
 bif (!v1) then
  some ([] : List Int)
 else
  gd (a_l.length ≤ 4611686018427387904) <|
  (lpO (impl_UndoList_L1 a_l) a_l.length (List.replicate 6 (0 : Int))).bind fun e1 =>
  some e1

def impl_FirstUse_L2 (a_b : GBlock) (k1 : Nat) (k2 : Nat) (s2 : List Int) : Option (Res (List Int) Empty) :=
 (impl_indexOf s2 (gx ([(gx a_b.Cells k1).A, (gx a_b.Cells k1).B] : List Int) k2)).bind fun v2 =>
 (
  bif (decide (v2 < 0)) then
   gd (s2.length + 1 ≤ 1099511627776) <|
   some (s2 ++ [(gx ([(gx a_b.Cells k1).A, (gx a_b.Cells k1).B] : List Int) k2)])
  else
   some s2).bind fun j1 =>
 some (.next j1)

def impl_FirstUse_L1 (a_b : GBlock) (k1 : Nat) (s1 : List Int) : Option (Res (List Int) Empty) :=
 gd (([(gx a_b.Cells k1).A, (gx a_b.Cells k1).B] : List Int).length ≤ 4611686018427387904) <|
 (lpO (impl_FirstUse_L2 a_b k1) (([(gx a_b.Cells k1).A, (gx a_b.Cells k1).B] : List Int).length) s1).bind fun e2 =>
 some (.next e2)

def impl_FirstUse_L3 (k3 : Nat) (s3 : List Int) : Option (Res (List Int) Empty) :=
 (impl_indexOf s3 ((k3 : Nat) : Int)).bind fun v3 =>
 (
  bif (decide (v3 < 0)) then
   gd (s3.length + 1 ≤ 1099511627776) <|
   some (s3 ++ [((k3 : Nat) : Int)])
  else
   some s3).bind fun j2 =>
 some (.next j2)

def impl_FirstUse (a_b : GBlock) : Option (List Int) :=
 (impl_BlockOk a_b).bind fun v1 =>
 bif (!v1) then
  some ([] : List Int)
 else
  gd (a_b.Cells.length ≤ 4611686018427387904) <|
  (lpO (impl_FirstUse_L1 a_b) a_b.Cells.length ([] : List Int)).bind fun e1 =>
  (lpO impl_FirstUse_L3 6 e1).bind fun e3 =>
  (impl_UndoList e3).bind fun v4 =>
  some v4

def impl_plain (a_b : GBlock) : Option GBlock :=
 (impl_FirstUse a_b).bind fun v1 =>
 (impl_ExchangeBlock a_b v1).bind fun v2 =>
 some v2.1

def impl_IsColorway (a_b : GBlock) (a_d : GBlock) : Option Bool :=
 (
  (impl_BlockOk a_b).bind fun v1 =>
  bif v1 then
   (impl_BlockOk a_d).bind fun v2 =>
   bif v2 then
    (impl_plain a_b).bind fun v3 =>
    (impl_plain a_d).bind fun v4 =>
    (impl_SameBlock v3 v4).bind fun v5 =>
    some v5
   else
    some false
  else
   some false).bind fun j1 =>
 some j1

def spec_FirstUse_L1 (_ : Nat) (s1 : List Int) : Option (Res (List Int) Empty) :=
 gd (s1.length + 1 ≤ 1099511627776) <|
 some (.next (s1 ++ [(-1)]))

def spec_FirstUse_L2 (a_b : GBlock) (k2 : Nat) (s2 : (List Int) × Int) : Option (Res ((List Int) × Int) Empty) :=
 gd (0 ≤ (wr (((k2 : Nat) : Int).tdiv 2)) ∧ (wr (((k2 : Nat) : Int).tdiv 2)) < ((a_b.Cells.length : Nat) : Int)) <|
 gd (0 ≤ (bif ((((k2 : Nat) : Int).tmod 2) == 1) then (gx a_b.Cells (((wr (((k2 : Nat) : Int).tdiv 2))).toNat)).B else (gx a_b.Cells (((wr (((k2 : Nat) : Int).tdiv 2))).toNat)).A) ∧ (bif ((((k2 : Nat) : Int).tmod 2) == 1) then (gx a_b.Cells (((wr (((k2 : Nat) : Int).tdiv 2))).toNat)).B else (gx a_b.Cells (((wr (((k2 : Nat) : Int).tdiv 2))).toNat)).A) < ((s2.1.length : Nat) : Int)) <|
 some (.next ((bif (decide ((gx s2.1 (((bif ((((k2 : Nat) : Int).tmod 2) == 1) then (gx a_b.Cells (((wr (((k2 : Nat) : Int).tdiv 2))).toNat)).B else (gx a_b.Cells (((wr (((k2 : Nat) : Int).tdiv 2))).toNat)).A)).toNat)) < 0)) then (s2.1.set (((bif ((((k2 : Nat) : Int).tmod 2) == 1) then (gx a_b.Cells (((wr (((k2 : Nat) : Int).tdiv 2))).toNat)).B else (gx a_b.Cells (((wr (((k2 : Nat) : Int).tdiv 2))).toNat)).A)).toNat) s2.2) else s2.1), (bif (decide ((gx s2.1 (((bif ((((k2 : Nat) : Int).tmod 2) == 1) then (gx a_b.Cells (((wr (((k2 : Nat) : Int).tdiv 2))).toNat)).B else (gx a_b.Cells (((wr (((k2 : Nat) : Int).tdiv 2))).toNat)).A)).toNat)) < 0)) then (wr (s2.2 + 1)) else s2.2)))

def spec_FirstUse_L3 (k3 : Nat) (s3 : (List Int) × Int) : Option (Res ((List Int) × Int) Empty) :=
 gd (k3 < s3.1.length) <|
 some (.next ((bif (decide ((gx s3.1 k3) < 0)) then (s3.1.set k3 s3.2) else s3.1), (bif (decide ((gx s3.1 k3) < 0)) then (wr (s3.2 + 1)) else s3.2)))

def spec_FirstUse (a_b : GBlock) : Option (List Int) :=
 (spec_BlockOk a_b).bind fun v1 =>
 bif (!v1) then
  some ([] : List Int)
 else
  (lpO spec_FirstUse_L1 6 ([] : List Int)).bind fun e1 =>
  gd (((wr (2 * ((a_b.Cells.length : Nat) : Int)))).toNat ≤ 4611686018427387904) <|
  (lpO (spec_FirstUse_L2 a_b) (((wr (2 * ((a_b.Cells.length : Nat) : Int)))).toNat) (e1, 0)).bind fun e2 =>
  (lpO spec_FirstUse_L3 6 (e2.1, e2.2)).bind fun e3 =>
  some e3.1

def spec_ListOk_L1 (a_l : List Int) (k1 : Nat) (_ : Unit) : Option (Res Unit Bool) :=
 (spec_l01In (gx a_l k1) 0 5).bind fun v1 =>
 bif (!v1) then
  some (.ret false)
 else
  some (.next ())

def spec_ListOk (a_l : List Int) : Option Bool :=
 gd (a_l.length ≤ 4611686018427387904) <|
 sq (forO (spec_ListOk_L1 a_l) a_l.length 0 ()) fun _ =>
 some (((a_l.length : Nat) : Int) == 6)

def spec_l03Copy (a_b : GBlock) : Option GBlock :=
 gd (([] : List GCell).length + a_b.Cells.length ≤ 1099511627776) <|
 some (GBlock.mk a_b.Size (([] : List GCell) ++ a_b.Cells))

def spec_ExchangeCell (a_c : GCell) (a_l : List Int) : Option GCell :=
 (
  (spec_CellOk a_c).bind fun v1 =>
  bif (!v1) then
   some true
  else
   (spec_ListOk a_l).bind fun v2 =>
   some (!v2)).bind fun j1 =>
 bif j1 then
  some (GCell.mk 0 0 0)
 else
  gd (0 ≤ a_c.A ∧ a_c.A < ((a_l.length : Nat) : Int)) <|
  gd (0 ≤ a_c.B ∧ a_c.B < ((a_l.length : Nat) : Int)) <|
  (spec_SplitCell a_c.Split (gx a_l ((a_c.A).toNat)) (gx a_l ((a_c.B).toNat))).bind fun v3 =>
  some v3

def spec_ExchangeBlock_L1 (a_b : GBlock) (a_l : List Int) (k1 : Nat) (s1 : List GCell) : Option (Res (List GCell) Empty) :=
 (spec_ExchangeCell (gx a_b.Cells k1) a_l).bind fun v4 =>
 gd (s1.length + 1 ≤ 1099511627776) <|
 some (.next (s1 ++ [v4]))

def spec_ExchangeBlock (a_b : GBlock) (a_l : List Int) : Option (GBlock × Bool) :=
 (
  (spec_BlockOk a_b).bind fun v1 =>
  bif (!v1) then
   some true
  else
   (spec_ListOk a_l).bind fun v2 =>
   some (!v2)).bind fun j1 =>
 bif j1 then
  (spec_l03Copy a_b).bind fun v3 =>
  some (v3, false)
 else
  gd (a_b.Cells.length ≤ 4611686018427387904) <|
  (lpO (spec_ExchangeBlock_L1 a_b a_l) a_b.Cells.length ([] : List GCell)).bind fun e1 =>
  some ((GBlock.mk a_b.Size e1), true)

def spec_l07Plain (a_b : GBlock) : Option GBlock :=
 (spec_FirstUse a_b).bind fun v1 =>
 (spec_ExchangeBlock a_b v1).bind fun v2 =>
 some v2.1

def spec_MirrorCell (a_c : GCell) : Option GCell :=
 (spec_CellOk a_c).bind fun v1 =>
 bif (!v1) then
  some (GCell.mk 0 0 0)
 else
  bif (a_c.Split == 0) then
   some a_c
  else
   some (GCell.mk (wr (3 - a_c.Split)) a_c.B a_c.A)

def spec_MirrorBlock_L2 (a_b : GBlock) (k1 : Nat) (k2 : Nat) (s2 : List GCell) : Option (Res (List GCell) Empty) :=
 gd (0 ≤ (wr ((wr ((wr ((wr (((k1 : Nat) : Int) * a_b.Size)) + a_b.Size)) - 1)) - ((k2 : Nat) : Int))) ∧ (wr ((wr ((wr ((wr (((k1 : Nat) : Int) * a_b.Size)) + a_b.Size)) - 1)) - ((k2 : Nat) : Int))) < ((a_b.Cells.length : Nat) : Int)) <|
 (spec_MirrorCell (gx a_b.Cells (((wr ((wr ((wr ((wr (((k1 : Nat) : Int) * a_b.Size)) + a_b.Size)) - 1)) - ((k2 : Nat) : Int)))).toNat))).bind fun v2 =>
 gd (s2.length + 1 ≤ 1099511627776) <|
 some (.next (s2 ++ [v2]))

def spec_MirrorBlock_L1 (a_b : GBlock) (k1 : Nat) (s1 : List GCell) : Option (Res (List GCell) Empty) :=
 (lpO (spec_MirrorBlock_L2 a_b k1) ((a_b.Size).toNat) s1).bind fun e2 =>
 some (.next e2)

def spec_MirrorBlock (a_b : GBlock) : Option GBlock :=
 (spec_BlockOk a_b).bind fun v1 =>
 bif (!v1) then
  some (GBlock.mk 0 ([] : List GCell))
 else
  gd ((a_b.Size).toNat ≤ 4611686018427387904) <|
  (lpO (spec_MirrorBlock_L1 a_b) ((a_b.Size).toNat) ([] : List GCell)).bind fun e1 =>
  some (GBlock.mk a_b.Size e1)

def spec_TurnCell (a_c : GCell) : Option GCell :=
 (spec_CellOk a_c).bind fun v1 =>
 bif (!v1) then
  some (GCell.mk 0 0 0)
 else
  bif (a_c.Split == 1) then
   some (GCell.mk 2 a_c.B a_c.A)
  else
   bif (a_c.Split == 2) then
    some (GCell.mk 1 a_c.A a_c.B)
   else
    some a_c

def spec_TurnBlock_L2 (a_b : GBlock) (k1 : Nat) (k2 : Nat) (s2 : List GCell) : Option (Res (List GCell) Empty) :=
 gd (0 ≤ (wr ((wr ((wr ((wr (a_b.Size - 1)) - ((k2 : Nat) : Int))) * a_b.Size)) + ((k1 : Nat) : Int))) ∧ (wr ((wr ((wr ((wr (a_b.Size - 1)) - ((k2 : Nat) : Int))) * a_b.Size)) + ((k1 : Nat) : Int))) < ((a_b.Cells.length : Nat) : Int)) <|
 (spec_TurnCell (gx a_b.Cells (((wr ((wr ((wr ((wr (a_b.Size - 1)) - ((k2 : Nat) : Int))) * a_b.Size)) + ((k1 : Nat) : Int)))).toNat))).bind fun v2 =>
 gd (s2.length + 1 ≤ 1099511627776) <|
 some (.next (s2 ++ [v2]))

def spec_TurnBlock_L1 (a_b : GBlock) (k1 : Nat) (s1 : List GCell) : Option (Res (List GCell) Empty) :=
 (lpO (spec_TurnBlock_L2 a_b k1) ((a_b.Size).toNat) s1).bind fun e2 =>
 some (.next e2)

def spec_TurnBlock (a_b : GBlock) : Option GBlock :=
 (spec_BlockOk a_b).bind fun v1 =>
 bif (!v1) then
  some (GBlock.mk 0 ([] : List GCell))
 else
  gd ((a_b.Size).toNat ≤ 4611686018427387904) <|
  (lpO (spec_TurnBlock_L1 a_b) ((a_b.Size).toNat) ([] : List GCell)).bind fun e1 =>
  some (GBlock.mk a_b.Size e1)

def spec_SeenFrom_L1 (_ : Nat) (s1 : Int × (List GCell)) : Option (Res (Int × (List GCell)) Empty) :=
 (spec_TurnBlock (GBlock.mk s1.1 s1.2)).bind fun v5 =>
 some (.next (v5.Size, v5.Cells))

def spec_SeenFrom (a_b : GBlock) (a_k : Int) : Option GBlock :=
 (
  (spec_BlockOk a_b).bind fun v1 =>
  bif (!v1) then
   some true
  else
   (spec_l01In a_k 0 7).bind fun v2 =>
   some (!v2)).bind fun j1 =>
 bif j1 then
  some (GBlock.mk 0 ([] : List GCell))
 else
  (spec_l03Copy a_b).bind fun v3 =>
  (
   bif (decide (a_k ≥ 4)) then
    (spec_MirrorBlock a_b).bind fun v4 =>
    some v4
   else
    some v3).bind fun j2 =>
  gd (((a_k.tmod 4)).toNat ≤ 4611686018427387904) <|
  (lpO spec_SeenFrom_L1 (((a_k.tmod 4)).toNat) ((j2).Size, (j2).Cells)).bind fun e1 =>
  some (GBlock.mk e1.1 e1.2)

def spec_l01Figure (a_x : Int) : Option UInt8 :=
 bif (decide (a_x < 10)) then
  some (u8of (wr (48 + a_x)))
 else
  some (u8of (wr ((wr (97 + a_x)) - 10)))

def spec_FormatInt_L1 (s1 : Int × Str) : Option (Res (Int × Str) Empty) :=
 bif (s1.1 != 0) then
  (spec_l01Figure (bif (decide ((s1.1.tmod 10) < 0)) then (wr (0 - (s1.1.tmod 10))) else (s1.1.tmod 10))).bind fun v1 =>
  gd ((⟨([v1] : List UInt8)⟩ : Str).b.length + s1.2.b.length ≤ 1099511627776) <|
  some (.next ((wr (s1.1.tdiv 10)), (sadd (⟨([v1] : List UInt8)⟩ : Str) s1.2)))
 else
  some (.brk (s1.1, s1.2))

def spec_FormatInt (a_n : Int) : Option Str :=
 bif (a_n == 0) then
  some (⟨[48]⟩ : Str)
 else
  (wlO spec_FormatInt_L1 18446744073709551616 (a_n, (⟨[]⟩ : Str))).bind fun e1 =>
  bif (decide (a_n < 0)) then
   gd ((⟨[45]⟩ : Str).b.length + e1.2.b.length ≤ 1099511627776) <|
   some (sadd (⟨[45]⟩ : Str) e1.2)
  else
   some e1.2

def spec_CellText (a_c : GCell) : Option Str :=
 (spec_CellOk a_c).bind fun v1 =>
 bif (!v1) then
  some (⟨[]⟩ : Str)
 else
  bif (a_c.Split == 1) then
   (spec_FormatInt a_c.A).bind fun v2 =>
   gd (v2.b.length + (⟨[47]⟩ : Str).b.length ≤ 1099511627776) <|
   (spec_FormatInt a_c.B).bind fun v3 =>
   gd ((sadd v2 (⟨[47]⟩ : Str)).b.length + v3.b.length ≤ 1099511627776) <|
   some (sadd (sadd v2 (⟨[47]⟩ : Str)) v3)
  else
   bif (a_c.Split == 2) then
    (spec_FormatInt a_c.A).bind fun v4 =>
    gd (v4.b.length + (⟨[92]⟩ : Str).b.length ≤ 1099511627776) <|
    (spec_FormatInt a_c.B).bind fun v5 =>
    gd ((sadd v4 (⟨[92]⟩ : Str)).b.length + v5.b.length ≤ 1099511627776) <|
    some (sadd (sadd v4 (⟨[92]⟩ : Str)) v5)
   else
    (spec_FormatInt a_c.A).bind fun v6 =>
    some v6

def spec_TextOf_L1 (a_b : GBlock) (k1 : Nat) (s1 : Str) : Option (Res Str Empty) :=
 (spec_BlockOk a_b).bind fun v1 =>
 bif v1 then
  (spec_CellText (gx a_b.Cells k1)).bind fun v2 =>
  gd (s1.b.length + v2.b.length ≤ 1099511627776) <|
  gd ((sadd s1 v2).b.length + (⟨[59]⟩ : Str).b.length ≤ 1099511627776) <|
  some (.next (sadd (sadd s1 v2) (⟨[59]⟩ : Str)))
 else
  some (.brk s1)

def spec_TextOf (a_b : GBlock) : Option Str :=
 gd (a_b.Cells.length ≤ 4611686018427387904) <|
 (lpO (spec_TextOf_L1 a_b) a_b.Cells.length (⟨[]⟩ : Str)).bind fun e1 =>
 some e1

def spec_LeastPattern_L1 (a_b : GBlock) (k1 : Nat) (s1 : Int × (List GCell)) : Option (Res (Int × (List GCell)) Empty) :=
 (spec_SeenFrom a_b (((k1 + 1) : Nat) : Int)).bind fun v3 =>
 (spec_l07Plain v3).bind fun v4 =>
 (spec_TextOf v4).bind fun v5 =>
 (spec_TextOf (GBlock.mk s1.1 s1.2)).bind fun v6 =>
 some (.next ((bif (slt v5 v6) then v4 else (GBlock.mk s1.1 s1.2)).Size, (bif (slt v5 v6) then v4 else (GBlock.mk s1.1 s1.2)).Cells))

def spec_LeastPattern (a_b : GBlock) : Option GBlock :=
 (spec_BlockOk a_b).bind fun v1 =>
 bif (!v1) then
  some (GBlock.mk 0 ([] : List GCell))
 else
  (spec_l07Plain a_b).bind fun v2 =>
  (lpO (spec_LeastPattern_L1 a_b) 7 (v2.Size, v2.Cells)).bind fun e1 =>
  some (GBlock.mk e1.1 e1.2)

def spec_SameBlock_L1 (a_b : GBlock) (a_d : GBlock) (k1 : Nat) (_ : Unit) : Option (Res Unit Bool) :=
 gd (k1 < a_d.Cells.length) <|
 bif (!(beqs [(gx a_b.Cells k1).Split, (gx a_b.Cells k1).A, (gx a_b.Cells k1).B] [(gx a_d.Cells k1).Split, (gx a_d.Cells k1).A, (gx a_d.Cells k1).B])) then
  some (.ret false)
 else
  some (.next ())

def spec_SameBlock (a_b : GBlock) (a_d : GBlock) : Option Bool :=
 bif ((a_b.Size != a_d.Size) || (((a_b.Cells.length : Nat) : Int) != ((a_d.Cells.length : Nat) : Int))) then
  some false
 else
  gd (a_b.Cells.length ≤ 4611686018427387904) <|
  sq (forO (spec_SameBlock_L1 a_b a_d) a_b.Cells.length 0 ()) fun _ =>
  some true

def spec_ArePatternsSame (a_b : GBlock) (a_d : GBlock) : Option Bool :=
 (
  (spec_BlockOk a_b).bind fun v1 =>
  bif v1 then
   (spec_BlockOk a_d).bind fun v2 =>
   bif v2 then
    (spec_LeastPattern a_b).bind fun v3 =>
    (spec_LeastPattern a_d).bind fun v4 =>
    (spec_SameBlock v3 v4).bind fun v5 =>
    some v5
   else
    some false
  else
   some false).bind fun j1 =>
 some j1

def spec_l01Once (a_c0 : List UInt8) (a_c1 : Int) (a_c2 : Int) (a_n : Int) : Option (Bool × Int × Int) :=
 (spec_l01Below a_c0 a_c1 a_c2 a_n).bind fun v1 =>
 some ((v1.1 == 0), v1.2.1, v1.2.2)

def spec_DrawFreeColorways_L1 (a_code : List UInt8) (_ : Nat) (s1 : (List GCell) × Int × Int) : Option (Res ((List GCell) × Int × Int) Empty) :=
 (spec_l02Cell a_code s1.2.1 s1.2.2).bind fun v4 =>
 gd (s1.1.length + 1 ≤ 1099511627776) <|
 some (.next ((s1.1 ++ [v4.1]), v4.2.1, v4.2.2))

def spec_DrawFreeColorways (a_code : List UInt8) : Option GBlock :=
 (spec_l01New a_code).bind fun v1 =>
 (spec_l03Block a_code v1.1 v1.2).bind fun v2 =>
 (
  bif (decide (v2.1.Size > 2)) then
   (spec_l01Below a_code v2.2.1 v2.2.2 4).bind fun v3 =>
   some ((decide (v3.1 > 0)), (Gl01Cur.mk a_code v3.2.1 v3.2.2))
  else
   some (false, (Gl01Cur.mk a_code v2.2.1 v2.2.2))).bind fun j1 =>
 (
  bif j1.1 then
   (lpO (spec_DrawFreeColorways_L1 a_code) 4 (([] : List GCell), (j1.2).i, (j1.2).h)).bind fun e1 =>
   some ((GBlock.mk 2 e1.1), (Gl01Cur.mk a_code e1.2.1 e1.2.2))
  else
   some (v2.1, (Gl01Cur.mk a_code ((j1.2).i) ((j1.2).h)))).bind fun j2 =>
 (spec_l01Once a_code ((j2.2).i) ((j2.2).h) 12).bind fun v5 =>
 some (GBlock.mk (bif v5.1 then 9 else (j2.1).Size) ((j2.1).Cells))

def impl_MirrorCell (a_c : GCell) : Option GCell :=
 (impl_CellOk a_c).bind fun v1 =>
 bif (!v1) then
  some (GCell.mk 0 0 0)
 else
  bif (a_c.Split == 0) then
   some a_c
  else
   some (GCell.mk (wr (3 - a_c.Split)) a_c.B a_c.A)

def impl_MirrorBlock_c1 (a_x : Int) (a_y : Int) (c_p2 : GBlock) : Option GCell :=
 (impl_CellAt c_p2 (wr ((wr (c_p2.Size - 1)) - a_x)) a_y).bind fun v1 =>
 (impl_MirrorCell v1).bind fun v2 =>
 some v2

def impl_MirrorBlock (a_b : GBlock) : Option GBlock :=
 (impl_BlockOk a_b).bind fun v1 =>
 bif (!v1) then
  some (GBlock.mk 0 ([] : List GCell))
 else
  (impl_made a_b.Size (fun z0 z1 => impl_MirrorBlock_c1 z0 z1 a_b)).bind fun v2 =>
  some v2

def impl_TurnCell (a_c : GCell) : Option GCell :=
 (impl_CellOk a_c).bind fun v1 =>
 bif (!v1) then
  some (GCell.mk 0 0 0)
 else
  bif (a_c.Split == 1) then
   some (GCell.mk 2 a_c.B a_c.A)
  else
   bif (a_c.Split == 2) then
    some (GCell.mk 1 a_c.A a_c.B)
   else
    some a_c

def impl_TurnBlock_c1 (a_x : Int) (a_y : Int) (c_p2 : GBlock) : Option GCell :=
 (impl_CellAt c_p2 a_y (wr ((wr (c_p2.Size - 1)) - a_x))).bind fun v1 =>
 (impl_TurnCell v1).bind fun v2 =>
 some v2

def impl_TurnBlock (a_b : GBlock) : Option GBlock :=
 (impl_BlockOk a_b).bind fun v1 =>
 bif (!v1) then
  some (GBlock.mk 0 ([] : List GCell))
 else
  (impl_made a_b.Size (fun z0 z1 => impl_TurnBlock_c1 z0 z1 a_b)).bind fun v2 =>
  some v2

def impl_SeenFrom_L1 (_ : Nat) (s1 : Int × (List GCell)) : Option (Res (Int × (List GCell)) Empty) :=
 (impl_TurnBlock (GBlock.mk s1.1 s1.2)).bind fun v5 =>
 some (.next (v5.Size, v5.Cells))

def impl_SeenFrom (a_b : GBlock) (a_k : Int) : Option GBlock :=
 (
  (impl_BlockOk a_b).bind fun v1 =>
  bif (!v1) then
   some true
  else
   (impl_within a_k 0 7).bind fun v2 =>
   some (!v2)).bind fun j1 =>
 bif j1 then
  some (GBlock.mk 0 ([] : List GCell))
 else
  (impl_Block_copied a_b).bind fun v3 =>
  (
   bif (decide (a_k ≥ 4)) then
    (impl_MirrorBlock a_b).bind fun v4 =>
    some v4
   else
    some v3).bind fun j2 =>
  gd (((a_k.tmod 4)).toNat ≤ 4611686018427387904) <|
  (lpO impl_SeenFrom_L1 (((a_k.tmod 4)).toNat) ((j2).Size, (j2).Cells)).bind fun e1 =>
  some (GBlock.mk e1.1 e1.2)

def impl_views_L1 (a_b : GBlock) (k1 : Nat) (s1 : List GBlock) : Option (Res (List GBlock) Empty) :=
 (impl_SeenFrom a_b ((k1 : Nat) : Int)).bind fun v1 =>
 gd (s1.length + 1 ≤ 1099511627776) <|
 some (.next (s1 ++ [v1]))

def impl_views (a_b : GBlock) : Option (List GBlock) :=
 (lpO (impl_views_L1 a_b) 8 ([] : List GBlock)).bind fun e1 =>
 some e1

def strconv_Itoa (a_i : Int) : Option Str :=
 gd (0 ≤ a_i ∧ a_i < 10) <|
 some (⟨[UInt8.ofNat (48 + a_i.toNat)]⟩ : Str)

def impl_FormatInt (a_n : Int) : Option Str :=
 (strconv_Itoa a_n).bind fun v1 =>
 some v1

def impl_CellText (a_c : GCell) : Option Str :=
 (impl_CellOk a_c).bind fun v1 =>
 bif (!v1) then
  some (⟨[]⟩ : Str)
 else
  gd (0 ≤ a_c.Split ∧ a_c.Split < ((([(⟨[]⟩ : Str), (⟨[47]⟩ : Str), (⟨[92]⟩ : Str)] : List Str).length : Nat) : Int)) <|
  bif (seq (gx ([(⟨[]⟩ : Str), (⟨[47]⟩ : Str), (⟨[92]⟩ : Str)] : List Str) ((a_c.Split).toNat)) (⟨[]⟩ : Str)) then
   (impl_FormatInt a_c.A).bind fun v2 =>
   some v2
  else
   (impl_FormatInt a_c.A).bind fun v3 =>
   gd (v3.b.length + (gx ([(⟨[]⟩ : Str), (⟨[47]⟩ : Str), (⟨[92]⟩ : Str)] : List Str) ((a_c.Split).toNat)).b.length ≤ 1099511627776) <|
   (impl_FormatInt a_c.B).bind fun v4 =>
   gd ((sadd v3 (gx ([(⟨[]⟩ : Str), (⟨[47]⟩ : Str), (⟨[92]⟩ : Str)] : List Str) ((a_c.Split).toNat))).b.length + v4.b.length ≤ 1099511627776) <|
   some (sadd (sadd v3 (gx ([(⟨[]⟩ : Str), (⟨[47]⟩ : Str), (⟨[92]⟩ : Str)] : List Str) ((a_c.Split).toNat))) v4)

def impl_TextOf_L1 (a_b : GBlock) (k1 : Nat) (s1 : Str) : Option (Res Str Empty) :=
 (impl_CellText (gx a_b.Cells k1)).bind fun v2 =>
 gd (v2.b.length + (⟨[59]⟩ : Str).b.length ≤ 1099511627776) <|
 gd (s1.b.length + (sadd v2 (⟨[59]⟩ : Str)).b.length ≤ 1099511627776) <|
 some (.next (sadd s1 (sadd v2 (⟨[59]⟩ : Str))))

def impl_TextOf (a_b : GBlock) : Option Str :=
 (impl_BlockOk a_b).bind fun v1 =>
 bif (!v1) then
  some (⟨[]⟩ : Str)
 else
  gd (a_b.Cells.length ≤ 4611686018427387904) <|
  (lpO (impl_TextOf_L1 a_b) a_b.Cells.length (⟨[]⟩ : Str)).bind fun e1 =>
  some e1

def impl_least_L1 (a_list : List GBlock) (k1 : Nat) (s1 : Nat) : Option (Res Nat Empty) :=
 gd (s1 < a_list.length) <|
 (impl_TextOf (gx a_list k1)).bind fun v1 =>
 (impl_TextOf (gx a_list s1)).bind fun v2 =>
 some (.next (bif slt v1 v2 then k1 else s1))

def impl_least (a_list : List GBlock) : Option GBlock :=
 gd (0 < a_list.length) <|
 gd (a_list.length ≤ 4611686018427387904) <|
 (lpO (impl_least_L1 a_list) a_list.length 0).bind fun e1 =>
 gd (e1 < a_list.length) <|
 some (gx a_list e1)

def impl_LeastForm (a_b : GBlock) : Option GBlock :=
 (impl_BlockOk a_b).bind fun v1 =>
 bif (!v1) then
  some (GBlock.mk 0 ([] : List GCell))
 else
  (impl_views a_b).bind fun v2 =>
  (impl_least v2).bind fun v3 =>
  some v3

def impl_countDifferent_L1 (a_list : List GBlock) (k1 : Nat) (s1 : List Str) : Option (Res (List Str) Empty) :=
 (impl_TextOf (gx a_list k1)).bind fun v1 =>
 some (.next (putS s1 v1))

def impl_countDifferent (a_list : List GBlock) : Option Int :=
 gd (a_list.length ≤ 4611686018427387904) <|
 (lpO (impl_countDifferent_L1 a_list) a_list.length ([] : List Str)).bind fun e1 =>
 some ((e1.length : Nat) : Int)

def impl_FreeColorways_L1 (a_b : GBlock) (k1 : Nat) (s1 : List GBlock) : Option (Res (List GBlock) Empty) :=
 (impl_ColorwayAt a_b ((k1 : Nat) : Int)).bind fun v4 =>
 (impl_LeastForm v4.1).bind fun v5 =>
 gd (s1.length + 1 ≤ 1099511627776) <|
 some (.next (s1 ++ [v5]))

def impl_FreeColorways (a_b : GBlock) : Option Int :=
 (
  (impl_BlockOk a_b).bind fun v1 =>
  bif (!v1) then
   some true
  else
   (impl_ColorsOf a_b).bind fun v2 =>
   some (decide (((v2.length : Nat) : Int) > 3))).bind fun j1 =>
 bif j1 then
  some 0
 else
  (impl_ColorwayCount a_b).bind fun v3 =>
  gd ((v3).toNat ≤ 4611686018427387904) <|
  (lpO (impl_FreeColorways_L1 a_b) ((v3).toNat) ([] : List GBlock)).bind fun e1 =>
  (impl_countDifferent e1).bind fun v6 =>
  some v6

def spec_ColorSymmetries_L1 (a_b : GBlock) (k1 : Nat) (s1 : List Int) : Option (Res (List Int) Empty) :=
 (spec_BlockOk a_b).bind fun v1 =>
 bif v1 then
  (spec_SeenFrom a_b ((k1 : Nat) : Int)).bind fun v2 =>
  (spec_l07Plain v2).bind fun v3 =>
  (spec_l07Plain a_b).bind fun v4 =>
  (spec_SameBlock v3 v4).bind fun v5 =>
  (
   bif v5 then
    gd (s1.length + 1 ≤ 1099511627776) <|
    some (s1 ++ [((k1 : Nat) : Int)])
   else
    some s1).bind fun j1 =>
  some (.next j1)
 else
  some (.brk s1)

def spec_ColorSymmetries (a_b : GBlock) : Option (List Int) :=
 (lpO (spec_ColorSymmetries_L1 a_b) 8 ([] : List Int)).bind fun e1 =>
 some e1

def laws_FnColorways_L1 (v2 : GBlock) (s1 : Int × Int) : Option (Res (Int × Int) Empty) :=
 (spec_ColorsOf v2).bind fun v4 =>
 bif (decide (s1.2 < ((v4.length : Nat) : Int))) then
  some (.next ((wr (s1.1 * (wr (6 - s1.2)))), (wr (s1.2 + 1))))
 else
  some (.brk (s1.1, s1.2))

def laws_FnColorways (a_code : List UInt8) : Option Bool :=
 (laws_big a_code).bind fun v1 =>
 bif v1 then
  some true
 else
  (spec_DrawBlock a_code).bind fun v2 =>
  (impl_ColorwayCount v2).bind fun v3 =>
  (wlO (laws_FnColorways_L1 v2) 18446744073709551616 (1, 0)).bind fun e1 =>
  bif (v3 != e1.1) then
   some false
  else
   (laws_at a_code 0).bind fun v5 =>
   (laws_at a_code 1).bind fun v6 =>
   gd (v3 ≠ 0) <|
   (laws_at a_code 2).bind fun v7 =>
   (laws_at a_code 3).bind fun v8 =>
   (impl_ColorwayAt v2 ((wr (v5 + (wr (256 * v6)))).tmod v3)).bind fun v9 =>
   (impl_ColorwayAt v2 ((wr (v7 + (wr (256 * v8)))).tmod v3)).bind fun v10 =>
   (impl_ColorwayAt v2 v3).bind fun v11 =>
   (
    bif (!v9.2) then
     some true
    else
     bif (!v10.2) then
      some true
     else
      bif v11.2 then
       some true
      else
       (impl_SameBlock v9.1 v10.1).bind fun v12 =>
       bif (!(v12 == (((wr (v5 + (wr (256 * v6)))).tmod v3) == ((wr (v7 + (wr (256 * v8)))).tmod v3)))) then
        some true
       else
        (impl_IsColorway v2 v9.1).bind fun v13 =>
        bif (!v13) then
         some true
        else
         (impl_IsColorway v9.1 v10.1).bind fun v14 =>
         bif (!v14) then
          some true
         else
          (spec_ArePatternsSame v2 v9.1).bind fun v15 =>
          some (!v15)).bind fun j1 =>
   bif j1 then
    some false
   else
    (spec_DrawFreeColorways a_code).bind fun v16 =>
    (impl_FreeColorways v16).bind fun v17 =>
    (
     (spec_BlockOk v16).bind fun v18 =>
     bif (!v18) then
      some true
     else
      (spec_ColorsOf v16).bind fun v19 =>
      some (decide (((v19.length : Nat) : Int) > 3))).bind fun j2 =>
    bif j2 then
     some (v17 == 0)
    else
     (impl_ColorwayCount v16).bind fun v20 =>
     (spec_ColorSymmetries v16).bind fun v21 =>
     (
      bif (decide (v17 ≥ 1)) then
       bif (decide (v17 ≤ v20)) then
        bif (decide ((wr (v17 * ((v21.length : Nat) : Int))) ≥ v20)) then
         (impl_IsColorway v16 v16).bind fun v22 =>
         some v22
        else
         some false
       else
        some false
      else
       some false).bind fun j3 =>
     some j3

end Go.Proofs.YtkahnmhkfmjomabDoor
