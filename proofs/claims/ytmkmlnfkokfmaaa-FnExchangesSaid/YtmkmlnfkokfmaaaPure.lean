/-
  What the functions compute, as Lean functions.
-/
import Derived.Test.YtmkmlnfkokfmaaaTypes
namespace Go.Proofs.Ytmkmlnfkokfmaaa
open Go Go.RowKit

def laws_big (a_code : List UInt8) : Option Bool :=
  some (decide (((a_code.length : Nat) : Int) > 1048576))

def spec_l01New_L1 (a_code : List UInt8) (k1 : Nat) (s1 : Int) : Option (Res Int Empty) :=
  bif (decide (((k1 : Nat) : Int) < 4000)) then
    some (.next (andI (wr ((wr ((wr (s1 * 131)) + (((gx a_code k1)).toNat : Int))) + 7)) 1073741823))
  else
    some (.brk s1)

def spec_l01New (a_code : List UInt8) : Option (Int × Int) :=
  gd (a_code.length ≤ 4611686018427387904) <|
  (lpO (spec_l01New_L1 a_code) a_code.length (wr (33041 + ((a_code.length : Nat) : Int)))).bind fun e1 =>
  some (0, e1)

def spec_l01Byte (a_c0 : List UInt8) (a_c1 : Int) (a_c2 : Int) : Option (Int × Int × Int) :=
  (
    bif (decide (a_c1 < ((a_c0.length : Nat) : Int))) then
      gd (0 ≤ a_c1 ∧ a_c1 < ((a_c0.length : Nat) : Int)) <|
      some ((andI (wr ((andI (xorI (shrI (wr ((wr (a_c2 * 6364136223846793005)) + 1442695040888963407)) 33) (shrI (wr ((wr (a_c2 * 6364136223846793005)) + 1442695040888963407)) 45)) 255) + (((gx a_c0 ((a_c1).toNat))).toNat : Int))) 255), (wr (a_c1 + 1)))
    else
      some ((andI (xorI (shrI (wr ((wr (a_c2 * 6364136223846793005)) + 1442695040888963407)) 33) (shrI (wr ((wr (a_c2 * 6364136223846793005)) + 1442695040888963407)) 45)) 255), a_c1)).bind fun j1 =>
  some (j1.1, j1.2, (wr ((wr (a_c2 * 6364136223846793005)) + 1442695040888963407)))

def spec_l01Below (a_c0 : List UInt8) (a_c1 : Int) (a_c2 : Int) (a_n : Int) : Option (Int × Int × Int) :=
  bif (decide (a_n ≤ 0)) then
    some (0, a_c1, a_c2)
  else
    bif (decide (a_n ≤ 256)) then
      (spec_l01Byte a_c0 a_c1 a_c2).bind fun v1 =>
      gd (a_n ≠ 0) <|
      some ((v1.1.tmod a_n), v1.2.1, v1.2.2)
    else
      (spec_l01Byte a_c0 a_c1 a_c2).bind fun v2 =>
      (spec_l01Byte a_c0 v2.2.1 v2.2.2).bind fun v3 =>
      (spec_l01Byte a_c0 v3.2.1 v3.2.2).bind fun v4 =>
      (spec_l01Byte a_c0 v4.2.1 v4.2.2).bind fun v5 =>
      gd (a_n ≠ 0) <|
      some (((wr ((wr ((wr ((wr (v2.1 * 16777216)) + (wr (v3.1 * 65536)))) + (wr (v4.1 * 256)))) + v5.1)).tmod a_n), v5.2.1, v5.2.2)

def spec_l01In (a_x : Int) (a_least : Int) (a_most : Int) : Option Bool :=
  some ((decide (a_x ≥ a_least)) && (decide (a_x ≤ a_most)))

def spec_WholeCell (a_a : Int) : Option GCell :=
  (spec_l01In a_a 0 5).bind fun v1 =>
  bif (!v1) then
    some (GCell.mk 0 0 0)
  else
    some (GCell.mk 0 a_a a_a)

def spec_StarBlock  : Option GBlock :=
  (spec_WholeCell 1).bind fun v1 =>
  some (GBlock.mk 3 ([(GCell.mk 1 0 1), v1, (GCell.mk 2 1 0), v1, v1, v1, (GCell.mk 2 0 1), v1, (GCell.mk 1 1 0)] : List GCell))

def spec_PlainBlock_L1 (a_a : Int) (_ : Nat) (s1 : List GCell) : Option (Res (List GCell) Empty) :=
  (spec_WholeCell a_a).bind fun v3 =>
  gd (s1.length + 1 ≤ 1099511627776) <|
  some (.next (s1 ++ [v3]))

def spec_PlainBlock (a_size : Int) (a_a : Int) : Option (GBlock × Bool) :=
  (
    (spec_l01In a_size 1 4).bind fun v1 =>
    bif (!v1) then
      some true
    else
      (spec_l01In a_a 0 5).bind fun v2 =>
      some (!v2)).bind fun j1 =>
  bif j1 then
    some ((GBlock.mk 0 ([] : List GCell)), false)
  else
    gd (((wr (a_size * a_size))).toNat ≤ 4611686018427387904) <|
    (lpO (spec_PlainBlock_L1 a_a) (((wr (a_size * a_size))).toNat) ([] : List GCell)).bind fun e1 =>
    some ((GBlock.mk a_size e1), true)

def spec_CellOk (a_c : GCell) : Option Bool :=
  (
    (spec_l01In a_c.Split 0 2).bind fun v1 =>
    bif (!v1) then
      some true
    else
      (spec_l01In a_c.A 0 5).bind fun v2 =>
      bif (!v2) then
        some true
      else
        (spec_l01In a_c.B 0 5).bind fun v3 =>
        some (!v3)).bind fun j1 =>
  bif j1 then
    some false
  else
    some ((a_c.Split == 0) == (a_c.A == a_c.B))

def spec_SplitCell (a_split : Int) (a_a : Int) (a_b : Int) : Option GCell :=
  bif (a_a == a_b) then
    (spec_WholeCell a_a).bind fun v1 =>
    some v1
  else
    (spec_CellOk (GCell.mk a_split a_a a_b)).bind fun v2 =>
    bif (!v2) then
      some (GCell.mk 0 0 0)
    else
      some (GCell.mk a_split a_a a_b)

def spec_l02Cell (a_c0 : List UInt8) (a_c1 : Int) (a_c2 : Int) : Option (GCell × Int × Int) :=
  (spec_l01Below a_c0 a_c1 a_c2 3).bind fun v1 =>
  (spec_l01Below a_c0 v1.2.1 v1.2.2 3).bind fun v2 =>
  (spec_l01Below a_c0 v2.2.1 v2.2.2 3).bind fun v3 =>
  (spec_SplitCell v1.1 v2.1 v3.1).bind fun v4 =>
  some (v4, v3.2.1, v3.2.2)

def spec_l03Block_L1 (a_c0 : List UInt8) (_ : Nat) (s1 : (List GCell) × Int × Int) : Option (Res ((List GCell) × Int × Int) Empty) :=
  (spec_l02Cell a_c0 s1.2.1 s1.2.2).bind fun v7 =>
  gd (s1.1.length + 1 ≤ 1099511627776) <|
  some (.next ((s1.1 ++ [v7.1]), v7.2.1, v7.2.2))

def spec_l03Block (a_c0 : List UInt8) (a_c1 : Int) (a_c2 : Int) : Option (GBlock × Int × Int) :=
  (spec_l01Below a_c0 a_c1 a_c2 6).bind fun v1 =>
  bif (v1.1 == 0) then
    spec_StarBlock.bind fun v2 =>
    some (v2, v1.2.1, v1.2.2)
  else
    bif (v1.1 == 1) then
      (spec_l01Below a_c0 v1.2.1 v1.2.2 4).bind fun v3 =>
      (spec_l01Below a_c0 v3.2.1 v3.2.2 3).bind fun v4 =>
      (spec_PlainBlock (wr (1 + v3.1)) v4.1).bind fun v5 =>
      some (v5.1, v4.2.1, v4.2.2)
    else
      (spec_l01Below a_c0 v1.2.1 v1.2.2 4).bind fun v6 =>
      gd (((wr ((wr (1 + v6.1)) * (wr (1 + v6.1))))).toNat ≤ 4611686018427387904) <|
      (lpO (spec_l03Block_L1 a_c0) (((wr ((wr (1 + v6.1)) * (wr (1 + v6.1))))).toNat) (([] : List GCell), v6.2.1, v6.2.2)).bind fun e1 =>
      some ((GBlock.mk (wr (1 + v6.1)) e1.1), e1.2.1, e1.2.2)

def spec_l01PickInt (a_c0 : List UInt8) (a_c1 : Int) (a_c2 : Int) (a_list : List Int) : Option (Int × Int × Int) :=
  (spec_l01Below a_c0 a_c1 a_c2 ((a_list.length : Nat) : Int)).bind fun v1 =>
  gd (0 ≤ v1.1 ∧ v1.1 < ((a_list.length : Nat) : Int)) <|
  some ((gx a_list ((v1.1).toNat)), v1.2.1, v1.2.2)

def spec_l02Any (a_c0 : List UInt8) (a_c1 : Int) (a_c2 : Int) : Option (GCell × Int × Int) :=
  (spec_l02Cell a_c0 a_c1 a_c2).bind fun v1 =>
  (spec_l01Below a_c0 v1.2.1 v1.2.2 12).bind fun v2 =>
  (
    bif (v2.1 == 0) then
      (spec_l01PickInt a_c0 v2.2.1 v2.2.2 ([(-1), 0, 2, 3] : List Int)).bind fun v3 =>
      some ((GCell.mk v3.1 v1.1.A v1.1.B), (Gl01Cur.mk a_c0 v3.2.1 v3.2.2))
    else
      bif (v2.1 == 1) then
        (spec_l01PickInt a_c0 v2.2.1 v2.2.2 ([(-1), 0, 5, 6] : List Int)).bind fun v4 =>
        some ((GCell.mk v1.1.Split v4.1 v1.1.B), (Gl01Cur.mk a_c0 v4.2.1 v4.2.2))
      else
        bif (v2.1 == 2) then
          (spec_l01PickInt a_c0 v2.2.1 v2.2.2 ([(-1), 0, 5, 6] : List Int)).bind fun v5 =>
          some ((GCell.mk v1.1.Split v1.1.A v5.1), (Gl01Cur.mk a_c0 v5.2.1 v5.2.2))
        else
          some (v1.1, (Gl01Cur.mk a_c0 v2.2.1 v2.2.2))).bind fun j1 =>
  some ((j1.1), (j1.2).i, (j1.2).h)

def spec_l03Any (a_c0 : List UInt8) (a_c1 : Int) (a_c2 : Int) : Option (GBlock × Int × Int) :=
  (spec_l03Block a_c0 a_c1 a_c2).bind fun v1 =>
  (spec_l01Below a_c0 v1.2.1 v1.2.2 12).bind fun v2 =>
  (
    bif (v2.1 == 0) then
      (spec_l01PickInt a_c0 v2.2.1 v2.2.2 ([(-1), 0, 2, 5] : List Int)).bind fun v3 =>
      some ((GBlock.mk v3.1 v1.1.Cells), (Gl01Cur.mk a_c0 v3.2.1 v3.2.2))
    else
      bif (v2.1 == 1) then
        (spec_l01Below a_c0 v2.2.1 v2.2.2 ((v1.1.Cells.length : Nat) : Int)).bind fun v4 =>
        (spec_l02Any a_c0 v4.2.1 v4.2.2).bind fun v5 =>
        gd (0 ≤ v4.1 ∧ v4.1 < ((v1.1.Cells.length : Nat) : Int)) <|
        some ((GBlock.mk v1.1.Size (v1.1.Cells.set ((v4.1).toNat) v5.1)), (Gl01Cur.mk a_c0 v5.2.1 v5.2.2))
      else
        bif (v2.1 == 2) then
          gd (1 ≤ v1.1.Cells.length ∧ v1.1.Cells.length ≤ v1.1.Cells.length) <|
          some ((GBlock.mk v1.1.Size ((v1.1.Cells.drop 1).take (v1.1.Cells.length - 1))), (Gl01Cur.mk a_c0 v2.2.1 v2.2.2))
        else
          some (v1.1, (Gl01Cur.mk a_c0 v2.2.1 v2.2.2))).bind fun j1 =>
  some ((j1.1), (j1.2).i, (j1.2).h)

def spec_l06Same_L1 (k1 : Nat) (s1 : List Int) : Option (Res (List Int) Empty) :=
  gd (s1.length + 1 ≤ 1099511627776) <|
  some (.next (s1 ++ [((k1 : Nat) : Int)]))

def spec_l06Same  : Option (List Int) :=
  (lpO spec_l06Same_L1 6 ([] : List Int)).bind fun e1 =>
  some e1

def spec_l06List_L1 (a_c0 : List UInt8) (s1 : (List Int) × Int × Int × Int) : Option (Res ((List Int) × Int × Int × Int) Empty) :=
  bif (decide (s1.2.1 > 0)) then
    (spec_l01Below a_c0 s1.2.2.1 s1.2.2.2 6).bind fun v3 =>
    (spec_l01Below a_c0 v3.2.1 v3.2.2 6).bind fun v4 =>
    gd (0 ≤ v3.1 ∧ v3.1 < ((s1.1.length : Nat) : Int)) <|
    gd (0 ≤ v4.1 ∧ v4.1 < ((s1.1.length : Nat) : Int)) <|
    gd (0 ≤ v4.1 ∧ v4.1 < (((s1.1.set ((v3.1).toNat) (gx s1.1 ((v4.1).toNat))).length : Nat) : Int)) <|
    some (.next (((s1.1.set ((v3.1).toNat) (gx s1.1 ((v4.1).toNat))).set ((v4.1).toNat) (gx s1.1 ((v3.1).toNat))), (wr (s1.2.1 - 1)), v4.2.1, v4.2.2))
  else
    some (.brk (s1.1, s1.2.1, s1.2.2.1, s1.2.2.2))

def spec_l06List (a_c0 : List UInt8) (a_c1 : Int) (a_c2 : Int) : Option ((List Int) × Int × Int) :=
  spec_l06Same.bind fun v1 =>
  (spec_l01Below a_c0 a_c1 a_c2 6).bind fun v2 =>
  (wlO (spec_l06List_L1 a_c0) 18446744073709551616 (v1, v2.1, v2.2.1, v2.2.2)).bind fun e1 =>
  (spec_l01Below a_c0 e1.2.2.1 e1.2.2.2 10).bind fun v5 =>
  (
    bif (v5.1 == 0) then
      (spec_l01Below a_c0 v5.2.1 v5.2.2 6).bind fun v6 =>
      (spec_l01PickInt a_c0 v6.2.1 v6.2.2 ([(-1), 0, 5, 6] : List Int)).bind fun v7 =>
      gd (0 ≤ v6.1 ∧ v6.1 < ((e1.1.length : Nat) : Int)) <|
      some ((e1.1.set ((v6.1).toNat) v7.1), (Gl01Cur.mk a_c0 v7.2.1 v7.2.2))
    else
      bif (v5.1 == 1) then
        gd (1 ≤ e1.1.length ∧ e1.1.length ≤ e1.1.length) <|
        some (((e1.1.drop 1).take (e1.1.length - 1)), (Gl01Cur.mk a_c0 v5.2.1 v5.2.2))
      else
        some (e1.1, (Gl01Cur.mk a_c0 v5.2.1 v5.2.2))).bind fun j1 =>
  some (j1.1, (j1.2).i, (j1.2).h)

def spec_DrawExchangeBlock (a_code : List UInt8) : Option (GBlock × (List Int)) :=
  (spec_l01New a_code).bind fun v1 =>
  (spec_l03Any a_code v1.1 v1.2).bind fun v2 =>
  (spec_l06List a_code v2.2.1 v2.2.2).bind fun v3 =>
  some (v2.1, v3.1)

def impl_within (a_n : Int) (a_a : Int) (a_b : Int) : Option Bool :=
  some ((decide (a_n ≥ a_a)) && (decide (a_n ≤ a_b)))

def impl_isColor (a_a : Int) : Option Bool :=
  (impl_within a_a 0 5).bind fun v1 =>
  some v1

def impl_CellOk (a_c : GCell) : Option Bool :=
  (
    (impl_within a_c.Split 0 2).bind fun v1 =>
    bif v1 then
      (impl_isColor a_c.A).bind fun v2 =>
      bif v2 then
        (impl_isColor a_c.B).bind fun v3 =>
        bif v3 then
          some ((a_c.Split == 0) == (a_c.A == a_c.B))
        else
          some false
      else
        some false
    else
      some false).bind fun j1 =>
  some j1

def impl_BlockOk_L1 (a_b : GBlock) (k1 : Nat) (_ : Unit) : Option (Res Unit Bool) :=
  (impl_CellOk (gx a_b.Cells k1)).bind fun v2 =>
  bif (!v2) then
    some (.ret false)
  else
    some (.next ())

def impl_BlockOk (a_b : GBlock) : Option Bool :=
  (
    (impl_within a_b.Size 1 4).bind fun v1 =>
    bif (!v1) then
      some true
    else
      some (((a_b.Cells.length : Nat) : Int) != (wr (a_b.Size * a_b.Size)))).bind fun j1 =>
  bif j1 then
    some false
  else
    gd (a_b.Cells.length ≤ 4611686018427387904) <|
    sq (forO (impl_BlockOk_L1 a_b) a_b.Cells.length 0 ()) fun _ =>
    some true

def impl_indexOf_L1 (a_list : List Int) (a_n : Int) (k1 : Nat) (_ : Unit) : Option (Res Unit Int) :=
  bif ((gx a_list k1) == a_n) then
    some (.ret ((k1 : Nat) : Int))
  else
    some (.next ())

def impl_indexOf (a_list : List Int) (a_n : Int) : Option Int :=
  gd (a_list.length ≤ 4611686018427387904) <|
  sq (forO (impl_indexOf_L1 a_list a_n) a_list.length 0 ()) fun _ =>
  some (-1)

def impl_put_L1 (a_list : List Int) (a_n : Int) (k1 : Nat) (s1 : (List Int) × Bool) : Option (Res ((List Int) × Bool) Empty) :=
  (
    bif ((!s1.2) && (decide (a_n ≤ (gx a_list k1)))) then
      gd (s1.1.length + 1 ≤ 1099511627776) <|
      some ((s1.1 ++ [a_n]), true)
    else
      some (s1.1, s1.2)).bind fun j2 =>
  gd (j2.1.length + 1 ≤ 1099511627776) <|
  some (.next ((j2.1 ++ [(gx a_list k1)]), j2.2))

def impl_put (a_list : List Int) (a_n : Int) : Option (List Int) :=
  gd (a_list.length ≤ 4611686018427387904) <|
  (lpO (impl_put_L1 a_list a_n) a_list.length (([] : List Int), false)).bind fun e1 =>
  (
    bif (!e1.2) then
      gd (e1.1.length + 1 ≤ 1099511627776) <|
      some (e1.1 ++ [a_n])
    else
      some e1.1).bind fun j3 =>
  some j3

def impl_sorted_L1 (a_list : List Int) (k1 : Nat) (s1 : List Int) : Option (Res (List Int) Empty) :=
  (impl_put s1 (gx a_list k1)).bind fun v1 =>
  some (.next v1)

def impl_sorted (a_list : List Int) : Option (List Int) :=
  gd (a_list.length ≤ 4611686018427387904) <|
  (lpO (impl_sorted_L1 a_list) a_list.length ([] : List Int)).bind fun e1 =>
  some e1

def impl_allWithin_L1 (a_list : List Int) (a_a : Int) (a_b : Int) (k1 : Nat) (_ : Unit) : Option (Res Unit Bool) :=
  (impl_within (gx a_list k1) a_a a_b).bind fun v1 =>
  bif (!v1) then
    some (.ret false)
  else
    some (.next ())

def impl_allWithin (a_list : List Int) (a_a : Int) (a_b : Int) : Option Bool :=
  gd (a_list.length ≤ 4611686018427387904) <|
  sq (forO (impl_allWithin_L1 a_list a_a a_b) a_list.length 0 ()) fun _ =>
  some true

def impl_isStrict_L1 (a_list : List Int) (k1 : Nat) (_ : Unit) : Option (Res Unit Bool) :=
  (
    bif (decide (((k1 : Nat) : Int) > 0)) then
      gd (0 ≤ (wr (((k1 : Nat) : Int) - 1)) ∧ (wr (((k1 : Nat) : Int) - 1)) < ((a_list.length : Nat) : Int)) <|
      some (decide ((gx a_list k1) ≤ (gx a_list (((wr (((k1 : Nat) : Int) - 1))).toNat))))
    else
      some false).bind fun j1 =>
  bif j1 then
    some (.ret false)
  else
    some (.next ())

def impl_isStrict (a_list : List Int) (a_a : Int) (a_b : Int) : Option Bool :=
  gd (a_list.length ≤ 4611686018427387904) <|
  sq (forO (impl_isStrict_L1 a_list) a_list.length 0 ()) fun _ =>
  (impl_allWithin a_list a_a a_b).bind fun v1 =>
  some v1

def impl_IsExchange (a_l : List Int) : Option Bool :=
  (
    bif (((a_l.length : Nat) : Int) == 6) then
      (impl_sorted a_l).bind fun v1 =>
      (impl_isStrict v1 0 5).bind fun v2 =>
      some v2
    else
      some false).bind fun j1 =>
  some j1

def impl_UndoList_L1 (a_l : List Int) (k1 : Nat) (s1 : List Int) : Option (Res (List Int) Empty) :=
  gd (0 ≤ (gx a_l k1) ∧ (gx a_l k1) < ((s1.length : Nat) : Int)) <|
  some (.next (s1.set (((gx a_l k1)).toNat) ((k1 : Nat) : Int)))

def impl_UndoList (a_l : List Int) : Option (List Int) :=
  (impl_IsExchange a_l).bind fun v1 =>
  bif (!v1) then
    some ([] : List Int)
  else
    gd (a_l.length ≤ 4611686018427387904) <|
    (lpO (impl_UndoList_L1 a_l) a_l.length (List.replicate 6 (0 : Int))).bind fun e1 =>
    some e1

def impl_FirstUse_L2 (a_b : GBlock) (k1 : Nat) (k2 : Nat) (s2 : List Int) : Option (Res (List Int) Empty) :=
  (impl_indexOf s2 (gx ([(gx a_b.Cells k1).A, (gx a_b.Cells k1).B] : List Int) k2)).bind fun v2 =>
  (
    bif (decide (v2 < 0)) then
      gd (s2.length + 1 ≤ 1099511627776) <|
      some (s2 ++ [(gx ([(gx a_b.Cells k1).A, (gx a_b.Cells k1).B] : List Int) k2)])
    else
      some s2).bind fun j1 =>
  some (.next j1)

def impl_FirstUse_L1 (a_b : GBlock) (k1 : Nat) (s1 : List Int) : Option (Res (List Int) Empty) :=
  gd (([(gx a_b.Cells k1).A, (gx a_b.Cells k1).B] : List Int).length ≤ 4611686018427387904) <|
  (lpO (impl_FirstUse_L2 a_b k1) (([(gx a_b.Cells k1).A, (gx a_b.Cells k1).B] : List Int).length) s1).bind fun e2 =>
  some (.next e2)

def impl_FirstUse_L3 (k3 : Nat) (s3 : List Int) : Option (Res (List Int) Empty) :=
  (impl_indexOf s3 ((k3 : Nat) : Int)).bind fun v3 =>
  (
    bif (decide (v3 < 0)) then
      gd (s3.length + 1 ≤ 1099511627776) <|
      some (s3 ++ [((k3 : Nat) : Int)])
    else
      some s3).bind fun j2 =>
  some (.next j2)

def impl_FirstUse (a_b : GBlock) : Option (List Int) :=
  (impl_BlockOk a_b).bind fun v1 =>
  bif (!v1) then
    some ([] : List Int)
  else
    gd (a_b.Cells.length ≤ 4611686018427387904) <|
    (lpO (impl_FirstUse_L1 a_b) a_b.Cells.length ([] : List Int)).bind fun e1 =>
    (lpO impl_FirstUse_L3 6 e1).bind fun e3 =>
    (impl_UndoList e3).bind fun v4 =>
    some v4

def spec_BlockOk_L1 (a_b : GBlock) (k1 : Nat) (_ : Unit) : Option (Res Unit Bool) :=
  (spec_CellOk (gx a_b.Cells k1)).bind fun v2 =>
  bif (!v2) then
    some (.ret false)
  else
    some (.next ())

def spec_BlockOk (a_b : GBlock) : Option Bool :=
  (
    (spec_l01In a_b.Size 1 4).bind fun v1 =>
    bif (!v1) then
      some true
    else
      some (((a_b.Cells.length : Nat) : Int) != (wr (a_b.Size * a_b.Size)))).bind fun j1 =>
  bif j1 then
    some false
  else
    gd (a_b.Cells.length ≤ 4611686018427387904) <|
    sq (forO (spec_BlockOk_L1 a_b) a_b.Cells.length 0 ()) fun _ =>
    some true

def impl_ListOk (a_l : List Int) : Option Bool :=
  (
    bif (((a_l.length : Nat) : Int) == 6) then
      (impl_allWithin a_l 0 5).bind fun v1 =>
      some v1
    else
      some false).bind fun j1 =>
  some j1

def impl_Block_copied (a_b : GBlock) : Option GBlock :=
  gd (([] : List GCell).length + a_b.Cells.length ≤ 1099511627776) <|
  some (GBlock.mk a_b.Size (([] : List GCell) ++ a_b.Cells))

def impl_Block_isPlace (a_b : GBlock) (a_x : Int) (a_y : Int) : Option Bool :=
  (
    (impl_BlockOk a_b).bind fun v1 =>
    bif v1 then
      (impl_within a_x 0 (wr (a_b.Size - 1))).bind fun v2 =>
      bif v2 then
        (impl_within a_y 0 (wr (a_b.Size - 1))).bind fun v3 =>
        some v3
      else
        some false
    else
      some false).bind fun j1 =>
  some j1

def impl_CellAt (a_b : GBlock) (a_x : Int) (a_y : Int) : Option GCell :=
  (impl_Block_isPlace a_b a_x a_y).bind fun v1 =>
  bif (!v1) then
    some (GCell.mk 0 0 0)
  else
    gd (0 ≤ (wr ((wr (a_y * a_b.Size)) + a_x)) ∧ (wr ((wr (a_y * a_b.Size)) + a_x)) < ((a_b.Cells.length : Nat) : Int)) <|
    some (gx a_b.Cells (((wr ((wr (a_y * a_b.Size)) + a_x))).toNat))

def impl_WholeCell (a_a : Int) : Option GCell :=
  (impl_isColor a_a).bind fun v1 =>
  bif (!v1) then
    some (GCell.mk 0 0 0)
  else
    some (GCell.mk 0 a_a a_a)

def impl_SplitCell (a_split : Int) (a_a : Int) (a_b : Int) : Option GCell :=
  bif (a_a == a_b) then
    (impl_WholeCell a_a).bind fun v1 =>
    some v1
  else
    (impl_CellOk (GCell.mk a_split a_a a_b)).bind fun v2 =>
    bif (!v2) then
      some (GCell.mk 0 0 0)
    else
      some (GCell.mk a_split a_a a_b)

def impl_ExchangeCell (a_c : GCell) (a_l : List Int) : Option GCell :=
  (
    (impl_CellOk a_c).bind fun v1 =>
    bif (!v1) then
      some true
    else
      (impl_ListOk a_l).bind fun v2 =>
      some (!v2)).bind fun j1 =>
  bif j1 then
    some (GCell.mk 0 0 0)
  else
    gd (0 ≤ a_c.A ∧ a_c.A < ((a_l.length : Nat) : Int)) <|
    gd (0 ≤ a_c.B ∧ a_c.B < ((a_l.length : Nat) : Int)) <|
    (impl_SplitCell a_c.Split (gx a_l ((a_c.A).toNat)) (gx a_l ((a_c.B).toNat))).bind fun v3 =>
    some v3

def impl_ExchangeBlock_c1 (a_x : Int) (a_y : Int) (c_p2 : GBlock) (c_p3 : List Int) : Option GCell :=
  (impl_CellAt c_p2 a_x a_y).bind fun v1 =>
  (impl_ExchangeCell v1 c_p3).bind fun v2 =>
  some v2

def impl_made_L2 (a_one : Int → Int → Option GCell) (k1 : Nat) (k2 : Nat) (s2 : List GCell) : Option (Res (List GCell) Empty) :=
  (a_one ((k2 : Nat) : Int) ((k1 : Nat) : Int)).bind fun v1 =>
  gd (s2.length + 1 ≤ 1099511627776) <|
  some (.next (s2 ++ [v1]))

def impl_made_L1 (a_size : Int) (a_one : Int → Int → Option GCell) (k1 : Nat) (s1 : List GCell) : Option (Res (List GCell) Empty) :=
  (lpO (impl_made_L2 a_one k1) ((a_size).toNat) s1).bind fun e2 =>
  some (.next e2)

def impl_made (a_size : Int) (a_one : Int → Int → Option GCell) : Option GBlock :=
  gd ((a_size).toNat ≤ 4611686018427387904) <|
  (lpO (impl_made_L1 a_size a_one) ((a_size).toNat) ([] : List GCell)).bind fun e1 =>
  some (GBlock.mk a_size e1)

def impl_ExchangeBlock (a_b : GBlock) (a_l : List Int) : Option (GBlock × Bool) :=
  (
    (impl_BlockOk a_b).bind fun v1 =>
    bif (!v1) then
      some true
    else
      (impl_ListOk a_l).bind fun v2 =>
      some (!v2)).bind fun j1 =>
  bif j1 then
    (impl_Block_copied a_b).bind fun v3 =>
    some (v3, false)
  else
    (impl_made a_b.Size (fun z0 z1 => impl_ExchangeBlock_c1 z0 z1 a_b a_l)).bind fun v4 =>
    some (v4, true)

def laws_sameInts_L1 (a_a : List Int) (a_b : List Int) (k1 : Nat) (_ : Unit) : Option (Res Unit Bool) :=
  gd (k1 < a_b.length) <|
  bif ((gx a_a k1) != (gx a_b k1)) then
    some (.ret false)
  else
    some (.next ())

def laws_sameInts (a_a : List Int) (a_b : List Int) : Option Bool :=
  bif (((a_a.length : Nat) : Int) != ((a_b.length : Nat) : Int)) then
    some false
  else
    gd (a_a.length ≤ 4611686018427387904) <|
    sq (forO (laws_sameInts_L1 a_a a_b) a_a.length 0 ()) fun _ =>
    some true

def laws_at (a_code : List UInt8) (a_i : Int) : Option Int :=
  bif (((a_code.length : Nat) : Int) == 0) then
    some 0
  else
    gd (((a_code.length : Nat) : Int) ≠ 0) <|
    gd (0 ≤ ((wr ((wr (a_i * 5)) + 1)).tmod ((a_code.length : Nat) : Int)) ∧ ((wr ((wr (a_i * 5)) + 1)).tmod ((a_code.length : Nat) : Int)) < ((a_code.length : Nat) : Int)) <|
    some (((gx a_code ((((wr ((wr (a_i * 5)) + 1)).tmod ((a_code.length : Nat) : Int))).toNat))).toNat : Int)

def impl_SwapList (a_a : Int) (a_b : Int) : Option (List Int) :=
  (
    (impl_isColor a_a).bind fun v1 =>
    bif (!v1) then
      some true
    else
      (impl_isColor a_b).bind fun v2 =>
      some (!v2)).bind fun j1 =>
  bif j1 then
    some ([] : List Int)
  else
    gd (0 ≤ a_a ∧ a_a < ((([0, 1, 2, 3, 4, 5] : List Int).length : Nat) : Int)) <|
    gd (0 ≤ a_b ∧ a_b < (((([0, 1, 2, 3, 4, 5] : List Int).set ((a_a).toNat) a_b).length : Nat) : Int)) <|
    some ((([0, 1, 2, 3, 4, 5] : List Int).set ((a_a).toNat) a_b).set ((a_b).toNat) a_a)

def impl_SameBlock_L1 (a_b : GBlock) (a_d : GBlock) (k1 : Nat) (_ : Unit) : Option (Res Unit Bool) :=
  gd (k1 < a_d.Cells.length) <|
  bif (!(beqs [(gx a_b.Cells k1).Split, (gx a_b.Cells k1).A, (gx a_b.Cells k1).B] [(gx a_d.Cells k1).Split, (gx a_d.Cells k1).A, (gx a_d.Cells k1).B])) then
    some (.ret false)
  else
    some (.next ())

def impl_SameBlock (a_b : GBlock) (a_d : GBlock) : Option Bool :=
  bif ((a_b.Size != a_d.Size) || (((a_b.Cells.length : Nat) : Int) != ((a_d.Cells.length : Nat) : Int))) then
    some false
  else
    gd (a_b.Cells.length ≤ 4611686018427387904) <|
    sq (forO (impl_SameBlock_L1 a_b a_d) a_b.Cells.length 0 ()) fun _ =>
    some true

def spec_CellArea (a_c : GCell) (a_a : Int) : Option Int :=
  (spec_CellOk a_c).bind fun v1 =>
  bif (!v1) then
    some 0
  else
    some (bif (a_c.B == a_a) then (wr ((bif (a_c.A == a_a) then (wr (0 + 2)) else 0) + 2)) else (bif (a_c.A == a_a) then (wr (0 + 2)) else 0))

def spec_AreaOf_L1 (a_b : GBlock) (a_a : Int) (k1 : Nat) (s1 : Int) : Option (Res Int Empty) :=
  (spec_CellArea (gx a_b.Cells k1) a_a).bind fun v2 =>
  some (.next (wr (s1 + v2)))

def spec_AreaOf (a_b : GBlock) (a_a : Int) : Option Int :=
  (spec_BlockOk a_b).bind fun v1 =>
  bif (!v1) then
    some 0
  else
    gd (a_b.Cells.length ≤ 4611686018427387904) <|
    (lpO (spec_AreaOf_L1 a_b a_a) a_b.Cells.length 0).bind fun e1 =>
    some e1

def spec_ListOk_L1 (a_l : List Int) (k1 : Nat) (_ : Unit) : Option (Res Unit Bool) :=
  (spec_l01In (gx a_l k1) 0 5).bind fun v1 =>
  bif (!v1) then
    some (.ret false)
  else
    some (.next ())

def spec_ListOk (a_l : List Int) : Option Bool :=
  gd (a_l.length ≤ 4611686018427387904) <|
  sq (forO (spec_ListOk_L1 a_l) a_l.length 0 ()) fun _ =>
  some (((a_l.length : Nat) : Int) == 6)

def spec_ExchangeCell (a_c : GCell) (a_l : List Int) : Option GCell :=
  (
    (spec_CellOk a_c).bind fun v1 =>
    bif (!v1) then
      some true
    else
      (spec_ListOk a_l).bind fun v2 =>
      some (!v2)).bind fun j1 =>
  bif j1 then
    some (GCell.mk 0 0 0)
  else
    gd (0 ≤ a_c.A ∧ a_c.A < ((a_l.length : Nat) : Int)) <|
    gd (0 ≤ a_c.B ∧ a_c.B < ((a_l.length : Nat) : Int)) <|
    (spec_SplitCell a_c.Split (gx a_l ((a_c.A).toNat)) (gx a_l ((a_c.B).toNat))).bind fun v3 =>
    some v3

def spec_IsExchange_L2 (a_l : List Int) (k1 : Nat) (k2 : Nat) (_ : Unit) : Option (Res Unit (Res Unit Bool)) :=
  gd (k2 < a_l.length) <|
  bif ((gx a_l k2) == (gx a_l k1)) then
    some (.ret (.ret false))
  else
    some (.next ())

def spec_IsExchange_L1 (a_l : List Int) (k1 : Nat) (_ : Unit) : Option (Res Unit Bool) :=
  gd (k1 ≤ 4611686018427387904) <|
  sq (forO (spec_IsExchange_L2 a_l k1) k1 0 ()) fun _ =>
  some (.next ())

def spec_IsExchange (a_l : List Int) : Option Bool :=
  gd (a_l.length ≤ 4611686018427387904) <|
  sq (forO (spec_IsExchange_L1 a_l) a_l.length 0 ()) fun _ =>
  (spec_ListOk a_l).bind fun v1 =>
  some v1

def spec_FirstUse_L1 (_ : Nat) (s1 : List Int) : Option (Res (List Int) Empty) :=
  gd (s1.length + 1 ≤ 1099511627776) <|
  some (.next (s1 ++ [(-1)]))

def spec_FirstUse_L2 (a_b : GBlock) (k2 : Nat) (s2 : (List Int) × Int) : Option (Res ((List Int) × Int) Empty) :=
  gd (0 ≤ (wr (((k2 : Nat) : Int).tdiv 2)) ∧ (wr (((k2 : Nat) : Int).tdiv 2)) < ((a_b.Cells.length : Nat) : Int)) <|
  gd (0 ≤ (bif ((((k2 : Nat) : Int).tmod 2) == 1) then (gx a_b.Cells (((wr (((k2 : Nat) : Int).tdiv 2))).toNat)).B else (gx a_b.Cells (((wr (((k2 : Nat) : Int).tdiv 2))).toNat)).A) ∧ (bif ((((k2 : Nat) : Int).tmod 2) == 1) then (gx a_b.Cells (((wr (((k2 : Nat) : Int).tdiv 2))).toNat)).B else (gx a_b.Cells (((wr (((k2 : Nat) : Int).tdiv 2))).toNat)).A) < ((s2.1.length : Nat) : Int)) <|
  some (.next ((bif (decide ((gx s2.1 (((bif ((((k2 : Nat) : Int).tmod 2) == 1) then (gx a_b.Cells (((wr (((k2 : Nat) : Int).tdiv 2))).toNat)).B else (gx a_b.Cells (((wr (((k2 : Nat) : Int).tdiv 2))).toNat)).A)).toNat)) < 0)) then (s2.1.set (((bif ((((k2 : Nat) : Int).tmod 2) == 1) then (gx a_b.Cells (((wr (((k2 : Nat) : Int).tdiv 2))).toNat)).B else (gx a_b.Cells (((wr (((k2 : Nat) : Int).tdiv 2))).toNat)).A)).toNat) s2.2) else s2.1), (bif (decide ((gx s2.1 (((bif ((((k2 : Nat) : Int).tmod 2) == 1) then (gx a_b.Cells (((wr (((k2 : Nat) : Int).tdiv 2))).toNat)).B else (gx a_b.Cells (((wr (((k2 : Nat) : Int).tdiv 2))).toNat)).A)).toNat)) < 0)) then (wr (s2.2 + 1)) else s2.2)))

def spec_FirstUse_L3 (k3 : Nat) (s3 : (List Int) × Int) : Option (Res ((List Int) × Int) Empty) :=
  gd (k3 < s3.1.length) <|
  some (.next ((bif (decide ((gx s3.1 k3) < 0)) then (s3.1.set k3 s3.2) else s3.1), (bif (decide ((gx s3.1 k3) < 0)) then (wr (s3.2 + 1)) else s3.2)))

def spec_FirstUse (a_b : GBlock) : Option (List Int) :=
  (spec_BlockOk a_b).bind fun v1 =>
  bif (!v1) then
    some ([] : List Int)
  else
    (lpO spec_FirstUse_L1 6 ([] : List Int)).bind fun e1 =>
    gd (((wr (2 * ((a_b.Cells.length : Nat) : Int)))).toNat ≤ 4611686018427387904) <|
    (lpO (spec_FirstUse_L2 a_b) (((wr (2 * ((a_b.Cells.length : Nat) : Int)))).toNat) (e1, 0)).bind fun e2 =>
    (lpO spec_FirstUse_L3 6 (e2.1, e2.2)).bind fun e3 =>
    some e3.1

def laws_FnExchanges (a_code : List UInt8) : Option Bool :=
  (laws_big a_code).bind fun v1 =>
  bif v1 then
    some true
  else
    (spec_DrawExchangeBlock a_code).bind fun v2 =>
    (impl_FirstUse v2.1).bind fun v3 =>
    (spec_BlockOk v2.1).bind fun v4 =>
    bif (!v4) then
      (impl_ExchangeBlock v2.1 v2.2).bind fun v5 =>
      (
        bif (!v5.2) then
          bif (((v3.length : Nat) : Int) == 0) then
            (impl_IsExchange ([1, 0, 2, 3, 4, 5] : List Int)).bind fun v6 =>
            some v6
          else
            some false
        else
          some false).bind fun j1 =>
      some j1
    else
      (impl_ExchangeBlock v2.1 v3).bind fun v7 =>
      (impl_FirstUse v7.1).bind fun v8 =>
      (
        (impl_IsExchange v3).bind fun v9 =>
        bif (!v9) then
          some true
        else
          bif (!v7.2) then
            some true
          else
            (laws_sameInts v8 ([0, 1, 2, 3, 4, 5] : List Int)).bind fun v10 =>
            some (!v10)).bind fun j2 =>
      bif j2 then
        some false
      else
        (laws_at a_code 0).bind fun v11 =>
        (laws_at a_code 1).bind fun v12 =>
        (impl_SwapList (v11.tmod 6) (v12.tmod 6)).bind fun v13 =>
        (impl_ExchangeBlock v2.1 v13).bind fun v14 =>
        (impl_ExchangeBlock v14.1 v13).bind fun v15 =>
        (
          bif (!v14.2) then
            some true
          else
            bif (!v15.2) then
              some true
            else
              (impl_SameBlock v15.1 v2.1).bind fun v16 =>
              bif (!v16) then
                some true
              else
                (spec_AreaOf v14.1 (v11.tmod 6)).bind fun v17 =>
                (spec_AreaOf v2.1 (v12.tmod 6)).bind fun v18 =>
                some (v17 != v18)).bind fun j3 =>
        bif j3 then
          some false
        else
          gd (0 < v2.1.Cells.length) <|
          (impl_ExchangeCell (gx v2.1.Cells 0) v13).bind fun v19 =>
          (spec_ExchangeCell (gx v2.1.Cells 0) v13).bind fun v20 =>
          bif (!(beqs [v19.Split, v19.A, v19.B] [v20.Split, v20.A, v20.B])) then
            some false
          else
            (spec_IsExchange v2.2).bind fun v21 =>
            bif v21 then
              (impl_UndoList v2.2).bind fun v22 =>
              (impl_ExchangeBlock v2.1 v2.2).bind fun v23 =>
              (impl_ExchangeBlock v23.1 v22).bind fun v24 =>
              (spec_FirstUse v23.1).bind fun v25 =>
              (impl_ExchangeBlock v23.1 v25).bind fun v26 =>
              (
                bif v23.2 then
                  bif v24.2 then
                    bif v26.2 then
                      (impl_SameBlock v24.1 v2.1).bind fun v27 =>
                      bif v27 then
                        (impl_SameBlock v26.1 v7.1).bind fun v28 =>
                        bif v28 then
                          (impl_ListOk v2.2).bind fun v29 =>
                          some v29
                        else
                          some false
                      else
                        some false
                    else
                      some false
                  else
                    some false
                else
                  some false).bind fun j4 =>
              some j4
            else
              (
                (impl_UndoList v2.2).bind fun v30 =>
                bif (((v30.length : Nat) : Int) == 0) then
                  (impl_IsExchange v2.2).bind fun v31 =>
                  some (!v31)
                else
                  some false).bind fun j5 =>
              some j5

end Go.Proofs.Ytmkmlnfkokfmaaa
