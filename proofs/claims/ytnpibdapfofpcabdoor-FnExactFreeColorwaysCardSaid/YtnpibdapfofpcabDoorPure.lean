/-
  What the functions compute, as Lean functions.
-/
import Derived.Test.YtnpibdapfofpcabDoorTypes
namespace Go.Proofs.YtnpibdapfofpcabDoor
open Go Go.RowKit

def laws_szCellS (a_a : List GCell) (a_left : Int) : Option Int :=
  bif (decide ((wr (a_left - ((a_a.length : Nat) : Int))) < 0)) then
    some (-1)
  else
    some (wr (a_left - ((a_a.length : Nat) : Int)))

def laws_szBlock (a_a : GBlock) (a_left : Int) : Option Int :=
  (laws_szCellS a_a.Cells a_left).bind fun v1 =>
  bif (decide (v1 < 0)) then
    some (-1)
  else
    some v1

def laws_toCell (a_a : GCell) : Option GCell :=
  some a_a

def laws_toCellS_L1 (a_a : List GCell) (k1 : Nat) (s1 : List GCell) : Option (Res (List GCell) Empty) :=
  (laws_toCell (gx a_a k1)).bind fun v1 =>
  gd (k1 < s1.length) <|
  some (.next (s1.set k1 v1))

def laws_toCellS (a_a : List GCell) : Option (List GCell) :=
  gd (a_a.length ≤ 1099511627776) <|
  gd (a_a.length ≤ 4611686018427387904) <|
  (lpO (laws_toCellS_L1 a_a) a_a.length (List.replicate a_a.length ((GCell.mk 0 0 0) : GCell))).bind fun e1 =>
  some e1

def laws_toBlock (a_a : GBlock) : Option GBlock :=
  (laws_toCellS a_a.Cells).bind fun v1 =>
  some (GBlock.mk a_a.Size v1)

def spec_l01In (a_x : Int) (a_least : Int) (a_most : Int) : Option Bool :=
  some ((decide (a_x ≥ a_least)) && (decide (a_x ≤ a_most)))

def spec_CellOk (a_c : GCell) : Option Bool :=
  (
    (spec_l01In a_c.Split 0 2).bind fun v1 =>
    bif (!v1) then
      some true
    else
      (spec_l01In a_c.A 0 5).bind fun v2 =>
      bif (!v2) then
        some true
      else
        (spec_l01In a_c.B 0 5).bind fun v3 =>
        some (!v3)).bind fun j1 =>
  bif j1 then
    some false
  else
    some ((a_c.Split == 0) == (a_c.A == a_c.B))

def spec_BlockOk_L1 (a_b : GBlock) (k1 : Nat) (_ : Unit) : Option (Res Unit Bool) :=
  (spec_CellOk (gx a_b.Cells k1)).bind fun v2 =>
  bif (!v2) then
    some (.ret false)
  else
    some (.next ())

def spec_BlockOk (a_b : GBlock) : Option Bool :=
  (
    (spec_l01In a_b.Size 1 4).bind fun v1 =>
    bif (!v1) then
      some true
    else
      some (((a_b.Cells.length : Nat) : Int) != (wr (a_b.Size * a_b.Size)))).bind fun j1 =>
  bif j1 then
    some false
  else
    gd (a_b.Cells.length ≤ 4611686018427387904) <|
    sq (forO (spec_BlockOk_L1 a_b) a_b.Cells.length 0 ()) fun _ =>
    some true

def spec_ColorsOf_L2 (a_b : GBlock) (k1 : Nat) (k2 : Nat) (s2 : Bool) : Option (Res Bool Empty) :=
  some (.next (s2 || (((gx a_b.Cells k2).A == ((k1 : Nat) : Int)) || ((gx a_b.Cells k2).B == ((k1 : Nat) : Int)))))

def spec_ColorsOf_L1 (a_b : GBlock) (k1 : Nat) (s1 : List Int) : Option (Res (List Int) Empty) :=
  gd (a_b.Cells.length ≤ 4611686018427387904) <|
  (lpO (spec_ColorsOf_L2 a_b k1) a_b.Cells.length false).bind fun e2 =>
  (
    bif e2 then
      gd (s1.length + 1 ≤ 1099511627776) <|
      some (s1 ++ [((k1 : Nat) : Int)])
    else
      some s1).bind fun j2 =>
  some (.next j2)

def spec_ColorsOf (a_b : GBlock) : Option (List Int) :=
  (spec_BlockOk a_b).bind fun v1 =>
  bif (!v1) then
    some ([] : List Int)
  else
    (lpO (spec_ColorsOf_L1 a_b) 6 ([] : List Int)).bind fun e1 =>
    some e1

def spec_ColorwayCount_L1 (k1 : Nat) (s1 : Int) : Option (Res Int Empty) :=
  some (.next (wr (s1 * (wr (6 - ((k1 : Nat) : Int))))))

def spec_ColorwayCount (a_b : GBlock) : Option Int :=
  (spec_BlockOk a_b).bind fun v1 =>
  bif (!v1) then
    some 0
  else
    (spec_ColorsOf a_b).bind fun v2 =>
    gd (v2.length ≤ 4611686018427387904) <|
    (lpO spec_ColorwayCount_L1 v2.length 1).bind fun e1 =>
    some e1

def spec_l06Same_L1 (k1 : Nat) (s1 : List Int) : Option (Res (List Int) Empty) :=
  gd (s1.length + 1 ≤ 1099511627776) <|
  some (.next (s1 ++ [((k1 : Nat) : Int)]))

def spec_l06Same  : Option (List Int) :=
  (lpO spec_l06Same_L1 6 ([] : List Int)).bind fun e1 =>
  some e1

def spec_ListOk_L1 (a_l : List Int) (k1 : Nat) (_ : Unit) : Option (Res Unit Bool) :=
  (spec_l01In (gx a_l k1) 0 5).bind fun v1 =>
  bif (!v1) then
    some (.ret false)
  else
    some (.next ())

def spec_ListOk (a_l : List Int) : Option Bool :=
  gd (a_l.length ≤ 4611686018427387904) <|
  sq (forO (spec_ListOk_L1 a_l) a_l.length 0 ()) fun _ =>
  some (((a_l.length : Nat) : Int) == 6)

def spec_l03Copy (a_b : GBlock) : Option GBlock :=
  gd (([] : List GCell).length + a_b.Cells.length ≤ 1099511627776) <|
  some (GBlock.mk a_b.Size (([] : List GCell) ++ a_b.Cells))

def spec_WholeCell (a_a : Int) : Option GCell :=
  (spec_l01In a_a 0 5).bind fun v1 =>
  bif (!v1) then
    some (GCell.mk 0 0 0)
  else
    some (GCell.mk 0 a_a a_a)

def spec_SplitCell (a_split : Int) (a_a : Int) (a_b : Int) : Option GCell :=
  bif (a_a == a_b) then
    (spec_WholeCell a_a).bind fun v1 =>
    some v1
  else
    (spec_CellOk (GCell.mk a_split a_a a_b)).bind fun v2 =>
    bif (!v2) then
      some (GCell.mk 0 0 0)
    else
      some (GCell.mk a_split a_a a_b)

def spec_ExchangeCell (a_c : GCell) (a_l : List Int) : Option GCell :=
  (
    (spec_CellOk a_c).bind fun v1 =>
    bif (!v1) then
      some true
    else
      (spec_ListOk a_l).bind fun v2 =>
      some (!v2)).bind fun j1 =>
  bif j1 then
    some (GCell.mk 0 0 0)
  else
    gd (0 ≤ a_c.A ∧ a_c.A < ((a_l.length : Nat) : Int)) <|
    gd (0 ≤ a_c.B ∧ a_c.B < ((a_l.length : Nat) : Int)) <|
    (spec_SplitCell a_c.Split (gx a_l ((a_c.A).toNat)) (gx a_l ((a_c.B).toNat))).bind fun v3 =>
    some v3

def spec_ExchangeBlock_L1 (a_b : GBlock) (a_l : List Int) (k1 : Nat) (s1 : List GCell) : Option (Res (List GCell) Empty) :=
  (spec_ExchangeCell (gx a_b.Cells k1) a_l).bind fun v4 =>
  gd (s1.length + 1 ≤ 1099511627776) <|
  some (.next (s1 ++ [v4]))

def spec_ExchangeBlock (a_b : GBlock) (a_l : List Int) : Option (GBlock × Bool) :=
  (
    (spec_BlockOk a_b).bind fun v1 =>
    bif (!v1) then
      some true
    else
      (spec_ListOk a_l).bind fun v2 =>
      some (!v2)).bind fun j1 =>
  bif j1 then
    (spec_l03Copy a_b).bind fun v3 =>
    some (v3, false)
  else
    gd (a_b.Cells.length ≤ 4611686018427387904) <|
    (lpO (spec_ExchangeBlock_L1 a_b a_l) a_b.Cells.length ([] : List GCell)).bind fun e1 =>
    some ((GBlock.mk a_b.Size e1), true)

def spec_ColorwayAt_L2 (v3 : List Int) (k1 : Nat) (k2 : Nat) (s2 : (List Int) × (List Bool) × Int) : Option (Res ((List Int) × (List Bool) × Int) Empty) :=
  gd (k2 < s2.2.1.length) <|
  bif (gx s2.2.1 k2) then
    some (.next (s2.1, s2.2.1, s2.2.2))
  else
    bif (s2.2.2 == 0) then
      gd (0 ≤ (gx v3 k1) ∧ (gx v3 k1) < ((s2.1.length : Nat) : Int)) <|
      some (.brk ((s2.1.set (((gx v3 k1)).toNat) ((k2 : Nat) : Int)), (s2.2.1.set k2 true), s2.2.2))
    else
      some (.next (s2.1, s2.2.1, (wr (s2.2.2 - 1))))

def spec_ColorwayAt_L1 (v3 : List Int) (k1 : Nat) (s1 : Int × Int × (List Int) × (List Bool)) : Option (Res (Int × Int × (List Int) × (List Bool)) Empty) :=
  gd ((wr (6 - ((k1 : Nat) : Int))) ≠ 0) <|
  gd ((wr (s1.2.1.tdiv (wr (6 - ((k1 : Nat) : Int))))) ≠ 0) <|
  (lpO (spec_ColorwayAt_L2 v3 k1) 6 (s1.2.2.1, s1.2.2.2, (wr (s1.1.tdiv (wr (s1.2.1.tdiv (wr (6 - ((k1 : Nat) : Int))))))))).bind fun e2 =>
  some (.next ((s1.1.tmod (wr (s1.2.1.tdiv (wr (6 - ((k1 : Nat) : Int)))))), (wr (s1.2.1.tdiv (wr (6 - ((k1 : Nat) : Int))))), e2.1, e2.2.1))

def spec_ColorwayAt (a_b : GBlock) (a_index : Int) : Option (GBlock × Bool) :=
  (spec_ColorwayCount a_b).bind fun v1 =>
  (spec_l01In a_index 0 (wr (v1 - 1))).bind fun v2 =>
  bif (!v2) then
    some ((GBlock.mk 0 ([] : List GCell)), false)
  else
    (spec_ColorsOf a_b).bind fun v3 =>
    spec_l06Same.bind fun v4 =>
    gd (v3.length ≤ 4611686018427387904) <|
    (lpO (spec_ColorwayAt_L1 v3) v3.length (a_index, v1, v4, (List.replicate 6 (false : Bool)))).bind fun e1 =>
    (spec_ExchangeBlock a_b e1.2.2.1).bind fun v5 =>
    some (v5.1, v5.2)

def spec_MirrorCell (a_c : GCell) : Option GCell :=
  (spec_CellOk a_c).bind fun v1 =>
  bif (!v1) then
    some (GCell.mk 0 0 0)
  else
    bif (a_c.Split == 0) then
      some a_c
    else
      some (GCell.mk (wr (3 - a_c.Split)) a_c.B a_c.A)

def spec_MirrorBlock_L2 (a_b : GBlock) (k1 : Nat) (k2 : Nat) (s2 : List GCell) : Option (Res (List GCell) Empty) :=
  gd (0 ≤ (wr ((wr ((wr ((wr (((k1 : Nat) : Int) * a_b.Size)) + a_b.Size)) - 1)) - ((k2 : Nat) : Int))) ∧ (wr ((wr ((wr ((wr (((k1 : Nat) : Int) * a_b.Size)) + a_b.Size)) - 1)) - ((k2 : Nat) : Int))) < ((a_b.Cells.length : Nat) : Int)) <|
  (spec_MirrorCell (gx a_b.Cells (((wr ((wr ((wr ((wr (((k1 : Nat) : Int) * a_b.Size)) + a_b.Size)) - 1)) - ((k2 : Nat) : Int)))).toNat))).bind fun v2 =>
  gd (s2.length + 1 ≤ 1099511627776) <|
  some (.next (s2 ++ [v2]))

def spec_MirrorBlock_L1 (a_b : GBlock) (k1 : Nat) (s1 : List GCell) : Option (Res (List GCell) Empty) :=
  (lpO (spec_MirrorBlock_L2 a_b k1) ((a_b.Size).toNat) s1).bind fun e2 =>
  some (.next e2)

def spec_MirrorBlock (a_b : GBlock) : Option GBlock :=
  (spec_BlockOk a_b).bind fun v1 =>
  bif (!v1) then
    some (GBlock.mk 0 ([] : List GCell))
  else
    gd ((a_b.Size).toNat ≤ 4611686018427387904) <|
    (lpO (spec_MirrorBlock_L1 a_b) ((a_b.Size).toNat) ([] : List GCell)).bind fun e1 =>
    some (GBlock.mk a_b.Size e1)

def spec_TurnCell (a_c : GCell) : Option GCell :=
  (spec_CellOk a_c).bind fun v1 =>
  bif (!v1) then
    some (GCell.mk 0 0 0)
  else
    bif (a_c.Split == 1) then
      some (GCell.mk 2 a_c.B a_c.A)
    else
      bif (a_c.Split == 2) then
        some (GCell.mk 1 a_c.A a_c.B)
      else
        some a_c

def spec_TurnBlock_L2 (a_b : GBlock) (k1 : Nat) (k2 : Nat) (s2 : List GCell) : Option (Res (List GCell) Empty) :=
  gd (0 ≤ (wr ((wr ((wr ((wr (a_b.Size - 1)) - ((k2 : Nat) : Int))) * a_b.Size)) + ((k1 : Nat) : Int))) ∧ (wr ((wr ((wr ((wr (a_b.Size - 1)) - ((k2 : Nat) : Int))) * a_b.Size)) + ((k1 : Nat) : Int))) < ((a_b.Cells.length : Nat) : Int)) <|
  (spec_TurnCell (gx a_b.Cells (((wr ((wr ((wr ((wr (a_b.Size - 1)) - ((k2 : Nat) : Int))) * a_b.Size)) + ((k1 : Nat) : Int)))).toNat))).bind fun v2 =>
  gd (s2.length + 1 ≤ 1099511627776) <|
  some (.next (s2 ++ [v2]))

def spec_TurnBlock_L1 (a_b : GBlock) (k1 : Nat) (s1 : List GCell) : Option (Res (List GCell) Empty) :=
  (lpO (spec_TurnBlock_L2 a_b k1) ((a_b.Size).toNat) s1).bind fun e2 =>
  some (.next e2)

def spec_TurnBlock (a_b : GBlock) : Option GBlock :=
  (spec_BlockOk a_b).bind fun v1 =>
  bif (!v1) then
    some (GBlock.mk 0 ([] : List GCell))
  else
    gd ((a_b.Size).toNat ≤ 4611686018427387904) <|
    (lpO (spec_TurnBlock_L1 a_b) ((a_b.Size).toNat) ([] : List GCell)).bind fun e1 =>
    some (GBlock.mk a_b.Size e1)

def spec_SeenFrom_L1 (_ : Nat) (s1 : Int × (List GCell)) : Option (Res (Int × (List GCell)) Empty) :=
  (spec_TurnBlock (GBlock.mk s1.1 s1.2)).bind fun v5 =>
  some (.next (v5.Size, v5.Cells))

def spec_SeenFrom (a_b : GBlock) (a_k : Int) : Option GBlock :=
  (
    (spec_BlockOk a_b).bind fun v1 =>
    bif (!v1) then
      some true
    else
      (spec_l01In a_k 0 7).bind fun v2 =>
      some (!v2)).bind fun j1 =>
  bif j1 then
    some (GBlock.mk 0 ([] : List GCell))
  else
    (spec_l03Copy a_b).bind fun v3 =>
    (
      bif (decide (a_k ≥ 4)) then
        (spec_MirrorBlock a_b).bind fun v4 =>
        some v4
      else
        some v3).bind fun j2 =>
    gd (((a_k.tmod 4)).toNat ≤ 4611686018427387904) <|
    (lpO spec_SeenFrom_L1 (((a_k.tmod 4)).toNat) ((j2).Size, (j2).Cells)).bind fun e1 =>
    some (GBlock.mk e1.1 e1.2)

def spec_l01Figure (a_x : Int) : Option UInt8 :=
  bif (decide (a_x < 10)) then
    some (u8of (wr (48 + a_x)))
  else
    some (u8of (wr ((wr (97 + a_x)) - 10)))

def spec_FormatInt_L1 (s1 : Int × Str) : Option (Res (Int × Str) Empty) :=
  bif (s1.1 != 0) then
    (spec_l01Figure (bif (decide ((s1.1.tmod 10) < 0)) then (wr (0 - (s1.1.tmod 10))) else (s1.1.tmod 10))).bind fun v1 =>
    gd ((⟨([v1] : List UInt8)⟩ : Str).b.length + s1.2.b.length ≤ 1099511627776) <|
    some (.next ((wr (s1.1.tdiv 10)), (sadd (⟨([v1] : List UInt8)⟩ : Str) s1.2)))
  else
    some (.brk (s1.1, s1.2))

def spec_FormatInt (a_n : Int) : Option Str :=
  bif (a_n == 0) then
    some (⟨[48]⟩ : Str)
  else
    (wlO spec_FormatInt_L1 18446744073709551616 (a_n, (⟨[]⟩ : Str))).bind fun e1 =>
    bif (decide (a_n < 0)) then
      gd ((⟨[45]⟩ : Str).b.length + e1.2.b.length ≤ 1099511627776) <|
      some (sadd (⟨[45]⟩ : Str) e1.2)
    else
      some e1.2

def spec_CellText (a_c : GCell) : Option Str :=
  (spec_CellOk a_c).bind fun v1 =>
  bif (!v1) then
    some (⟨[]⟩ : Str)
  else
    bif (a_c.Split == 1) then
      (spec_FormatInt a_c.A).bind fun v2 =>
      gd (v2.b.length + (⟨[47]⟩ : Str).b.length ≤ 1099511627776) <|
      (spec_FormatInt a_c.B).bind fun v3 =>
      gd ((sadd v2 (⟨[47]⟩ : Str)).b.length + v3.b.length ≤ 1099511627776) <|
      some (sadd (sadd v2 (⟨[47]⟩ : Str)) v3)
    else
      bif (a_c.Split == 2) then
        (spec_FormatInt a_c.A).bind fun v4 =>
        gd (v4.b.length + (⟨[92]⟩ : Str).b.length ≤ 1099511627776) <|
        (spec_FormatInt a_c.B).bind fun v5 =>
        gd ((sadd v4 (⟨[92]⟩ : Str)).b.length + v5.b.length ≤ 1099511627776) <|
        some (sadd (sadd v4 (⟨[92]⟩ : Str)) v5)
      else
        (spec_FormatInt a_c.A).bind fun v6 =>
        some v6

def spec_TextOf_L1 (a_b : GBlock) (k1 : Nat) (s1 : Str) : Option (Res Str Empty) :=
  (spec_BlockOk a_b).bind fun v1 =>
  bif v1 then
    (spec_CellText (gx a_b.Cells k1)).bind fun v2 =>
    gd (s1.b.length + v2.b.length ≤ 1099511627776) <|
    gd ((sadd s1 v2).b.length + (⟨[59]⟩ : Str).b.length ≤ 1099511627776) <|
    some (.next (sadd (sadd s1 v2) (⟨[59]⟩ : Str)))
  else
    some (.brk s1)

def spec_TextOf (a_b : GBlock) : Option Str :=
  gd (a_b.Cells.length ≤ 4611686018427387904) <|
  (lpO (spec_TextOf_L1 a_b) a_b.Cells.length (⟨[]⟩ : Str)).bind fun e1 =>
  some e1

def spec_LeastForm_L1 (a_b : GBlock) (k1 : Nat) (s1 : Int × (List GCell)) : Option (Res (Int × (List GCell)) Empty) :=
  (spec_SeenFrom a_b (((k1 + 1) : Nat) : Int)).bind fun v3 =>
  (spec_TextOf v3).bind fun v4 =>
  (spec_TextOf (GBlock.mk s1.1 s1.2)).bind fun v5 =>
  some (.next ((bif (slt v4 v5) then v3 else (GBlock.mk s1.1 s1.2)).Size, (bif (slt v4 v5) then v3 else (GBlock.mk s1.1 s1.2)).Cells))

def spec_LeastForm (a_b : GBlock) : Option GBlock :=
  (spec_BlockOk a_b).bind fun v1 =>
  bif (!v1) then
    some (GBlock.mk 0 ([] : List GCell))
  else
    (spec_l03Copy a_b).bind fun v2 =>
    (lpO (spec_LeastForm_L1 a_b) 7 (v2.Size, v2.Cells)).bind fun e1 =>
    some (GBlock.mk e1.1 e1.2)

def spec_FreeColorways_L2 (s1 : List Str) (v6 : Str) (k2 : Nat) (s2 : Bool) : Option (Res Bool Empty) :=
  bif (!s2) then
    some (.next (seq (gx s1 k2) v6))
  else
    some (.brk s2)

def spec_FreeColorways_L1 (a_b : GBlock) (k1 : Nat) (s1 : List Str) : Option (Res (List Str) Empty) :=
  (spec_ColorwayAt a_b ((k1 : Nat) : Int)).bind fun v4 =>
  (spec_LeastForm v4.1).bind fun v5 =>
  (spec_TextOf v5).bind fun v6 =>
  gd (s1.length ≤ 4611686018427387904) <|
  (lpO (spec_FreeColorways_L2 s1 v6) s1.length false).bind fun e2 =>
  (
    bif (!e2) then
      gd (s1.length + 1 ≤ 1099511627776) <|
      some (s1 ++ [v6])
    else
      some s1).bind fun j2 =>
  some (.next j2)

def spec_FreeColorways (a_b : GBlock) : Option Int :=
  (
    (spec_BlockOk a_b).bind fun v1 =>
    bif (!v1) then
      some true
    else
      (spec_ColorsOf a_b).bind fun v2 =>
      some (decide (((v2.length : Nat) : Int) > 3))).bind fun j1 =>
  bif j1 then
    some 0
  else
    (spec_ColorwayCount a_b).bind fun v3 =>
    gd ((v3).toNat ≤ 4611686018427387904) <|
    (lpO (spec_FreeColorways_L1 a_b) ((v3).toNat) ([] : List Str)).bind fun e1 =>
    some ((e1.length : Nat) : Int)

def impl_within (a_n : Int) (a_a : Int) (a_b : Int) : Option Bool :=
  some ((decide (a_n ≥ a_a)) && (decide (a_n ≤ a_b)))

def impl_isColor (a_a : Int) : Option Bool :=
  (impl_within a_a 0 5).bind fun v1 =>
  some v1

def impl_CellOk (a_c : GCell) : Option Bool :=
  (
    (impl_within a_c.Split 0 2).bind fun v1 =>
    bif v1 then
      (impl_isColor a_c.A).bind fun v2 =>
      bif v2 then
        (impl_isColor a_c.B).bind fun v3 =>
        bif v3 then
          some ((a_c.Split == 0) == (a_c.A == a_c.B))
        else
          some false
      else
        some false
    else
      some false).bind fun j1 =>
  some j1

def impl_BlockOk_L1 (a_b : GBlock) (k1 : Nat) (_ : Unit) : Option (Res Unit Bool) :=
  (impl_CellOk (gx a_b.Cells k1)).bind fun v2 =>
  bif (!v2) then
    some (.ret false)
  else
    some (.next ())

def impl_BlockOk (a_b : GBlock) : Option Bool :=
  (
    (impl_within a_b.Size 1 4).bind fun v1 =>
    bif (!v1) then
      some true
    else
      some (((a_b.Cells.length : Nat) : Int) != (wr (a_b.Size * a_b.Size)))).bind fun j1 =>
  bif j1 then
    some false
  else
    gd (a_b.Cells.length ≤ 4611686018427387904) <|
    sq (forO (impl_BlockOk_L1 a_b) a_b.Cells.length 0 ()) fun _ =>
    some true

def impl_CellArea (a_c : GCell) (a_a : Int) : Option Int :=
  (
    (impl_CellOk a_c).bind fun v1 =>
    bif v1 then
      some (a_c.A == a_a)
    else
      some false).bind fun j1 =>
  (
    (impl_CellOk a_c).bind fun v2 =>
    bif v2 then
      some (a_c.B == a_a)
    else
      some false).bind fun j3 =>
  some (bif j3 then (wr ((bif j1 then (wr (0 + 2)) else 0) + 2)) else (bif j1 then (wr (0 + 2)) else 0))

def impl_AreaOf_L1 (a_b : GBlock) (a_a : Int) (k1 : Nat) (s1 : Int) : Option (Res Int Empty) :=
  (impl_CellArea (gx a_b.Cells k1) a_a).bind fun v2 =>
  some (.next (wr (s1 + v2)))

def impl_AreaOf (a_b : GBlock) (a_a : Int) : Option Int :=
  (impl_BlockOk a_b).bind fun v1 =>
  bif (!v1) then
    some 0
  else
    gd (a_b.Cells.length ≤ 4611686018427387904) <|
    (lpO (impl_AreaOf_L1 a_b a_a) a_b.Cells.length 0).bind fun e1 =>
    some e1

def impl_ColorsOf_L1 (a_b : GBlock) (k1 : Nat) (s1 : List Int) : Option (Res (List Int) Empty) :=
  (impl_AreaOf a_b ((k1 : Nat) : Int)).bind fun v2 =>
  (
    bif (decide (v2 > 0)) then
      gd (s1.length + 1 ≤ 1099511627776) <|
      some (s1 ++ [((k1 : Nat) : Int)])
    else
      some s1).bind fun j1 =>
  some (.next j1)

def impl_ColorsOf (a_b : GBlock) : Option (List Int) :=
  (impl_BlockOk a_b).bind fun v1 =>
  bif (!v1) then
    some ([] : List Int)
  else
    (lpO (impl_ColorsOf_L1 a_b) 6 ([] : List Int)).bind fun e1 =>
    some e1

def impl_choices_L1 (k1 : Nat) (s1 : Int) : Option (Res Int Empty) :=
  some (.next (wr (s1 * (wr (6 - ((k1 : Nat) : Int))))))

def impl_choices (a_n : Int) : Option Int :=
  gd ((a_n).toNat ≤ 4611686018427387904) <|
  (lpO impl_choices_L1 ((a_n).toNat) 1).bind fun e1 =>
  some e1

def impl_ColorwayCount (a_b : GBlock) : Option Int :=
  (impl_BlockOk a_b).bind fun v1 =>
  bif (!v1) then
    some 0
  else
    (impl_ColorsOf a_b).bind fun v2 =>
    (impl_choices ((v2.length : Nat) : Int)).bind fun v3 =>
    some v3

def impl_upTo_L1 (k1 : Nat) (s1 : List Int) : Option (Res (List Int) Empty) :=
  gd (s1.length + 1 ≤ 1099511627776) <|
  some (.next (s1 ++ [((k1 : Nat) : Int)]))

def impl_upTo (a_n : Int) : Option (List Int) :=
  gd ((a_n).toNat ≤ 4611686018427387904) <|
  (lpO impl_upTo_L1 ((a_n).toNat) ([] : List Int)).bind fun e1 =>
  some e1

def impl_allWithin_L1 (a_list : List Int) (a_a : Int) (a_b : Int) (k1 : Nat) (_ : Unit) : Option (Res Unit Bool) :=
  (impl_within (gx a_list k1) a_a a_b).bind fun v1 =>
  bif (!v1) then
    some (.ret false)
  else
    some (.next ())

def impl_allWithin (a_list : List Int) (a_a : Int) (a_b : Int) : Option Bool :=
  gd (a_list.length ≤ 4611686018427387904) <|
  sq (forO (impl_allWithin_L1 a_list a_a a_b) a_list.length 0 ()) fun _ =>
  some true

def impl_ListOk (a_l : List Int) : Option Bool :=
  (
    bif (((a_l.length : Nat) : Int) == 6) then
      (impl_allWithin a_l 0 5).bind fun v1 =>
      some v1
    else
      some false).bind fun j1 =>
  some j1

def impl_Block_copied (a_b : GBlock) : Option GBlock :=
  gd (([] : List GCell).length + a_b.Cells.length ≤ 1099511627776) <|
  some (GBlock.mk a_b.Size (([] : List GCell) ++ a_b.Cells))

def impl_Block_isPlace (a_b : GBlock) (a_x : Int) (a_y : Int) : Option Bool :=
  (
    (impl_BlockOk a_b).bind fun v1 =>
    bif v1 then
      (impl_within a_x 0 (wr (a_b.Size - 1))).bind fun v2 =>
      bif v2 then
        (impl_within a_y 0 (wr (a_b.Size - 1))).bind fun v3 =>
        some v3
      else
        some false
    else
      some false).bind fun j1 =>
  some j1

def impl_CellAt (a_b : GBlock) (a_x : Int) (a_y : Int) : Option GCell :=
  (impl_Block_isPlace a_b a_x a_y).bind fun v1 =>
  bif (!v1) then
    some (GCell.mk 0 0 0)
  else
    gd (0 ≤ (wr ((wr (a_y * a_b.Size)) + a_x)) ∧ (wr ((wr (a_y * a_b.Size)) + a_x)) < ((a_b.Cells.length : Nat) : Int)) <|
    some (gx a_b.Cells (((wr ((wr (a_y * a_b.Size)) + a_x))).toNat))

def impl_WholeCell (a_a : Int) : Option GCell :=
  (impl_isColor a_a).bind fun v1 =>
  bif (!v1) then
    some (GCell.mk 0 0 0)
  else
    some (GCell.mk 0 a_a a_a)

def impl_SplitCell (a_split : Int) (a_a : Int) (a_b : Int) : Option GCell :=
  bif (a_a == a_b) then
    (impl_WholeCell a_a).bind fun v1 =>
    some v1
  else
    (impl_CellOk (GCell.mk a_split a_a a_b)).bind fun v2 =>
    bif (!v2) then
      some (GCell.mk 0 0 0)
    else
      some (GCell.mk a_split a_a a_b)

def impl_ExchangeCell (a_c : GCell) (a_l : List Int) : Option GCell :=
  (
    (impl_CellOk a_c).bind fun v1 =>
    bif (!v1) then
      some true
    else
      (impl_ListOk a_l).bind fun v2 =>
      some (!v2)).bind fun j1 =>
  bif j1 then
    some (GCell.mk 0 0 0)
  else
    gd (0 ≤ a_c.A ∧ a_c.A < ((a_l.length : Nat) : Int)) <|
    gd (0 ≤ a_c.B ∧ a_c.B < ((a_l.length : Nat) : Int)) <|
    (impl_SplitCell a_c.Split (gx a_l ((a_c.A).toNat)) (gx a_l ((a_c.B).toNat))).bind fun v3 =>
    some v3

def impl_ExchangeBlock_c1 (a_x : Int) (a_y : Int) (c_p2 : GBlock) (c_p3 : List Int) : Option GCell :=
  (impl_CellAt c_p2 a_x a_y).bind fun v1 =>
  (impl_ExchangeCell v1 c_p3).bind fun v2 =>
  some v2

def impl_made_L2 (a_one : Int → Int → Option GCell) (k1 : Nat) (k2 : Nat) (s2 : List GCell) : Option (Res (List GCell) Empty) :=
  (a_one ((k2 : Nat) : Int) ((k1 : Nat) : Int)).bind fun v1 =>
  gd (s2.length + 1 ≤ 1099511627776) <|
  some (.next (s2 ++ [v1]))

def impl_made_L1 (a_size : Int) (a_one : Int → Int → Option GCell) (k1 : Nat) (s1 : List GCell) : Option (Res (List GCell) Empty) :=
  (lpO (impl_made_L2 a_one k1) ((a_size).toNat) s1).bind fun e2 =>
  some (.next e2)

def impl_made (a_size : Int) (a_one : Int → Int → Option GCell) : Option GBlock :=
  gd ((a_size).toNat ≤ 4611686018427387904) <|
  (lpO (impl_made_L1 a_size a_one) ((a_size).toNat) ([] : List GCell)).bind fun e1 =>
  some (GBlock.mk a_size e1)

def impl_ExchangeBlock (a_b : GBlock) (a_l : List Int) : Option (GBlock × Bool) :=
  (
    (impl_BlockOk a_b).bind fun v1 =>
    bif (!v1) then
      some true
    else
      (impl_ListOk a_l).bind fun v2 =>
      some (!v2)).bind fun j1 =>
  bif j1 then
    (impl_Block_copied a_b).bind fun v3 =>
    some (v3, false)
  else
    (impl_made a_b.Size (fun z0 z1 => impl_ExchangeBlock_c1 z0 z1 a_b a_l)).bind fun v4 =>
    some (v4, true)

def impl_ColorwayAt_L1 (v3 : List Int) (k1 : Nat) (s1 : Int × (List Int) × (List Int)) : Option (Res (Int × (List Int) × (List Int)) Empty) :=
  (impl_choices ((v3.length : Nat) : Int)).bind fun v5 =>
  (impl_choices ((k1 + 1 : Nat) : Int)).bind fun v6 =>
  gd (v6 ≠ 0) <|
  gd ((wr (v5.tdiv v6)) ≠ 0) <|
  gd (0 ≤ (wr (s1.1.tdiv (wr (v5.tdiv v6)))) ∧ (wr (s1.1.tdiv (wr (v5.tdiv v6)))) < ((s1.2.1.length : Nat) : Int)) <|
  gd (0 ≤ (gx v3 k1) ∧ (gx v3 k1) < ((s1.2.2.length : Nat) : Int)) <|
  gd (0 ≤ (wr (s1.1.tdiv (wr (v5.tdiv v6)))) ∧ 0 ≤ ((wr (s1.1.tdiv (wr (v5.tdiv v6))))).toNat ∧ ((wr (s1.1.tdiv (wr (v5.tdiv v6))))).toNat ≤ s1.2.1.length) <|
  gd (0 ≤ (wr ((wr (s1.1.tdiv (wr (v5.tdiv v6)))) + 1)) ∧ ((wr ((wr (s1.1.tdiv (wr (v5.tdiv v6)))) + 1))).toNat ≤ s1.2.1.length ∧ s1.2.1.length ≤ s1.2.1.length) <|
  gd (([] : List Int).length + ((s1.2.1.drop 0).take (((wr (s1.1.tdiv (wr (v5.tdiv v6))))).toNat - 0)).length ≤ 1099511627776) <|
  gd ((([] : List Int) ++ ((s1.2.1.drop 0).take (((wr (s1.1.tdiv (wr (v5.tdiv v6))))).toNat - 0))).length + ((s1.2.1.drop (((wr ((wr (s1.1.tdiv (wr (v5.tdiv v6)))) + 1))).toNat)).take (s1.2.1.length - (((wr ((wr (s1.1.tdiv (wr (v5.tdiv v6)))) + 1))).toNat))).length ≤ 1099511627776) <|
  some (.next ((s1.1.tmod (wr (v5.tdiv v6))), ((([] : List Int) ++ ((s1.2.1.drop 0).take (((wr (s1.1.tdiv (wr (v5.tdiv v6))))).toNat - 0))) ++ ((s1.2.1.drop (((wr ((wr (s1.1.tdiv (wr (v5.tdiv v6)))) + 1))).toNat)).take (s1.2.1.length - (((wr ((wr (s1.1.tdiv (wr (v5.tdiv v6)))) + 1))).toNat)))), (s1.2.2.set (((gx v3 k1)).toNat) (gx s1.2.1 (((wr (s1.1.tdiv (wr (v5.tdiv v6))))).toNat)))))

def impl_ColorwayAt (a_b : GBlock) (a_index : Int) : Option (GBlock × Bool) :=
  (impl_ColorwayCount a_b).bind fun v1 =>
  (impl_within a_index 0 (wr (v1 - 1))).bind fun v2 =>
  bif (!v2) then
    some ((GBlock.mk 0 ([] : List GCell)), false)
  else
    (impl_ColorsOf a_b).bind fun v3 =>
    (impl_upTo 6).bind fun v4 =>
    gd (v3.length ≤ 4611686018427387904) <|
    (lpO (impl_ColorwayAt_L1 v3) v3.length (a_index, v4, (List.replicate 6 (0 : Int)))).bind fun e1 =>
    (impl_ExchangeBlock a_b e1.2.2).bind fun v7 =>
    some (v7.1, v7.2)

def impl_MirrorCell (a_c : GCell) : Option GCell :=
  (impl_CellOk a_c).bind fun v1 =>
  bif (!v1) then
    some (GCell.mk 0 0 0)
  else
    bif (a_c.Split == 0) then
      some a_c
    else
      some (GCell.mk (wr (3 - a_c.Split)) a_c.B a_c.A)

def impl_MirrorBlock_c1 (a_x : Int) (a_y : Int) (c_p2 : GBlock) : Option GCell :=
  (impl_CellAt c_p2 (wr ((wr (c_p2.Size - 1)) - a_x)) a_y).bind fun v1 =>
  (impl_MirrorCell v1).bind fun v2 =>
  some v2

def impl_MirrorBlock (a_b : GBlock) : Option GBlock :=
  (impl_BlockOk a_b).bind fun v1 =>
  bif (!v1) then
    some (GBlock.mk 0 ([] : List GCell))
  else
    (impl_made a_b.Size (fun z0 z1 => impl_MirrorBlock_c1 z0 z1 a_b)).bind fun v2 =>
    some v2

def impl_TurnCell (a_c : GCell) : Option GCell :=
  (impl_CellOk a_c).bind fun v1 =>
  bif (!v1) then
    some (GCell.mk 0 0 0)
  else
    bif (a_c.Split == 1) then
      some (GCell.mk 2 a_c.B a_c.A)
    else
      bif (a_c.Split == 2) then
        some (GCell.mk 1 a_c.A a_c.B)
      else
        some a_c

def impl_TurnBlock_c1 (a_x : Int) (a_y : Int) (c_p2 : GBlock) : Option GCell :=
  (impl_CellAt c_p2 a_y (wr ((wr (c_p2.Size - 1)) - a_x))).bind fun v1 =>
  (impl_TurnCell v1).bind fun v2 =>
  some v2

def impl_TurnBlock (a_b : GBlock) : Option GBlock :=
  (impl_BlockOk a_b).bind fun v1 =>
  bif (!v1) then
    some (GBlock.mk 0 ([] : List GCell))
  else
    (impl_made a_b.Size (fun z0 z1 => impl_TurnBlock_c1 z0 z1 a_b)).bind fun v2 =>
    some v2

def impl_SeenFrom_L1 (_ : Nat) (s1 : Int × (List GCell)) : Option (Res (Int × (List GCell)) Empty) :=
  (impl_TurnBlock (GBlock.mk s1.1 s1.2)).bind fun v5 =>
  some (.next (v5.Size, v5.Cells))

def impl_SeenFrom (a_b : GBlock) (a_k : Int) : Option GBlock :=
  (
    (impl_BlockOk a_b).bind fun v1 =>
    bif (!v1) then
      some true
    else
      (impl_within a_k 0 7).bind fun v2 =>
      some (!v2)).bind fun j1 =>
  bif j1 then
    some (GBlock.mk 0 ([] : List GCell))
  else
    (impl_Block_copied a_b).bind fun v3 =>
    (
      bif (decide (a_k ≥ 4)) then
        (impl_MirrorBlock a_b).bind fun v4 =>
        some v4
      else
        some v3).bind fun j2 =>
    gd (((a_k.tmod 4)).toNat ≤ 4611686018427387904) <|
    (lpO impl_SeenFrom_L1 (((a_k.tmod 4)).toNat) ((j2).Size, (j2).Cells)).bind fun e1 =>
    some (GBlock.mk e1.1 e1.2)

def impl_views_L1 (a_b : GBlock) (k1 : Nat) (s1 : List GBlock) : Option (Res (List GBlock) Empty) :=
  (impl_SeenFrom a_b ((k1 : Nat) : Int)).bind fun v1 =>
  gd (s1.length + 1 ≤ 1099511627776) <|
  some (.next (s1 ++ [v1]))

def impl_views (a_b : GBlock) : Option (List GBlock) :=
  (lpO (impl_views_L1 a_b) 8 ([] : List GBlock)).bind fun e1 =>
  some e1

def strconv_Itoa (a_i : Int) : Option Str :=
  gd (0 ≤ a_i ∧ a_i < 10) <|
  some (⟨[UInt8.ofNat (48 + a_i.toNat)]⟩ : Str)

def impl_FormatInt (a_n : Int) : Option Str :=
  (strconv_Itoa a_n).bind fun v1 =>
  some v1

def impl_CellText (a_c : GCell) : Option Str :=
  (impl_CellOk a_c).bind fun v1 =>
  bif (!v1) then
    some (⟨[]⟩ : Str)
  else
    gd (0 ≤ a_c.Split ∧ a_c.Split < ((([(⟨[]⟩ : Str), (⟨[47]⟩ : Str), (⟨[92]⟩ : Str)] : List Str).length : Nat) : Int)) <|
    bif (seq (gx ([(⟨[]⟩ : Str), (⟨[47]⟩ : Str), (⟨[92]⟩ : Str)] : List Str) ((a_c.Split).toNat)) (⟨[]⟩ : Str)) then
      (impl_FormatInt a_c.A).bind fun v2 =>
      some v2
    else
      (impl_FormatInt a_c.A).bind fun v3 =>
      gd (v3.b.length + (gx ([(⟨[]⟩ : Str), (⟨[47]⟩ : Str), (⟨[92]⟩ : Str)] : List Str) ((a_c.Split).toNat)).b.length ≤ 1099511627776) <|
      (impl_FormatInt a_c.B).bind fun v4 =>
      gd ((sadd v3 (gx ([(⟨[]⟩ : Str), (⟨[47]⟩ : Str), (⟨[92]⟩ : Str)] : List Str) ((a_c.Split).toNat))).b.length + v4.b.length ≤ 1099511627776) <|
      some (sadd (sadd v3 (gx ([(⟨[]⟩ : Str), (⟨[47]⟩ : Str), (⟨[92]⟩ : Str)] : List Str) ((a_c.Split).toNat))) v4)

def impl_TextOf_L1 (a_b : GBlock) (k1 : Nat) (s1 : Str) : Option (Res Str Empty) :=
  (impl_CellText (gx a_b.Cells k1)).bind fun v2 =>
  gd (v2.b.length + (⟨[59]⟩ : Str).b.length ≤ 1099511627776) <|
  gd (s1.b.length + (sadd v2 (⟨[59]⟩ : Str)).b.length ≤ 1099511627776) <|
  some (.next (sadd s1 (sadd v2 (⟨[59]⟩ : Str))))

def impl_TextOf (a_b : GBlock) : Option Str :=
  (impl_BlockOk a_b).bind fun v1 =>
  bif (!v1) then
    some (⟨[]⟩ : Str)
  else
    gd (a_b.Cells.length ≤ 4611686018427387904) <|
    (lpO (impl_TextOf_L1 a_b) a_b.Cells.length (⟨[]⟩ : Str)).bind fun e1 =>
    some e1

def impl_least_L1 (a_list : List GBlock) (k1 : Nat) (s1 : Nat) : Option (Res Nat Empty) :=
  gd (s1 < a_list.length) <|
  (impl_TextOf (gx a_list k1)).bind fun v1 =>
  (impl_TextOf (gx a_list s1)).bind fun v2 =>
  some (.next (bif slt v1 v2 then k1 else s1))

def impl_least (a_list : List GBlock) : Option GBlock :=
  gd (0 < a_list.length) <|
  gd (a_list.length ≤ 4611686018427387904) <|
  (lpO (impl_least_L1 a_list) a_list.length 0).bind fun e1 =>
  gd (e1 < a_list.length) <|
  some (gx a_list e1)

def impl_LeastForm (a_b : GBlock) : Option GBlock :=
  (impl_BlockOk a_b).bind fun v1 =>
  bif (!v1) then
    some (GBlock.mk 0 ([] : List GCell))
  else
    (impl_views a_b).bind fun v2 =>
    (impl_least v2).bind fun v3 =>
    some v3

def impl_countDifferent_L1 (a_list : List GBlock) (k1 : Nat) (s1 : List Str) : Option (Res (List Str) Empty) :=
  (impl_TextOf (gx a_list k1)).bind fun v1 =>
  some (.next (putS s1 v1))

def impl_countDifferent (a_list : List GBlock) : Option Int :=
  gd (a_list.length ≤ 4611686018427387904) <|
  (lpO (impl_countDifferent_L1 a_list) a_list.length ([] : List Str)).bind fun e1 =>
  some ((e1.length : Nat) : Int)

def impl_FreeColorways_L1 (a_b : GBlock) (k1 : Nat) (s1 : List GBlock) : Option (Res (List GBlock) Empty) :=
  (impl_ColorwayAt a_b ((k1 : Nat) : Int)).bind fun v4 =>
  (impl_LeastForm v4.1).bind fun v5 =>
  gd (s1.length + 1 ≤ 1099511627776) <|
  some (.next (s1 ++ [v5]))

def impl_FreeColorways (a_b : GBlock) : Option Int :=
  (
    (impl_BlockOk a_b).bind fun v1 =>
    bif (!v1) then
      some true
    else
      (impl_ColorsOf a_b).bind fun v2 =>
      some (decide (((v2.length : Nat) : Int) > 3))).bind fun j1 =>
  bif j1 then
    some 0
  else
    (impl_ColorwayCount a_b).bind fun v3 =>
    gd ((v3).toNat ≤ 4611686018427387904) <|
    (lpO (impl_FreeColorways_L1 a_b) ((v3).toNat) ([] : List GBlock)).bind fun e1 =>
    (impl_countDifferent e1).bind fun v6 =>
    some v6

def laws_eqCell (a_a : GCell) (a_b : GCell) : Option Bool :=
  bif (a_a.Split != a_b.Split) then
    some false
  else
    bif (a_a.A != a_b.A) then
      some false
    else
      bif (a_a.B != a_b.B) then
        some false
      else
        some true

def laws_eqCellS_L1 (a_a : List GCell) (a_b : List GCell) (k1 : Nat) (_ : Unit) : Option (Res Unit Bool) :=
  gd (k1 < a_b.length) <|
  (laws_eqCell (gx a_a k1) (gx a_b k1)).bind fun v1 =>
  bif (!v1) then
    some (.ret false)
  else
    some (.next ())

def laws_eqCellS (a_a : List GCell) (a_b : List GCell) : Option Bool :=
  bif (((a_a.length : Nat) : Int) != ((a_b.length : Nat) : Int)) then
    some false
  else
    gd (a_a.length ≤ 4611686018427387904) <|
    sq (forO (laws_eqCellS_L1 a_a a_b) a_a.length 0 ()) fun _ =>
    some true

def laws_eqBlock (a_a : GBlock) (a_b : GBlock) : Option Bool :=
  bif (a_a.Size != a_b.Size) then
    some false
  else
    (laws_eqCellS a_a.Cells a_b.Cells).bind fun v1 =>
    bif (!v1) then
      some false
    else
      some true

def laws_FnExactFreeColorways (a_aB : GBlock) : Option Bool :=
  (laws_szBlock a_aB 1048576).bind fun v1 =>
  bif (decide (v1 < 0)) then
    some true
  else
    (laws_toBlock a_aB).bind fun v2 =>
    (spec_FreeColorways v2).bind fun v3 =>
    (laws_toBlock a_aB).bind fun v4 =>
    (impl_FreeColorways v4).bind fun v5 =>
    bif (v5 != v3) then
      some false
    else
      (laws_toBlock a_aB).bind fun v6 =>
      (laws_eqBlock v4 v6).bind fun v7 =>
      bif (!v7) then
        some false
      else
        some true

end Go.Proofs.YtnpibdapfofpcabDoor
