/-
  What the functions compute, as Lean functions.
-/
import Derived.Test.YtgimnmlcdidcdaaTypes
namespace Go.Proofs.Ytgimnmlcdidcdaa
open Go Go.RowKit

def spec_l01In (a_x : Int) (a_least : Int) (a_most : Int) : Option Bool :=
  some ((decide (a_x ≥ a_least)) && (decide (a_x ≤ a_most)))

def spec_WholeCell (a_a : Int) : Option GCell :=
  (spec_l01In a_a 0 5).bind fun v1 =>
  bif (!v1) then
    some (GCell.mk 0 0 0)
  else
    some (GCell.mk 0 a_a a_a)

def spec_StarBlock  : Option GBlock :=
  (spec_WholeCell 1).bind fun v1 =>
  some (GBlock.mk 3 ([(GCell.mk 1 0 1), v1, (GCell.mk 2 1 0), v1, v1, v1, (GCell.mk 2 0 1), v1, (GCell.mk 1 1 0)] : List GCell))

def spec_CellOk (a_c : GCell) : Option Bool :=
  (
    (spec_l01In a_c.Split 0 2).bind fun v1 =>
    bif (!v1) then
      some true
    else
      (spec_l01In a_c.A 0 5).bind fun v2 =>
      bif (!v2) then
        some true
      else
        (spec_l01In a_c.B 0 5).bind fun v3 =>
        some (!v3)).bind fun j1 =>
  bif j1 then
    some false
  else
    some ((a_c.Split == 0) == (a_c.A == a_c.B))

def spec_SplitCell (a_split : Int) (a_a : Int) (a_b : Int) : Option GCell :=
  bif (a_a == a_b) then
    (spec_WholeCell a_a).bind fun v1 =>
    some v1
  else
    (spec_CellOk (GCell.mk a_split a_a a_b)).bind fun v2 =>
    bif (!v2) then
      some (GCell.mk 0 0 0)
    else
      some (GCell.mk a_split a_a a_b)

def spec_SampleBlock_L1 (a_n : Int) (k1 : Nat) (s1 : List GCell) : Option (Res (List GCell) Empty) :=
  (spec_WholeCell (wr ((wr (a_n.tdiv 5)) + 1))).bind fun v3 =>
  (
    bif (decide (((k1 : Nat) : Int) < (a_n.tmod 5))) then
      (spec_SplitCell 1 0 1).bind fun v4 =>
      some v4
    else
      some v3).bind fun j1 =>
  gd (s1.length + 1 ≤ 1099511627776) <|
  some (.next (s1 ++ [(j1)]))

def spec_SampleBlock (a_n : Int) : Option GBlock :=
  bif (a_n == 0) then
    spec_StarBlock.bind fun v1 =>
    some v1
  else
    (spec_l01In a_n 1 9).bind fun v2 =>
    bif (!v2) then
      some (GBlock.mk 0 ([] : List GCell))
    else
      (lpO (spec_SampleBlock_L1 a_n) 4 ([] : List GCell)).bind fun e1 =>
      some (GBlock.mk 2 e1)

def impl_within (a_n : Int) (a_a : Int) (a_b : Int) : Option Bool :=
  some ((decide (a_n ≥ a_a)) && (decide (a_n ≤ a_b)))

def impl_isColor (a_a : Int) : Option Bool :=
  (impl_within a_a 0 5).bind fun v1 =>
  some v1

def impl_WholeCell (a_a : Int) : Option GCell :=
  (impl_isColor a_a).bind fun v1 =>
  bif (!v1) then
    some (GCell.mk 0 0 0)
  else
    some (GCell.mk 0 a_a a_a)

def impl_CellOk (a_c : GCell) : Option Bool :=
  (
    (impl_within a_c.Split 0 2).bind fun v1 =>
    bif v1 then
      (impl_isColor a_c.A).bind fun v2 =>
      bif v2 then
        (impl_isColor a_c.B).bind fun v3 =>
        bif v3 then
          some ((a_c.Split == 0) == (a_c.A == a_c.B))
        else
          some false
      else
        some false
    else
      some false).bind fun j1 =>
  some j1

def impl_SplitCell (a_split : Int) (a_a : Int) (a_b : Int) : Option GCell :=
  bif (a_a == a_b) then
    (impl_WholeCell a_a).bind fun v1 =>
    some v1
  else
    (impl_CellOk (GCell.mk a_split a_a a_b)).bind fun v2 =>
    bif (!v2) then
      some (GCell.mk 0 0 0)
    else
      some (GCell.mk a_split a_a a_b)

def impl_StarBlock  : Option GBlock :=
  (impl_WholeCell 1).bind fun v1 =>
  (impl_SplitCell 1 0 1).bind fun v2 =>
  (impl_SplitCell 2 1 0).bind fun v3 =>
  (impl_SplitCell 2 0 1).bind fun v4 =>
  (impl_SplitCell 1 1 0).bind fun v5 =>
  some (GBlock.mk 3 ([v2, v1, v3, v1, v1, v1, v4, v1, v5] : List GCell))

def impl_SampleBlock_c1 (a_x : Int) (a_y : Int) (c_p2 : Int) : Option GCell :=
  bif (decide ((wr ((wr (2 * a_y)) + a_x)) < (c_p2.tmod 5))) then
    (impl_SplitCell 1 0 1).bind fun v1 =>
    some v1
  else
    (impl_WholeCell (wr ((wr (c_p2.tdiv 5)) + 1))).bind fun v2 =>
    some v2

def impl_made_L2 (a_one : Int → Int → Option GCell) (k1 : Nat) (k2 : Nat) (s2 : List GCell) : Option (Res (List GCell) Empty) :=
  (a_one ((k2 : Nat) : Int) ((k1 : Nat) : Int)).bind fun v1 =>
  gd (s2.length + 1 ≤ 1099511627776) <|
  some (.next (s2 ++ [v1]))

def impl_made_L1 (a_size : Int) (a_one : Int → Int → Option GCell) (k1 : Nat) (s1 : List GCell) : Option (Res (List GCell) Empty) :=
  (lpO (impl_made_L2 a_one k1) ((a_size).toNat) s1).bind fun e2 =>
  some (.next e2)

def impl_made (a_size : Int) (a_one : Int → Int → Option GCell) : Option GBlock :=
  gd ((a_size).toNat ≤ 4611686018427387904) <|
  (lpO (impl_made_L1 a_size a_one) ((a_size).toNat) ([] : List GCell)).bind fun e1 =>
  some (GBlock.mk a_size e1)

def impl_SampleBlock (a_n : Int) : Option GBlock :=
  bif (a_n == 0) then
    impl_StarBlock.bind fun v1 =>
    some v1
  else
    (impl_within a_n 1 9).bind fun v2 =>
    bif (!v2) then
      some (GBlock.mk 0 ([] : List GCell))
    else
      (impl_made 2 (fun z0 z1 => impl_SampleBlock_c1 z0 z1 a_n)).bind fun v3 =>
      some v3

def laws_eqCell (a_a : GCell) (a_b : GCell) : Option Bool :=
  bif (a_a.Split != a_b.Split) then
    some false
  else
    bif (a_a.A != a_b.A) then
      some false
    else
      bif (a_a.B != a_b.B) then
        some false
      else
        some true

def laws_eqCellS_L1 (a_a : List GCell) (a_b : List GCell) (k1 : Nat) (s1 : Unit) : Option (Res Unit Bool) :=
  gd (k1 < a_b.length) <|
  (laws_eqCell (gx a_a k1) (gx a_b k1)).bind fun v1 =>
  bif (!v1) then
    some (.ret false)
  else
    some (.next ())

def laws_eqCellS (a_a : List GCell) (a_b : List GCell) : Option Bool :=
  bif (((a_a.length : Nat) : Int) != ((a_b.length : Nat) : Int)) then
    some false
  else
    gd (a_a.length ≤ 4611686018427387904) <|
    sq (forO (laws_eqCellS_L1 a_a a_b) a_a.length 0 ()) fun e1 =>
    some true

def laws_eqBlock (a_a : GBlock) (a_b : GBlock) : Option Bool :=
  bif (a_a.Size != a_b.Size) then
    some false
  else
    (laws_eqCellS a_a.Cells a_b.Cells).bind fun v1 =>
    bif (!v1) then
      some false
    else
      some true

def laws_markCellS_L1 (k1 : Nat) (s1 : (List GCell) × Int) : Option (Res ((List GCell) × Int) Empty) :=
  some (.next ((s1.1.set k1 (GCell.mk s1.2 (wr (s1.2 + 1)) (wr ((wr (s1.2 + 1)) + 1)))), (wr ((wr ((wr (s1.2 + 1)) + 1)) + 1))))

def laws_markCellS (a_a : List GCell) (a_k : Int) : Option (Int × (List GCell)) :=
  gd (a_a.length ≤ 4611686018427387904) <|
  (lpO laws_markCellS_L1 a_a.length (a_a, a_k)).bind fun e1 =>
  some (e1.2, e1.1)

def laws_markBlock (a_a : GBlock) (a_k : Int) : Option (Int × (List GCell)) :=
  (laws_markCellS a_a.Cells a_k).bind fun v1 =>
  some (v1.1, v1.2)

def laws_heldCellS_L1 (a_a : List GCell) (k1 : Nat) (s1 : Int) : Option (Res Int Int) :=
  bif ((gx a_a k1).Split != s1) then
    some (.ret (-1))
  else
    bif ((gx a_a k1).A != (wr (s1 + 1))) then
      some (.ret (-1))
    else
      bif ((gx a_a k1).B != (wr ((wr (s1 + 1)) + 1))) then
        some (.ret (-1))
      else
        some (.next (wr ((wr ((wr (s1 + 1)) + 1)) + 1)))

def laws_heldCellS (a_a : List GCell) (a_k : Int) : Option Int :=
  gd (a_a.length ≤ 4611686018427387904) <|
  sq (forO (laws_heldCellS_L1 a_a) a_a.length 0 a_k) fun e1 =>
  some e1

def laws_heldBlock (a_a : GBlock) (a_k : Int) : Option Int :=
  (laws_heldCellS a_a.Cells a_k).bind fun v1 =>
  bif (decide (v1 < 0)) then
    some (-1)
  else
    some v1

def laws_FnExactSampleBlock (a_aN : Int) : Option Bool :=
  (spec_SampleBlock a_aN).bind fun v1 =>
  (impl_SampleBlock a_aN).bind fun v2 =>
  (laws_eqBlock v2 v1).bind fun v3 =>
  bif (!v3) then
    some false
  else
    (laws_markBlock v2 1).bind fun v4 =>
    (laws_heldBlock (GBlock.mk v2.Size v4.2) 1).bind fun v5 =>
    bif (decide (v5 < 0)) then
      some false
    else
      bif (v5 != v4.1) then
        some false
      else
        (impl_SampleBlock a_aN).bind fun v6 =>
        (laws_eqBlock v6 v1).bind fun v7 =>
        bif (!v7) then
          some false
        else
          (laws_heldBlock (GBlock.mk v2.Size v4.2) 1).bind fun v8 =>
          bif (decide (v8 < 0)) then
            some false
          else
            bif (v8 != v4.1) then
              some false
            else
              some true

end Go.Proofs.Ytgimnmlcdidcdaa
