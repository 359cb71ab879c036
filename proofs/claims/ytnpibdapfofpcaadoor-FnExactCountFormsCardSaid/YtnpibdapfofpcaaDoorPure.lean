/-
  What the functions compute, as Lean functions.
-/
import Derived.Test.YtnpibdapfofpcaaDoorTypes
namespace Go.Proofs.YtnpibdapfofpcaaDoor
open Go Go.RowKit

def laws_szCellS (a_a : List GCell) (a_left : Int) : Option Int :=
  bif (decide ((wr (a_left - ((a_a.length : Nat) : Int))) < 0)) then
    some (-1)
  else
    some (wr (a_left - ((a_a.length : Nat) : Int)))

def laws_szBlock (a_a : GBlock) (a_left : Int) : Option Int :=
  (laws_szCellS a_a.Cells a_left).bind fun v1 =>
  bif (decide (v1 < 0)) then
    some (-1)
  else
    some v1

def laws_toCell (a_a : GCell) : Option GCell :=
  some a_a

def laws_toCellS_L1 (a_a : List GCell) (k1 : Nat) (s1 : List GCell) : Option (Res (List GCell) Empty) :=
  (laws_toCell (gx a_a k1)).bind fun v1 =>
  gd (k1 < s1.length) <|
  some (.next (s1.set k1 v1))

def laws_toCellS (a_a : List GCell) : Option (List GCell) :=
  gd (a_a.length ≤ 1099511627776) <|
  gd (a_a.length ≤ 4611686018427387904) <|
  (lpO (laws_toCellS_L1 a_a) a_a.length (List.replicate a_a.length ((GCell.mk 0 0 0) : GCell))).bind fun e1 =>
  some e1

def laws_toBlock (a_a : GBlock) : Option GBlock :=
  (laws_toCellS a_a.Cells).bind fun v1 =>
  some (GBlock.mk a_a.Size v1)

def spec_l01In (a_x : Int) (a_least : Int) (a_most : Int) : Option Bool :=
  some ((decide (a_x ≥ a_least)) && (decide (a_x ≤ a_most)))

def spec_CellOk (a_c : GCell) : Option Bool :=
  (
    (spec_l01In a_c.Split 0 2).bind fun v1 =>
    bif (!v1) then
      some true
    else
      (spec_l01In a_c.A 0 5).bind fun v2 =>
      bif (!v2) then
        some true
      else
        (spec_l01In a_c.B 0 5).bind fun v3 =>
        some (!v3)).bind fun j1 =>
  bif j1 then
    some false
  else
    some ((a_c.Split == 0) == (a_c.A == a_c.B))

def spec_BlockOk_L1 (a_b : GBlock) (k1 : Nat) (_ : Unit) : Option (Res Unit Bool) :=
  (spec_CellOk (gx a_b.Cells k1)).bind fun v2 =>
  bif (!v2) then
    some (.ret false)
  else
    some (.next ())

def spec_BlockOk (a_b : GBlock) : Option Bool :=
  (
    (spec_l01In a_b.Size 1 4).bind fun v1 =>
    bif (!v1) then
      some true
    else
      some (((a_b.Cells.length : Nat) : Int) != (wr (a_b.Size * a_b.Size)))).bind fun j1 =>
  bif j1 then
    some false
  else
    gd (a_b.Cells.length ≤ 4611686018427387904) <|
    sq (forO (spec_BlockOk_L1 a_b) a_b.Cells.length 0 ()) fun _ =>
    some true

def spec_l03Copy (a_b : GBlock) : Option GBlock :=
  gd (([] : List GCell).length + a_b.Cells.length ≤ 1099511627776) <|
  some (GBlock.mk a_b.Size (([] : List GCell) ++ a_b.Cells))

def spec_MirrorCell (a_c : GCell) : Option GCell :=
  (spec_CellOk a_c).bind fun v1 =>
  bif (!v1) then
    some (GCell.mk 0 0 0)
  else
    bif (a_c.Split == 0) then
      some a_c
    else
      some (GCell.mk (wr (3 - a_c.Split)) a_c.B a_c.A)

def spec_MirrorBlock_L2 (a_b : GBlock) (k1 : Nat) (k2 : Nat) (s2 : List GCell) : Option (Res (List GCell) Empty) :=
  gd (0 ≤ (wr ((wr ((wr ((wr (((k1 : Nat) : Int) * a_b.Size)) + a_b.Size)) - 1)) - ((k2 : Nat) : Int))) ∧ (wr ((wr ((wr ((wr (((k1 : Nat) : Int) * a_b.Size)) + a_b.Size)) - 1)) - ((k2 : Nat) : Int))) < ((a_b.Cells.length : Nat) : Int)) <|
  (spec_MirrorCell (gx a_b.Cells (((wr ((wr ((wr ((wr (((k1 : Nat) : Int) * a_b.Size)) + a_b.Size)) - 1)) - ((k2 : Nat) : Int)))).toNat))).bind fun v2 =>
  gd (s2.length + 1 ≤ 1099511627776) <|
  some (.next (s2 ++ [v2]))

def spec_MirrorBlock_L1 (a_b : GBlock) (k1 : Nat) (s1 : List GCell) : Option (Res (List GCell) Empty) :=
  (lpO (spec_MirrorBlock_L2 a_b k1) ((a_b.Size).toNat) s1).bind fun e2 =>
  some (.next e2)

def spec_MirrorBlock (a_b : GBlock) : Option GBlock :=
  (spec_BlockOk a_b).bind fun v1 =>
  bif (!v1) then
    some (GBlock.mk 0 ([] : List GCell))
  else
    gd ((a_b.Size).toNat ≤ 4611686018427387904) <|
    (lpO (spec_MirrorBlock_L1 a_b) ((a_b.Size).toNat) ([] : List GCell)).bind fun e1 =>
    some (GBlock.mk a_b.Size e1)

def spec_TurnCell (a_c : GCell) : Option GCell :=
  (spec_CellOk a_c).bind fun v1 =>
  bif (!v1) then
    some (GCell.mk 0 0 0)
  else
    bif (a_c.Split == 1) then
      some (GCell.mk 2 a_c.B a_c.A)
    else
      bif (a_c.Split == 2) then
        some (GCell.mk 1 a_c.A a_c.B)
      else
        some a_c

def spec_TurnBlock_L2 (a_b : GBlock) (k1 : Nat) (k2 : Nat) (s2 : List GCell) : Option (Res (List GCell) Empty) :=
  gd (0 ≤ (wr ((wr ((wr ((wr (a_b.Size - 1)) - ((k2 : Nat) : Int))) * a_b.Size)) + ((k1 : Nat) : Int))) ∧ (wr ((wr ((wr ((wr (a_b.Size - 1)) - ((k2 : Nat) : Int))) * a_b.Size)) + ((k1 : Nat) : Int))) < ((a_b.Cells.length : Nat) : Int)) <|
  (spec_TurnCell (gx a_b.Cells (((wr ((wr ((wr ((wr (a_b.Size - 1)) - ((k2 : Nat) : Int))) * a_b.Size)) + ((k1 : Nat) : Int)))).toNat))).bind fun v2 =>
  gd (s2.length + 1 ≤ 1099511627776) <|
  some (.next (s2 ++ [v2]))

def spec_TurnBlock_L1 (a_b : GBlock) (k1 : Nat) (s1 : List GCell) : Option (Res (List GCell) Empty) :=
  (lpO (spec_TurnBlock_L2 a_b k1) ((a_b.Size).toNat) s1).bind fun e2 =>
  some (.next e2)

def spec_TurnBlock (a_b : GBlock) : Option GBlock :=
  (spec_BlockOk a_b).bind fun v1 =>
  bif (!v1) then
    some (GBlock.mk 0 ([] : List GCell))
  else
    gd ((a_b.Size).toNat ≤ 4611686018427387904) <|
    (lpO (spec_TurnBlock_L1 a_b) ((a_b.Size).toNat) ([] : List GCell)).bind fun e1 =>
    some (GBlock.mk a_b.Size e1)

def spec_SeenFrom_L1 (_ : Nat) (s1 : Int × (List GCell)) : Option (Res (Int × (List GCell)) Empty) :=
  (spec_TurnBlock (GBlock.mk s1.1 s1.2)).bind fun v5 =>
  some (.next (v5.Size, v5.Cells))

def spec_SeenFrom (a_b : GBlock) (a_k : Int) : Option GBlock :=
  (
    (spec_BlockOk a_b).bind fun v1 =>
    bif (!v1) then
      some true
    else
      (spec_l01In a_k 0 7).bind fun v2 =>
      some (!v2)).bind fun j1 =>
  bif j1 then
    some (GBlock.mk 0 ([] : List GCell))
  else
    (spec_l03Copy a_b).bind fun v3 =>
    (
      bif (decide (a_k ≥ 4)) then
        (spec_MirrorBlock a_b).bind fun v4 =>
        some v4
      else
        some v3).bind fun j2 =>
    gd (((a_k.tmod 4)).toNat ≤ 4611686018427387904) <|
    (lpO spec_SeenFrom_L1 (((a_k.tmod 4)).toNat) ((j2).Size, (j2).Cells)).bind fun e1 =>
    some (GBlock.mk e1.1 e1.2)

def spec_SameBlock_L1 (a_b : GBlock) (a_d : GBlock) (k1 : Nat) (_ : Unit) : Option (Res Unit Bool) :=
  gd (k1 < a_d.Cells.length) <|
  bif (!(beqs [(gx a_b.Cells k1).Split, (gx a_b.Cells k1).A, (gx a_b.Cells k1).B] [(gx a_d.Cells k1).Split, (gx a_d.Cells k1).A, (gx a_d.Cells k1).B])) then
    some (.ret false)
  else
    some (.next ())

def spec_SameBlock (a_b : GBlock) (a_d : GBlock) : Option Bool :=
  bif ((a_b.Size != a_d.Size) || (((a_b.Cells.length : Nat) : Int) != ((a_d.Cells.length : Nat) : Int))) then
    some false
  else
    gd (a_b.Cells.length ≤ 4611686018427387904) <|
    sq (forO (spec_SameBlock_L1 a_b a_d) a_b.Cells.length 0 ()) fun _ =>
    some true

def spec_CountForms_L2 (a_b : GBlock) (k1 : Nat) (k2 : Nat) (s2 : Bool) : Option (Res Bool Empty) :=
  (
    bif s2 then
      (spec_SeenFrom a_b ((k2 : Nat) : Int)).bind fun v2 =>
      (spec_SeenFrom a_b ((k1 : Nat) : Int)).bind fun v3 =>
      (spec_SameBlock v2 v3).bind fun v4 =>
      some (!v4)
    else
      some false).bind fun j1 =>
  some (.next j1)

def spec_CountForms_L1 (a_b : GBlock) (k1 : Nat) (s1 : Int) : Option (Res Int Empty) :=
  (spec_BlockOk a_b).bind fun v1 =>
  bif v1 then
    gd (k1 ≤ 4611686018427387904) <|
    (lpO (spec_CountForms_L2 a_b k1) k1 true).bind fun e2 =>
    some (.next (bif e2 then (wr (s1 + 1)) else s1))
  else
    some (.brk s1)

def spec_CountForms (a_b : GBlock) : Option Int :=
  (lpO (spec_CountForms_L1 a_b) 8 0).bind fun e1 =>
  some e1

def impl_within (a_n : Int) (a_a : Int) (a_b : Int) : Option Bool :=
  some ((decide (a_n ≥ a_a)) && (decide (a_n ≤ a_b)))

def impl_isColor (a_a : Int) : Option Bool :=
  (impl_within a_a 0 5).bind fun v1 =>
  some v1

def impl_CellOk (a_c : GCell) : Option Bool :=
  (
    (impl_within a_c.Split 0 2).bind fun v1 =>
    bif v1 then
      (impl_isColor a_c.A).bind fun v2 =>
      bif v2 then
        (impl_isColor a_c.B).bind fun v3 =>
        bif v3 then
          some ((a_c.Split == 0) == (a_c.A == a_c.B))
        else
          some false
      else
        some false
    else
      some false).bind fun j1 =>
  some j1

def impl_BlockOk_L1 (a_b : GBlock) (k1 : Nat) (_ : Unit) : Option (Res Unit Bool) :=
  (impl_CellOk (gx a_b.Cells k1)).bind fun v2 =>
  bif (!v2) then
    some (.ret false)
  else
    some (.next ())

def impl_BlockOk (a_b : GBlock) : Option Bool :=
  (
    (impl_within a_b.Size 1 4).bind fun v1 =>
    bif (!v1) then
      some true
    else
      some (((a_b.Cells.length : Nat) : Int) != (wr (a_b.Size * a_b.Size)))).bind fun j1 =>
  bif j1 then
    some false
  else
    gd (a_b.Cells.length ≤ 4611686018427387904) <|
    sq (forO (impl_BlockOk_L1 a_b) a_b.Cells.length 0 ()) fun _ =>
    some true

def impl_Block_copied (a_b : GBlock) : Option GBlock :=
  gd (([] : List GCell).length + a_b.Cells.length ≤ 1099511627776) <|
  some (GBlock.mk a_b.Size (([] : List GCell) ++ a_b.Cells))

def impl_Block_isPlace (a_b : GBlock) (a_x : Int) (a_y : Int) : Option Bool :=
  (
    (impl_BlockOk a_b).bind fun v1 =>
    bif v1 then
      (impl_within a_x 0 (wr (a_b.Size - 1))).bind fun v2 =>
      bif v2 then
        (impl_within a_y 0 (wr (a_b.Size - 1))).bind fun v3 =>
        some v3
      else
        some false
    else
      some false).bind fun j1 =>
  some j1

def impl_CellAt (a_b : GBlock) (a_x : Int) (a_y : Int) : Option GCell :=
  (impl_Block_isPlace a_b a_x a_y).bind fun v1 =>
  bif (!v1) then
    some (GCell.mk 0 0 0)
  else
    gd (0 ≤ (wr ((wr (a_y * a_b.Size)) + a_x)) ∧ (wr ((wr (a_y * a_b.Size)) + a_x)) < ((a_b.Cells.length : Nat) : Int)) <|
    some (gx a_b.Cells (((wr ((wr (a_y * a_b.Size)) + a_x))).toNat))

def impl_MirrorCell (a_c : GCell) : Option GCell :=
  (impl_CellOk a_c).bind fun v1 =>
  bif (!v1) then
    some (GCell.mk 0 0 0)
  else
    bif (a_c.Split == 0) then
      some a_c
    else
      some (GCell.mk (wr (3 - a_c.Split)) a_c.B a_c.A)

def impl_MirrorBlock_c1 (a_x : Int) (a_y : Int) (c_p2 : GBlock) : Option GCell :=
  (impl_CellAt c_p2 (wr ((wr (c_p2.Size - 1)) - a_x)) a_y).bind fun v1 =>
  (impl_MirrorCell v1).bind fun v2 =>
  some v2

def impl_made_L2 (a_one : Int → Int → Option GCell) (k1 : Nat) (k2 : Nat) (s2 : List GCell) : Option (Res (List GCell) Empty) :=
  (a_one ((k2 : Nat) : Int) ((k1 : Nat) : Int)).bind fun v1 =>
  gd (s2.length + 1 ≤ 1099511627776) <|
  some (.next (s2 ++ [v1]))

def impl_made_L1 (a_size : Int) (a_one : Int → Int → Option GCell) (k1 : Nat) (s1 : List GCell) : Option (Res (List GCell) Empty) :=
  (lpO (impl_made_L2 a_one k1) ((a_size).toNat) s1).bind fun e2 =>
  some (.next e2)

def impl_made (a_size : Int) (a_one : Int → Int → Option GCell) : Option GBlock :=
  gd ((a_size).toNat ≤ 4611686018427387904) <|
  (lpO (impl_made_L1 a_size a_one) ((a_size).toNat) ([] : List GCell)).bind fun e1 =>
  some (GBlock.mk a_size e1)

def impl_MirrorBlock (a_b : GBlock) : Option GBlock :=
  (impl_BlockOk a_b).bind fun v1 =>
  bif (!v1) then
    some (GBlock.mk 0 ([] : List GCell))
  else
    (impl_made a_b.Size (fun z0 z1 => impl_MirrorBlock_c1 z0 z1 a_b)).bind fun v2 =>
    some v2

def impl_TurnCell (a_c : GCell) : Option GCell :=
  (impl_CellOk a_c).bind fun v1 =>
  bif (!v1) then
    some (GCell.mk 0 0 0)
  else
    bif (a_c.Split == 1) then
      some (GCell.mk 2 a_c.B a_c.A)
    else
      bif (a_c.Split == 2) then
        some (GCell.mk 1 a_c.A a_c.B)
      else
        some a_c

def impl_TurnBlock_c1 (a_x : Int) (a_y : Int) (c_p2 : GBlock) : Option GCell :=
  (impl_CellAt c_p2 a_y (wr ((wr (c_p2.Size - 1)) - a_x))).bind fun v1 =>
  (impl_TurnCell v1).bind fun v2 =>
  some v2

def impl_TurnBlock (a_b : GBlock) : Option GBlock :=
  (impl_BlockOk a_b).bind fun v1 =>
  bif (!v1) then
    some (GBlock.mk 0 ([] : List GCell))
  else
    (impl_made a_b.Size (fun z0 z1 => impl_TurnBlock_c1 z0 z1 a_b)).bind fun v2 =>
    some v2

def impl_SeenFrom_L1 (_ : Nat) (s1 : Int × (List GCell)) : Option (Res (Int × (List GCell)) Empty) :=
  (impl_TurnBlock (GBlock.mk s1.1 s1.2)).bind fun v5 =>
  some (.next (v5.Size, v5.Cells))

def impl_SeenFrom (a_b : GBlock) (a_k : Int) : Option GBlock :=
  (
    (impl_BlockOk a_b).bind fun v1 =>
    bif (!v1) then
      some true
    else
      (impl_within a_k 0 7).bind fun v2 =>
      some (!v2)).bind fun j1 =>
  bif j1 then
    some (GBlock.mk 0 ([] : List GCell))
  else
    (impl_Block_copied a_b).bind fun v3 =>
    (
      bif (decide (a_k ≥ 4)) then
        (impl_MirrorBlock a_b).bind fun v4 =>
        some v4
      else
        some v3).bind fun j2 =>
    gd (((a_k.tmod 4)).toNat ≤ 4611686018427387904) <|
    (lpO impl_SeenFrom_L1 (((a_k.tmod 4)).toNat) ((j2).Size, (j2).Cells)).bind fun e1 =>
    some (GBlock.mk e1.1 e1.2)

def impl_views_L1 (a_b : GBlock) (k1 : Nat) (s1 : List GBlock) : Option (Res (List GBlock) Empty) :=
  (impl_SeenFrom a_b ((k1 : Nat) : Int)).bind fun v1 =>
  gd (s1.length + 1 ≤ 1099511627776) <|
  some (.next (s1 ++ [v1]))

def impl_views (a_b : GBlock) : Option (List GBlock) :=
  (lpO (impl_views_L1 a_b) 8 ([] : List GBlock)).bind fun e1 =>
  some e1

def strconv_Itoa (a_i : Int) : Option Str :=
  gd (0 ≤ a_i ∧ a_i < 10) <|
  some (⟨[UInt8.ofNat (48 + a_i.toNat)]⟩ : Str)

def impl_FormatInt (a_n : Int) : Option Str :=
  (strconv_Itoa a_n).bind fun v1 =>
  some v1

def impl_CellText (a_c : GCell) : Option Str :=
  (impl_CellOk a_c).bind fun v1 =>
  bif (!v1) then
    some (⟨[]⟩ : Str)
  else
    gd (0 ≤ a_c.Split ∧ a_c.Split < ((([(⟨[]⟩ : Str), (⟨[47]⟩ : Str), (⟨[92]⟩ : Str)] : List Str).length : Nat) : Int)) <|
    bif (seq (gx ([(⟨[]⟩ : Str), (⟨[47]⟩ : Str), (⟨[92]⟩ : Str)] : List Str) ((a_c.Split).toNat)) (⟨[]⟩ : Str)) then
      (impl_FormatInt a_c.A).bind fun v2 =>
      some v2
    else
      (impl_FormatInt a_c.A).bind fun v3 =>
      gd (v3.b.length + (gx ([(⟨[]⟩ : Str), (⟨[47]⟩ : Str), (⟨[92]⟩ : Str)] : List Str) ((a_c.Split).toNat)).b.length ≤ 1099511627776) <|
      (impl_FormatInt a_c.B).bind fun v4 =>
      gd ((sadd v3 (gx ([(⟨[]⟩ : Str), (⟨[47]⟩ : Str), (⟨[92]⟩ : Str)] : List Str) ((a_c.Split).toNat))).b.length + v4.b.length ≤ 1099511627776) <|
      some (sadd (sadd v3 (gx ([(⟨[]⟩ : Str), (⟨[47]⟩ : Str), (⟨[92]⟩ : Str)] : List Str) ((a_c.Split).toNat))) v4)

def impl_TextOf_L1 (a_b : GBlock) (k1 : Nat) (s1 : Str) : Option (Res Str Empty) :=
  (impl_CellText (gx a_b.Cells k1)).bind fun v2 =>
  gd (v2.b.length + (⟨[59]⟩ : Str).b.length ≤ 1099511627776) <|
  gd (s1.b.length + (sadd v2 (⟨[59]⟩ : Str)).b.length ≤ 1099511627776) <|
  some (.next (sadd s1 (sadd v2 (⟨[59]⟩ : Str))))

def impl_TextOf (a_b : GBlock) : Option Str :=
  (impl_BlockOk a_b).bind fun v1 =>
  bif (!v1) then
    some (⟨[]⟩ : Str)
  else
    gd (a_b.Cells.length ≤ 4611686018427387904) <|
    (lpO (impl_TextOf_L1 a_b) a_b.Cells.length (⟨[]⟩ : Str)).bind fun e1 =>
    some e1

def impl_countDifferent_L1 (a_list : List GBlock) (k1 : Nat) (s1 : List Str) : Option (Res (List Str) Empty) :=
  (impl_TextOf (gx a_list k1)).bind fun v1 =>
  some (.next (putS s1 v1))

def impl_countDifferent (a_list : List GBlock) : Option Int :=
  gd (a_list.length ≤ 4611686018427387904) <|
  (lpO (impl_countDifferent_L1 a_list) a_list.length ([] : List Str)).bind fun e1 =>
  some ((e1.length : Nat) : Int)

def impl_CountForms (a_b : GBlock) : Option Int :=
  (impl_BlockOk a_b).bind fun v1 =>
  bif (!v1) then
    some 0
  else
    (impl_views a_b).bind fun v2 =>
    (impl_countDifferent v2).bind fun v3 =>
    some v3

def laws_eqCell (a_a : GCell) (a_b : GCell) : Option Bool :=
  bif (a_a.Split != a_b.Split) then
    some false
  else
    bif (a_a.A != a_b.A) then
      some false
    else
      bif (a_a.B != a_b.B) then
        some false
      else
        some true

def laws_eqCellS_L1 (a_a : List GCell) (a_b : List GCell) (k1 : Nat) (_ : Unit) : Option (Res Unit Bool) :=
  gd (k1 < a_b.length) <|
  (laws_eqCell (gx a_a k1) (gx a_b k1)).bind fun v1 =>
  bif (!v1) then
    some (.ret false)
  else
    some (.next ())

def laws_eqCellS (a_a : List GCell) (a_b : List GCell) : Option Bool :=
  bif (((a_a.length : Nat) : Int) != ((a_b.length : Nat) : Int)) then
    some false
  else
    gd (a_a.length ≤ 4611686018427387904) <|
    sq (forO (laws_eqCellS_L1 a_a a_b) a_a.length 0 ()) fun _ =>
    some true

def laws_eqBlock (a_a : GBlock) (a_b : GBlock) : Option Bool :=
  bif (a_a.Size != a_b.Size) then
    some false
  else
    (laws_eqCellS a_a.Cells a_b.Cells).bind fun v1 =>
    bif (!v1) then
      some false
    else
      some true

def laws_FnExactCountForms (a_aB : GBlock) : Option Bool :=
  (laws_szBlock a_aB 1048576).bind fun v1 =>
  bif (decide (v1 < 0)) then
    some true
  else
    (laws_toBlock a_aB).bind fun v2 =>
    (spec_CountForms v2).bind fun v3 =>
    (laws_toBlock a_aB).bind fun v4 =>
    (impl_CountForms v4).bind fun v5 =>
    bif (v5 != v3) then
      some false
    else
      (laws_toBlock a_aB).bind fun v6 =>
      (laws_eqBlock v4 v6).bind fun v7 =>
      bif (!v7) then
        some false
      else
        some true

end Go.Proofs.YtnpibdapfofpcaaDoor
