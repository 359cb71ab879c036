/-
  Short names, for the walks of a large claim.
-/
import Derived.Test.YtjfjbgihojiijacGreatDoorHole
namespace Go.Proofs.YtjfjbgihojiijacGreatDoor
open Go Go.RowKit
theorem pk1 {A X0 : Asn} {L : List Asn} : Pick A (X0 :: A :: L) (X0 :: L) := ZaI pz
theorem pk2 {A X0 X1 : Asn} {L : List Asn} : Pick A (X0 :: X1 :: A :: L) (X0 :: X1 :: L) := ZaI pk1
theorem pk3 {A X0 X1 X2 : Asn} {L : List Asn} : Pick A (X0 :: X1 :: X2 :: A :: L) (X0 :: X1 :: X2 :: L) := ZaI pk2
theorem pk4 {A X0 X1 X2 X3 : Asn} {L : List Asn} : Pick A (X0 :: X1 :: X2 :: X3 :: A :: L) (X0 :: X1 :: X2 :: X3 :: L) := ZaI pk3
theorem pk5 {A X0 X1 X2 X3 X4 : Asn} {L : List Asn} : Pick A (X0 :: X1 :: X2 :: X3 :: X4 :: A :: L) (X0 :: X1 :: X2 :: X3 :: X4 :: L) := ZaI pk4
theorem pk6 {A X0 X1 X2 X3 X4 X5 : Asn} {L : List Asn} : Pick A (X0 :: X1 :: X2 :: X3 :: X4 :: X5 :: A :: L) (X0 :: X1 :: X2 :: X3 :: X4 :: X5 :: L) := ZaI pk5
theorem pk7 {A X0 X1 X2 X3 X4 X5 X6 : Asn} {L : List Asn} : Pick A (X0 :: X1 :: X2 :: X3 :: X4 :: X5 :: X6 :: A :: L) (X0 :: X1 :: X2 :: X3 :: X4 :: X5 :: X6 :: L) := ZaI pk6
theorem pk8 {A X0 X1 X2 X3 X4 X5 X6 X7 : Asn} {L : List Asn} : Pick A (X0 :: X1 :: X2 :: X3 :: X4 :: X5 :: X6 :: X7 :: A :: L) (X0 :: X1 :: X2 :: X3 :: X4 :: X5 :: X6 :: X7 :: L) := ZaI pk7
theorem pk9 {A X0 X1 X2 X3 X4 X5 X6 X7 X8 : Asn} {L : List Asn} : Pick A (X0 :: X1 :: X2 :: X3 :: X4 :: X5 :: X6 :: X7 :: X8 :: A :: L) (X0 :: X1 :: X2 :: X3 :: X4 :: X5 :: X6 :: X7 :: X8 :: L) := ZaI pk8
theorem pk10 {A X0 X1 X2 X3 X4 X5 X6 X7 X8 X9 : Asn} {L : List Asn} : Pick A (X0 :: X1 :: X2 :: X3 :: X4 :: X5 :: X6 :: X7 :: X8 :: X9 :: A :: L) (X0 :: X1 :: X2 :: X3 :: X4 :: X5 :: X6 :: X7 :: X8 :: X9 :: L) := ZaI pk9
theorem pk11 {A X0 X1 X2 X3 X4 X5 X6 X7 X8 X9 X10 : Asn} {L : List Asn} : Pick A (X0 :: X1 :: X2 :: X3 :: X4 :: X5 :: X6 :: X7 :: X8 :: X9 :: X10 :: A :: L) (X0 :: X1 :: X2 :: X3 :: X4 :: X5 :: X6 :: X7 :: X8 :: X9 :: X10 :: L) := ZaI pk10
theorem pk12 {A X0 X1 X2 X3 X4 X5 X6 X7 X8 X9 X10 X11 : Asn} {L : List Asn} : Pick A (X0 :: X1 :: X2 :: X3 :: X4 :: X5 :: X6 :: X7 :: X8 :: X9 :: X10 :: X11 :: A :: L) (X0 :: X1 :: X2 :: X3 :: X4 :: X5 :: X6 :: X7 :: X8 :: X9 :: X10 :: X11 :: L) := ZaI pk11
theorem pk13 {A X0 X1 X2 X3 X4 X5 X6 X7 X8 X9 X10 X11 X12 : Asn} {L : List Asn} : Pick A (X0 :: X1 :: X2 :: X3 :: X4 :: X5 :: X6 :: X7 :: X8 :: X9 :: X10 :: X11 :: X12 :: A :: L) (X0 :: X1 :: X2 :: X3 :: X4 :: X5 :: X6 :: X7 :: X8 :: X9 :: X10 :: X11 :: X12 :: L) := ZaI pk12
theorem so1 {X0 : Asn} {L : List Asn} : ZaD [X0] (X0 :: L) := zc pz zn
theorem so2 {X0 X1 : Asn} {L : List Asn} : ZaD [X0, X1] (X0 :: X1 :: L) := zc pz so1
theorem so3 {X0 X1 X2 : Asn} {L : List Asn} : ZaD [X0, X1, X2] (X0 :: X1 :: X2 :: L) := zc pz so2
theorem so4 {X0 X1 X2 X3 : Asn} {L : List Asn} : ZaD [X0, X1, X2, X3] (X0 :: X1 :: X2 :: X3 :: L) := zc pz so3
theorem so5 {X0 X1 X2 X3 X4 : Asn} {L : List Asn} : ZaD [X0, X1, X2, X3, X4] (X0 :: X1 :: X2 :: X3 :: X4 :: L) := zc pz so4
theorem so6 {X0 X1 X2 X3 X4 X5 : Asn} {L : List Asn} : ZaD [X0, X1, X2, X3, X4, X5] (X0 :: X1 :: X2 :: X3 :: X4 :: X5 :: L) := zc pz so5
theorem so7 {X0 X1 X2 X3 X4 X5 X6 : Asn} {L : List Asn} : ZaD [X0, X1, X2, X3, X4, X5, X6] (X0 :: X1 :: X2 :: X3 :: X4 :: X5 :: X6 :: L) := zc pz so6
theorem so8 {X0 X1 X2 X3 X4 X5 X6 X7 : Asn} {L : List Asn} : ZaD [X0, X1, X2, X3, X4, X5, X6, X7] (X0 :: X1 :: X2 :: X3 :: X4 :: X5 :: X6 :: X7 :: L) := zc pz so7
theorem so9 {X0 X1 X2 X3 X4 X5 X6 X7 X8 : Asn} {L : List Asn} : ZaD [X0, X1, X2, X3, X4, X5, X6, X7, X8] (X0 :: X1 :: X2 :: X3 :: X4 :: X5 :: X6 :: X7 :: X8 :: L) := zc pz so8
theorem so10 {X0 X1 X2 X3 X4 X5 X6 X7 X8 X9 : Asn} {L : List Asn} : ZaD [X0, X1, X2, X3, X4, X5, X6, X7, X8, X9] (X0 :: X1 :: X2 :: X3 :: X4 :: X5 :: X6 :: X7 :: X8 :: X9 :: L) := zc pz so9
theorem so11 {X0 X1 X2 X3 X4 X5 X6 X7 X8 X9 X10 : Asn} {L : List Asn} : ZaD [X0, X1, X2, X3, X4, X5, X6, X7, X8, X9, X10] (X0 :: X1 :: X2 :: X3 :: X4 :: X5 :: X6 :: X7 :: X8 :: X9 :: X10 :: L) := zc pz so10
theorem so12 {X0 X1 X2 X3 X4 X5 X6 X7 X8 X9 X10 X11 : Asn} {L : List Asn} : ZaD [X0, X1, X2, X3, X4, X5, X6, X7, X8, X9, X10, X11] (X0 :: X1 :: X2 :: X3 :: X4 :: X5 :: X6 :: X7 :: X8 :: X9 :: X10 :: X11 :: L) := zc pz so11
theorem su1 {E : List (Nat × Value)} {d0 : Nat} {v0 : Value} (h0 : lk E d0 = some v0) : Sub [(d0, v0)] E := yc h0 yn
theorem su2 {E : List (Nat × Value)} {d0 d1 : Nat} {v0 v1 : Value} (h0 : lk E d0 = some v0) (h1 : lk E d1 = some v1) : Sub [(d0, v0), (d1, v1)] E := yc h0 (yc h1 yn)
theorem su3 {E : List (Nat × Value)} {d0 d1 d2 : Nat} {v0 v1 v2 : Value} (h0 : lk E d0 = some v0) (h1 : lk E d1 = some v1) (h2 : lk E d2 = some v2) : Sub [(d0, v0), (d1, v1), (d2, v2)] E := yc h0 (yc h1 (yc h2 yn))
theorem su4 {E : List (Nat × Value)} {d0 d1 d2 d3 : Nat} {v0 v1 v2 v3 : Value} (h0 : lk E d0 = some v0) (h1 : lk E d1 = some v1) (h2 : lk E d2 = some v2) (h3 : lk E d3 = some v3) : Sub [(d0, v0), (d1, v1), (d2, v2), (d3, v3)] E := yc h0 (yc h1 (yc h2 (yc h3 yn)))
theorem su5 {E : List (Nat × Value)} {d0 d1 d2 d3 d4 : Nat} {v0 v1 v2 v3 v4 : Value} (h0 : lk E d0 = some v0) (h1 : lk E d1 = some v1) (h2 : lk E d2 = some v2) (h3 : lk E d3 = some v3) (h4 : lk E d4 = some v4) : Sub [(d0, v0), (d1, v1), (d2, v2), (d3, v3), (d4, v4)] E := yc h0 (yc h1 (yc h2 (yc h3 (yc h4 yn))))
theorem su6 {E : List (Nat × Value)} {d0 d1 d2 d3 d4 d5 : Nat} {v0 v1 v2 v3 v4 v5 : Value} (h0 : lk E d0 = some v0) (h1 : lk E d1 = some v1) (h2 : lk E d2 = some v2) (h3 : lk E d3 = some v3) (h4 : lk E d4 = some v4) (h5 : lk E d5 = some v5) : Sub [(d0, v0), (d1, v1), (d2, v2), (d3, v3), (d4, v4), (d5, v5)] E := yc h0 (yc h1 (yc h2 (yc h3 (yc h4 (yc h5 yn)))))
theorem su7 {E : List (Nat × Value)} {d0 d1 d2 d3 d4 d5 d6 : Nat} {v0 v1 v2 v3 v4 v5 v6 : Value} (h0 : lk E d0 = some v0) (h1 : lk E d1 = some v1) (h2 : lk E d2 = some v2) (h3 : lk E d3 = some v3) (h4 : lk E d4 = some v4) (h5 : lk E d5 = some v5) (h6 : lk E d6 = some v6) : Sub [(d0, v0), (d1, v1), (d2, v2), (d3, v3), (d4, v4), (d5, v5), (d6, v6)] E := yc h0 (yc h1 (yc h2 (yc h3 (yc h4 (yc h5 (yc h6 yn))))))
theorem su8 {E : List (Nat × Value)} {d0 d1 d2 d3 d4 d5 d6 d7 : Nat} {v0 v1 v2 v3 v4 v5 v6 v7 : Value} (h0 : lk E d0 = some v0) (h1 : lk E d1 = some v1) (h2 : lk E d2 = some v2) (h3 : lk E d3 = some v3) (h4 : lk E d4 = some v4) (h5 : lk E d5 = some v5) (h6 : lk E d6 = some v6) (h7 : lk E d7 = some v7) : Sub [(d0, v0), (d1, v1), (d2, v2), (d3, v3), (d4, v4), (d5, v5), (d6, v6), (d7, v7)] E := yc h0 (yc h1 (yc h2 (yc h3 (yc h4 (yc h5 (yc h6 (yc h7 yn)))))))
theorem su9 {E : List (Nat × Value)} {d0 d1 d2 d3 d4 d5 d6 d7 d8 : Nat} {v0 v1 v2 v3 v4 v5 v6 v7 v8 : Value} (h0 : lk E d0 = some v0) (h1 : lk E d1 = some v1) (h2 : lk E d2 = some v2) (h3 : lk E d3 = some v3) (h4 : lk E d4 = some v4) (h5 : lk E d5 = some v5) (h6 : lk E d6 = some v6) (h7 : lk E d7 = some v7) (h8 : lk E d8 = some v8) : Sub [(d0, v0), (d1, v1), (d2, v2), (d3, v3), (d4, v4), (d5, v5), (d6, v6), (d7, v7), (d8, v8)] E := yc h0 (yc h1 (yc h2 (yc h3 (yc h4 (yc h5 (yc h6 (yc h7 (yc h8 yn))))))))
theorem su10 {E : List (Nat × Value)} {d0 d1 d2 d3 d4 d5 d6 d7 d8 d9 : Nat} {v0 v1 v2 v3 v4 v5 v6 v7 v8 v9 : Value} (h0 : lk E d0 = some v0) (h1 : lk E d1 = some v1) (h2 : lk E d2 = some v2) (h3 : lk E d3 = some v3) (h4 : lk E d4 = some v4) (h5 : lk E d5 = some v5) (h6 : lk E d6 = some v6) (h7 : lk E d7 = some v7) (h8 : lk E d8 = some v8) (h9 : lk E d9 = some v9) : Sub [(d0, v0), (d1, v1), (d2, v2), (d3, v3), (d4, v4), (d5, v5), (d6, v6), (d7, v7), (d8, v8), (d9, v9)] E := yc h0 (yc h1 (yc h2 (yc h3 (yc h4 (yc h5 (yc h6 (yc h7 (yc h8 (yc h9 yn)))))))))
section
variable {c : Cx} {E : Env} {L S : List Asn} {ops : Array Oper} {Q : Post} {q fuel : Nat} {listed : Array Bool} {d : Nat} {v : Value} {op : Op} {ty : TypeId} {pos : String} {aft : Array Edge}
theorem aq (i : Nat) (hi : ops[i]? = some ⟨some d, op, ty, pos, aft, none⟩) (hp : Zz c E S op v) (hS : ZaD S L) (hd : Nat.blt d c.n = true) (k : WA c ((d, v) :: E) L S ops Q q fuel (listed.setIfInBounds i true)) (ht : tk1 ops q listed i = true := by kernel_rfl) (hQ : ∀ p a w, Q (.panic p) (a.put (some d) v) w → Q (.panic p) a w := by exact fun _ _ _ h => h) : WA c E L S ops Q q (fuel + 1) listed := ZmL i hi hp hS hd ht hQ k
theorem an (i j : Nat) {dj : Nat} {oj : Oper} {b : Bool} (hi : ops[i]? = some ⟨some d, op, ty, pos, aft, some (j, b)⟩) (hj : ops[j]? = some oj) (hdj : oj.dst = some dj) (hv : lk E dj = some (.bool b)) (hp : Zz c E S op v) (hS : ZaD S L) (hd : Nat.blt d c.n = true) (k : WA c ((d, v) :: E) L S ops Q q fuel (listed.setIfInBounds i true)) (ht : tk1 ops q listed i = true := by kernel_rfl) (hQ : ∀ p a w, Q (.panic p) (a.put (some d) v) w → Q (.panic p) a w := by exact fun _ _ _ h => h) : WA c E L S ops Q q (fuel + 1) listed := ZsU i hi hj hdj hv hp hS hd ht hQ k
theorem af (i j : Nat) {dj : Nat} {oj : Oper} {b b' : Bool} (hi : ops[i]? = some ⟨some d, op, ty, pos, aft, some (j, b')⟩) (hj : ops[j]? = some oj) (hdj : oj.dst = some dj) (hv : lk E dj = some (.bool b)) (hb : (b == b') = false) (hS : ZaD S L) (hd : Nat.blt d c.n = true) (k : WA c ((d, undef) :: E) L S ops Q q fuel (listed.setIfInBounds i true)) (ht : tk1 ops q listed i = true := by kernel_rfl) (hQ : ∀ p a w, Q (.panic p) (a.put (some d) undef) w → Q (.panic p) a w := by exact fun _ _ _ h => h) : WA c E L S ops Q q (fuel + 1) listed := Zwm i hi hj hdj hv hb hS hd ht hQ k
theorem au (i j : Nat) {dj : Nat} {oj : Oper} {b' : Bool} (hi : ops[i]? = some ⟨some d, op, ty, pos, aft, some (j, b')⟩) (hj : ops[j]? = some oj) (hdj : oj.dst = some dj) (hv : lk E dj = some undef) (hS : ZaD S L) (hd : Nat.blt d c.n = true) (k : WA c ((d, undef) :: E) L S ops Q q fuel (listed.setIfInBounds i true)) (ht : tk1 ops q listed i = true := by kernel_rfl) (hQ : ∀ p a w, Q (.panic p) (a.put (some d) undef) w → Q (.panic p) a w := by exact fun _ _ _ h => h) : WA c E L S ops Q q (fuel + 1) listed := ZuE i hi hj hdj hv hS hd ht hQ k
theorem a1 (i : Nat) (h : WAs c E L S ops Q q fuel listed i) (hr : Region.ready .any ops listed = [i] := by kernel_rfl) : WA c E L S ops Q q (fuel + 1) listed := wa_1 hr h
theorem ae (k : WQ c E L Q .normal) (hr : Region.ready .any ops listed = [] := by kernel_rfl) : WA c E L S ops Q q fuel listed := Zsk hr k
end
abbrev hn : Hd := ⟨none, 0, 0⟩
abbrev iv (n : Int) : Value := .int .i64 n
theorem nl {a b : Nat} (h : Nat.ble a b = true) : a ≤ b := Nat.le_of_ble_eq_true h
theorem R {α : Sort _} {a : α} : a = a := rfl
theorem ra {α : Type} [Rep α] {w0 : World} {ex : List Nat} {L : List Asn} {v : Value} {us : List Value} {xs : List α} (h : RdL w0 (dm w0 ex) v us xs) {w : World} (hw : SH w0 ex L w) : RdL w (dm w []) v us xs := hw.rd_arg h
theorem ddt {p : Prop} [Decidable p] (h : p) : decide p = true := decide_eq_true h
theorem ddf {p : Prop} [Decidable p] (h : ¬ p) : decide p = false := decide_eq_false h
theorem oi {α : Type} {a b : α} (h : some a = some b) : a = b := Option.some.inj h
end Go.Proofs.YtjfjbgihojiijacGreatDoor
