/-
  No cell of these rows narrows 'for every input' (looked for: loops, veiled, ifaces, maps, wideKeys, modest, calm, conditions, laid).
  DERIVED. THE GIVEN ROWS OF THIS SEAT. 6 by the template 'for every input the law returns true; each argument reads behind the call as it read before'; 0 by the template 'total and deterministic' (their statements: YtnfdinafbfggeaaTotals.lean).
  GIVEN WITH THE SEED: the statements are not yours to turn. If you find one false, say at which input.
  Laid BY PROGRAM, IN A SANDBOX (cutbox-rows.mjs): the forced cells as the released guide's own fill.sh prints them over the translation 775666206fa9ab3e… (all of the seat's roots in one cut). By AI agents, Wed Nov 11 2026. No macro, syntax, notation, axiom, sorry.
-/
import Derived.Test.YtnfdinafbfggeaaChecked
import GoSem.Claim
import GoSem.ClaimJoined
import GoSem.ClaimMapViews
import Derived.JoinedTies
import Derived.KernelRfl
namespace Go.Proofs.Ytnfdinafbfggeaa
/- THE CELL 'sum', in the pinned program and in every row, IS THE sha256 OF THE DUMP (.gsa) THAT YtnfdinafbfggeaaProg.lean LOADS. Nothing in Lean hashes anything: it is a label: what it is worth is what the hold of that sum in a sandbox is worth. -/
noncomputable def Try.pinned : Pinned := { name := "ytnfdinafbfggeaa", sum := "775666206fa9ab3ee90f2bf8fe02b3ec05d003894d036ef692b70b1af6c737cd", checked := Try.checked }
namespace Rows
def none {H : Type} : Left H := { results := [], args := [] }

/-- 'laws.FnExactClothFor': WHATEVER THE INPUT: true; the input reads as it did. -/
def fnExactClothForSpec : ChangeSpec := { name := "fnExactClothFor", fn := fun _ => fun
  | [d] => { results := [.lit (.bool true)], args := [d] }
  | _ => none }
def fnExactClothForRow : OpenClaim := { program := "ytnfdinafbfggeaa", sum := "775666206fa9ab3ee90f2bf8fe02b3ec05d003894d036ef692b70b1af6c737cd", func := "loop.example/g03304/laws.FnExactClothFor", spec := "fnExactClothFor", unfollowed := true, recurses := true, apart := false }
def FnExactClothForSaid : Prop := fnExactClothForRow.holds Try.pinned (OpenSpec.ofChange fnExactClothForSpec)

/-- ITS FALSE NEIGHBOUR: 'it returns false'. Refute it at one input. -/
def fnExactClothForWrong : ChangeSpec := { name := "fnExactClothFor", fn := fun _ => fun
  | [d] => { results := [.lit (.bool false)], args := [d] }
  | _ => none }
def FnExactClothForWrongFalsely : Prop := fnExactClothForRow.holds Try.pinned (OpenSpec.ofChange fnExactClothForWrong)

/-- 'laws.FnExactWitnessOf': WHATEVER THE INPUT: true; the input reads as it did. -/
def fnExactWitnessOfSpec : ChangeSpec := { name := "fnExactWitnessOf", fn := fun _ => fun
  | [d1, d2] => { results := [.lit (.bool true)], args := [d1, d2] }
  | _ => none }
def fnExactWitnessOfRow : OpenClaim := { program := "ytnfdinafbfggeaa", sum := "775666206fa9ab3ee90f2bf8fe02b3ec05d003894d036ef692b70b1af6c737cd", func := "loop.example/g03304/laws.FnExactWitnessOf", spec := "fnExactWitnessOf", unfollowed := true, recurses := true, apart := false }
def FnExactWitnessOfSaid : Prop := fnExactWitnessOfRow.holds Try.pinned (OpenSpec.ofChange fnExactWitnessOfSpec)

/-- ITS FALSE NEIGHBOUR: 'it returns false'. Refute it at one input. -/
def fnExactWitnessOfWrong : ChangeSpec := { name := "fnExactWitnessOf", fn := fun _ => fun
  | [d1, d2] => { results := [.lit (.bool false)], args := [d1, d2] }
  | _ => none }
def FnExactWitnessOfWrongFalsely : Prop := fnExactWitnessOfRow.holds Try.pinned (OpenSpec.ofChange fnExactWitnessOfWrong)

/-- 'laws.FnExactColorSymmetries': WHATEVER THE INPUT: true; the input reads as it did. -/
def fnExactColorSymmetriesSpec : ChangeSpec := { name := "fnExactColorSymmetries", fn := fun _ => fun
  | [d] => { results := [.lit (.bool true)], args := [d] }
  | _ => none }
def fnExactColorSymmetriesRow : OpenClaim := { program := "ytnfdinafbfggeaa", sum := "775666206fa9ab3ee90f2bf8fe02b3ec05d003894d036ef692b70b1af6c737cd", func := "loop.example/g03304/laws.FnExactColorSymmetries", spec := "fnExactColorSymmetries", unfollowed := true, recurses := true, apart := false }
def FnExactColorSymmetriesSaid : Prop := fnExactColorSymmetriesRow.holds Try.pinned (OpenSpec.ofChange fnExactColorSymmetriesSpec)

/-- ITS FALSE NEIGHBOUR: 'it returns false'. Refute it at one input. -/
def fnExactColorSymmetriesWrong : ChangeSpec := { name := "fnExactColorSymmetries", fn := fun _ => fun
  | [d] => { results := [.lit (.bool false)], args := [d] }
  | _ => none }
def FnExactColorSymmetriesWrongFalsely : Prop := fnExactColorSymmetriesRow.holds Try.pinned (OpenSpec.ofChange fnExactColorSymmetriesWrong)

/-- 'laws.FnExactCountMotifs': WHATEVER THE INPUT: true; the input reads as it did. -/
def fnExactCountMotifsSpec : ChangeSpec := { name := "fnExactCountMotifs", fn := fun _ => fun
  | [d1, d2] => { results := [.lit (.bool true)], args := [d1, d2] }
  | _ => none }
def fnExactCountMotifsRow : OpenClaim := { program := "ytnfdinafbfggeaa", sum := "775666206fa9ab3ee90f2bf8fe02b3ec05d003894d036ef692b70b1af6c737cd", func := "loop.example/g03304/laws.FnExactCountMotifs", spec := "fnExactCountMotifs", unfollowed := true, recurses := true, apart := false }
def FnExactCountMotifsSaid : Prop := fnExactCountMotifsRow.holds Try.pinned (OpenSpec.ofChange fnExactCountMotifsSpec)

/-- ITS FALSE NEIGHBOUR: 'it returns false'. Refute it at one input. -/
def fnExactCountMotifsWrong : ChangeSpec := { name := "fnExactCountMotifs", fn := fun _ => fun
  | [d1, d2] => { results := [.lit (.bool false)], args := [d1, d2] }
  | _ => none }
def FnExactCountMotifsWrongFalsely : Prop := fnExactCountMotifsRow.holds Try.pinned (OpenSpec.ofChange fnExactCountMotifsWrong)

/-- 'laws.FnExactSharedCloth': WHATEVER THE INPUT: true; the input reads as it did. -/
def fnExactSharedClothSpec : ChangeSpec := { name := "fnExactSharedCloth", fn := fun _ => fun
  | [d1, d2] => { results := [.lit (.bool true)], args := [d1, d2] }
  | _ => none }
def fnExactSharedClothRow : OpenClaim := { program := "ytnfdinafbfggeaa", sum := "775666206fa9ab3ee90f2bf8fe02b3ec05d003894d036ef692b70b1af6c737cd", func := "loop.example/g03304/laws.FnExactSharedCloth", spec := "fnExactSharedCloth", unfollowed := true, recurses := true, apart := false }
def FnExactSharedClothSaid : Prop := fnExactSharedClothRow.holds Try.pinned (OpenSpec.ofChange fnExactSharedClothSpec)

/-- ITS FALSE NEIGHBOUR: 'it returns false'. Refute it at one input. -/
def fnExactSharedClothWrong : ChangeSpec := { name := "fnExactSharedCloth", fn := fun _ => fun
  | [d1, d2] => { results := [.lit (.bool false)], args := [d1, d2] }
  | _ => none }
def FnExactSharedClothWrongFalsely : Prop := fnExactSharedClothRow.holds Try.pinned (OpenSpec.ofChange fnExactSharedClothWrong)

/-- 'laws.FnExactShiftsOf': WHATEVER THE INPUT: true; the input reads as it did. -/
def fnExactShiftsOfSpec : ChangeSpec := { name := "fnExactShiftsOf", fn := fun _ => fun
  | [d1, d2] => { results := [.lit (.bool true)], args := [d1, d2] }
  | _ => none }
def fnExactShiftsOfRow : OpenClaim := { program := "ytnfdinafbfggeaa", sum := "775666206fa9ab3ee90f2bf8fe02b3ec05d003894d036ef692b70b1af6c737cd", func := "loop.example/g03304/laws.FnExactShiftsOf", spec := "fnExactShiftsOf", unfollowed := true, recurses := true, apart := false }
def FnExactShiftsOfSaid : Prop := fnExactShiftsOfRow.holds Try.pinned (OpenSpec.ofChange fnExactShiftsOfSpec)

/-- ITS FALSE NEIGHBOUR: 'it returns false'. Refute it at one input. -/
def fnExactShiftsOfWrong : ChangeSpec := { name := "fnExactShiftsOf", fn := fun _ => fun
  | [d1, d2] => { results := [.lit (.bool false)], args := [d1, d2] }
  | _ => none }
def FnExactShiftsOfWrongFalsely : Prop := fnExactShiftsOfRow.holds Try.pinned (OpenSpec.ofChange fnExactShiftsOfWrong)

/- THE SECOND FORM. 'bulk': how many values and letters a reading holds, each counted each time it is reached (what is shared counts as often as it is met; a slice's spare places count too). A statement '..UptoSaid' is the law's where the arguments, and the package variables that the reading takes, are together of bulk at most 1048576: NARROWER than '..Said'. Prove '..Said' where nothing that the law and all that it calls make is longer than what came in: it says more and counts as full. Else prove '..UptoSaid'. A law counts once. -/
mutual
def uptoBulk {H : Type} : DataW H → Nat
  | .lit (.string bytes) => bytes.length + 1
  | .lit _ => 1
  | .nil => 1
  | .ptr d => uptoBulk d + 1
  | .slice elems spare => uptoBulkAll elems + uptoBulkAll spare + 1
  | .agg parts => uptoBulkAll parts + 1
  | .iface _ d => uptoBulk d + 1
  | .map entries => uptoBulkEntries entries + 1
  | .held _ => 1
def uptoBulkAll {H : Type} : List (DataW H) → Nat
  | [] => 0
  | d :: r => uptoBulk d + uptoBulkAll r
def uptoBulkEntries {H : Type} : List (Lit × DataW H) → Nat
  | [] => 0
  | x :: r => uptoBulkEntry x + uptoBulkEntries r
def uptoBulkEntry {H : Type} : Lit × DataW H → Nat
  | (.string bytes, d) => bytes.length + uptoBulk d + 1
  | (_, d) => uptoBulk d + 1
 end
def uptoSmall : (H : Type) → List (DataW H) → Bool := fun _ ds => decide (uptoBulkAll ds ≤ 1048576)
def OpenSpec.upto (s : _root_.Go.ChangeSpec) : _root_.Go.OpenSpec := { _root_.Go.OpenSpec.ofChange s with cond := some uptoSmall }

/-- 'laws.FnExactClothFor', WHERE WHAT IT READS IS OF BULK AT MOST 1048576: true; the input reads as it did. -/
def fnExactClothForUptoRow : OpenClaim := { program := "ytnfdinafbfggeaa", sum := "775666206fa9ab3ee90f2bf8fe02b3ec05d003894d036ef692b70b1af6c737cd", func := "loop.example/g03304/laws.FnExactClothFor", spec := "fnExactClothFor", unfollowed := true, recurses := true, apart := false, narrowed := true }
def FnExactClothForUptoSaid : Prop := fnExactClothForUptoRow.holds Try.pinned (OpenSpec.upto fnExactClothForSpec)

/-- 'laws.FnExactWitnessOf', WHERE WHAT IT READS IS OF BULK AT MOST 1048576: true; the input reads as it did. -/
def fnExactWitnessOfUptoRow : OpenClaim := { program := "ytnfdinafbfggeaa", sum := "775666206fa9ab3ee90f2bf8fe02b3ec05d003894d036ef692b70b1af6c737cd", func := "loop.example/g03304/laws.FnExactWitnessOf", spec := "fnExactWitnessOf", unfollowed := true, recurses := true, apart := false, narrowed := true }
def FnExactWitnessOfUptoSaid : Prop := fnExactWitnessOfUptoRow.holds Try.pinned (OpenSpec.upto fnExactWitnessOfSpec)

/-- 'laws.FnExactColorSymmetries', WHERE WHAT IT READS IS OF BULK AT MOST 1048576: true; the input reads as it did. -/
def fnExactColorSymmetriesUptoRow : OpenClaim := { program := "ytnfdinafbfggeaa", sum := "775666206fa9ab3ee90f2bf8fe02b3ec05d003894d036ef692b70b1af6c737cd", func := "loop.example/g03304/laws.FnExactColorSymmetries", spec := "fnExactColorSymmetries", unfollowed := true, recurses := true, apart := false, narrowed := true }
def FnExactColorSymmetriesUptoSaid : Prop := fnExactColorSymmetriesUptoRow.holds Try.pinned (OpenSpec.upto fnExactColorSymmetriesSpec)

/-- 'laws.FnExactCountMotifs', WHERE WHAT IT READS IS OF BULK AT MOST 1048576: true; the input reads as it did. -/
def fnExactCountMotifsUptoRow : OpenClaim := { program := "ytnfdinafbfggeaa", sum := "775666206fa9ab3ee90f2bf8fe02b3ec05d003894d036ef692b70b1af6c737cd", func := "loop.example/g03304/laws.FnExactCountMotifs", spec := "fnExactCountMotifs", unfollowed := true, recurses := true, apart := false, narrowed := true }
def FnExactCountMotifsUptoSaid : Prop := fnExactCountMotifsUptoRow.holds Try.pinned (OpenSpec.upto fnExactCountMotifsSpec)

/-- 'laws.FnExactSharedCloth', WHERE WHAT IT READS IS OF BULK AT MOST 1048576: true; the input reads as it did. -/
def fnExactSharedClothUptoRow : OpenClaim := { program := "ytnfdinafbfggeaa", sum := "775666206fa9ab3ee90f2bf8fe02b3ec05d003894d036ef692b70b1af6c737cd", func := "loop.example/g03304/laws.FnExactSharedCloth", spec := "fnExactSharedCloth", unfollowed := true, recurses := true, apart := false, narrowed := true }
def FnExactSharedClothUptoSaid : Prop := fnExactSharedClothUptoRow.holds Try.pinned (OpenSpec.upto fnExactSharedClothSpec)

/-- 'laws.FnExactShiftsOf', WHERE WHAT IT READS IS OF BULK AT MOST 1048576: true; the input reads as it did. -/
def fnExactShiftsOfUptoRow : OpenClaim := { program := "ytnfdinafbfggeaa", sum := "775666206fa9ab3ee90f2bf8fe02b3ec05d003894d036ef692b70b1af6c737cd", func := "loop.example/g03304/laws.FnExactShiftsOf", spec := "fnExactShiftsOf", unfollowed := true, recurses := true, apart := false, narrowed := true }
def FnExactShiftsOfUptoSaid : Prop := fnExactShiftsOfUptoRow.holds Try.pinned (OpenSpec.upto fnExactShiftsOfSpec)

end Rows
end Go.Proofs.Ytnfdinafbfggeaa
