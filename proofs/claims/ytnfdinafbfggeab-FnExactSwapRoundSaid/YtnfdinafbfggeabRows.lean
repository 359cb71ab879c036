/-
  No cell of these rows narrows 'for every input' (looked for: loops, veiled, ifaces, maps, wideKeys, modest, calm, conditions, laid).
  DERIVED. THE GIVEN ROWS OF THIS SEAT. 6 by the template 'for every input the law returns true; each argument reads behind the call as it read before'; 0 by the template 'total and deterministic' (their statements: YtnfdinafbfggeabTotals.lean).
  GIVEN WITH THE SEED: the statements are not yours to turn. If you find one false, say at which input.
  Laid BY PROGRAM, IN A SANDBOX (cutbox-rows.mjs): the forced cells as the released guide's own fill.sh prints them over the translation ea5582620f58f09c… (all of the seat's roots in one cut). By AI agents, Wed Nov 11 2026. No macro, syntax, notation, axiom, sorry.
-/
import Derived.Test.YtnfdinafbfggeabChecked
import GoSem.Claim
import GoSem.ClaimJoined
import GoSem.ClaimMapViews
import Derived.JoinedTies
import Derived.KernelRfl
namespace Go.Proofs.Ytnfdinafbfggeab
/- THE CELL 'sum', in the pinned program and in every row, IS THE sha256 OF THE DUMP (.gsa) THAT YtnfdinafbfggeabProg.lean LOADS. Nothing in Lean hashes anything: it is a label: what it is worth is what the hold of that sum in a sandbox is worth. -/
noncomputable def Try.pinned : Pinned := { name := "ytnfdinafbfggeab", sum := "ea5582620f58f09cfafa5bf9acc0c01207381d77486b998529df7aec136990ce", checked := Try.checked }
namespace Rows
def none {H : Type} : Left H := { results := [], args := [] }

/-- 'laws.FnExactPatternLikeness': WHATEVER THE INPUT: true; the input reads as it did. -/
def fnExactPatternLikenessSpec : ChangeSpec := { name := "fnExactPatternLikeness", fn := fun _ => fun
  | [d1, d2] => { results := [.lit (.bool true)], args := [d1, d2] }
  | _ => none }
def fnExactPatternLikenessRow : OpenClaim := { program := "ytnfdinafbfggeab", sum := "ea5582620f58f09cfafa5bf9acc0c01207381d77486b998529df7aec136990ce", func := "loop.example/g03304/laws.FnExactPatternLikeness", spec := "fnExactPatternLikeness", unfollowed := true, recurses := true, apart := false }
def FnExactPatternLikenessSaid : Prop := fnExactPatternLikenessRow.holds Try.pinned (OpenSpec.ofChange fnExactPatternLikenessSpec)

/-- ITS FALSE NEIGHBOUR: 'it returns false'. Refute it at one input. -/
def fnExactPatternLikenessWrong : ChangeSpec := { name := "fnExactPatternLikeness", fn := fun _ => fun
  | [d1, d2] => { results := [.lit (.bool false)], args := [d1, d2] }
  | _ => none }
def FnExactPatternLikenessWrongFalsely : Prop := fnExactPatternLikenessRow.holds Try.pinned (OpenSpec.ofChange fnExactPatternLikenessWrong)

/-- 'laws.FnExactSampleGuild': WHATEVER THE INPUT: true; the input reads as it did. -/
def fnExactSampleGuildSpec : ChangeSpec := { name := "fnExactSampleGuild", fn := fun _ => fun
  | [] => { results := [.lit (.bool true)], args := [] }
  | _ => none }
def fnExactSampleGuildRow : OpenClaim := { program := "ytnfdinafbfggeab", sum := "ea5582620f58f09cfafa5bf9acc0c01207381d77486b998529df7aec136990ce", func := "loop.example/g03304/laws.FnExactSampleGuild", spec := "fnExactSampleGuild", apart := false }
def FnExactSampleGuildSaid : Prop := fnExactSampleGuildRow.holds Try.pinned (OpenSpec.ofChange fnExactSampleGuildSpec)

/-- ITS FALSE NEIGHBOUR: 'it returns false'. Refute it at one input. -/
def fnExactSampleGuildWrong : ChangeSpec := { name := "fnExactSampleGuild", fn := fun _ => fun
  | [] => { results := [.lit (.bool false)], args := [] }
  | _ => none }
def FnExactSampleGuildWrongFalsely : Prop := fnExactSampleGuildRow.holds Try.pinned (OpenSpec.ofChange fnExactSampleGuildWrong)

/-- 'laws.FnExactSwapRound': WHATEVER THE INPUT: true; the input reads as it did. -/
def fnExactSwapRoundSpec : ChangeSpec := { name := "fnExactSwapRound", fn := fun _ => fun
  | [d] => { results := [.lit (.bool true)], args := [d] }
  | _ => none }
def fnExactSwapRoundRow : OpenClaim := { program := "ytnfdinafbfggeab", sum := "ea5582620f58f09cfafa5bf9acc0c01207381d77486b998529df7aec136990ce", func := "loop.example/g03304/laws.FnExactSwapRound", spec := "fnExactSwapRound", apart := false }
def FnExactSwapRoundSaid : Prop := fnExactSwapRoundRow.holds Try.pinned (OpenSpec.ofChange fnExactSwapRoundSpec)

/-- ITS FALSE NEIGHBOUR: 'it returns false'. Refute it at one input. -/
def fnExactSwapRoundWrong : ChangeSpec := { name := "fnExactSwapRound", fn := fun _ => fun
  | [d] => { results := [.lit (.bool false)], args := [d] }
  | _ => none }
def FnExactSwapRoundWrongFalsely : Prop := fnExactSwapRoundRow.holds Try.pinned (OpenSpec.ofChange fnExactSwapRoundWrong)

/-- 'laws.FnExactNewYear': WHATEVER THE INPUT: true; the input reads as it did. -/
def fnExactNewYearSpec : ChangeSpec := { name := "fnExactNewYear", fn := fun _ => fun
  | [d] => { results := [.lit (.bool true)], args := [d] }
  | _ => none }
def fnExactNewYearRow : OpenClaim := { program := "ytnfdinafbfggeab", sum := "ea5582620f58f09cfafa5bf9acc0c01207381d77486b998529df7aec136990ce", func := "loop.example/g03304/laws.FnExactNewYear", spec := "fnExactNewYear", apart := false }
def FnExactNewYearSaid : Prop := fnExactNewYearRow.holds Try.pinned (OpenSpec.ofChange fnExactNewYearSpec)

/-- ITS FALSE NEIGHBOUR: 'it returns false'. Refute it at one input. -/
def fnExactNewYearWrong : ChangeSpec := { name := "fnExactNewYear", fn := fun _ => fun
  | [d] => { results := [.lit (.bool false)], args := [d] }
  | _ => none }
def FnExactNewYearWrongFalsely : Prop := fnExactNewYearRow.holds Try.pinned (OpenSpec.ofChange fnExactNewYearWrong)

/-- 'laws.FnExactSewBlock': WHATEVER THE INPUT: true; the input reads as it did. -/
def fnExactSewBlockSpec : ChangeSpec := { name := "fnExactSewBlock", fn := fun _ => fun
  | [d1, d2] => { results := [.lit (.bool true)], args := [d1, d2] }
  | _ => none }
def fnExactSewBlockRow : OpenClaim := { program := "ytnfdinafbfggeab", sum := "ea5582620f58f09cfafa5bf9acc0c01207381d77486b998529df7aec136990ce", func := "loop.example/g03304/laws.FnExactSewBlock", spec := "fnExactSewBlock", apart := false }
def FnExactSewBlockSaid : Prop := fnExactSewBlockRow.holds Try.pinned (OpenSpec.ofChange fnExactSewBlockSpec)

/-- ITS FALSE NEIGHBOUR: 'it returns false'. Refute it at one input. -/
def fnExactSewBlockWrong : ChangeSpec := { name := "fnExactSewBlock", fn := fun _ => fun
  | [d1, d2] => { results := [.lit (.bool false)], args := [d1, d2] }
  | _ => none }
def FnExactSewBlockWrongFalsely : Prop := fnExactSewBlockRow.holds Try.pinned (OpenSpec.ofChange fnExactSewBlockWrong)

/-- 'laws.FnExactAdmit': WHATEVER THE INPUT: true; the input reads as it did. -/
def fnExactAdmitSpec : ChangeSpec := { name := "fnExactAdmit", fn := fun _ => fun
  | [d1, d2] => { results := [.lit (.bool true)], args := [d1, d2] }
  | _ => none }
def fnExactAdmitRow : OpenClaim := { program := "ytnfdinafbfggeab", sum := "ea5582620f58f09cfafa5bf9acc0c01207381d77486b998529df7aec136990ce", func := "loop.example/g03304/laws.FnExactAdmit", spec := "fnExactAdmit", apart := false }
def FnExactAdmitSaid : Prop := fnExactAdmitRow.holds Try.pinned (OpenSpec.ofChange fnExactAdmitSpec)

/-- ITS FALSE NEIGHBOUR: 'it returns false'. Refute it at one input. -/
def fnExactAdmitWrong : ChangeSpec := { name := "fnExactAdmit", fn := fun _ => fun
  | [d1, d2] => { results := [.lit (.bool false)], args := [d1, d2] }
  | _ => none }
def FnExactAdmitWrongFalsely : Prop := fnExactAdmitRow.holds Try.pinned (OpenSpec.ofChange fnExactAdmitWrong)

/- THE SECOND FORM. 'bulk': how many values and letters a reading holds, each counted each time it is reached (what is shared counts as often as it is met; a slice's spare places count too). A statement '..UptoSaid' is the law's where the arguments, and the package variables that the reading takes, are together of bulk at most 1048576: NARROWER than '..Said'. Prove '..Said' where nothing that the law and all that it calls make is longer than what came in: it says more and counts as full. Else prove '..UptoSaid'. A law counts once. -/
mutual
def uptoBulk {H : Type} : DataW H → Nat
  | .lit (.string bytes) => bytes.length + 1
  | .lit _ => 1
  | .nil => 1
  | .ptr d => uptoBulk d + 1
  | .slice elems spare => uptoBulkAll elems + uptoBulkAll spare + 1
  | .agg parts => uptoBulkAll parts + 1
  | .iface _ d => uptoBulk d + 1
  | .map entries => uptoBulkEntries entries + 1
  | .held _ => 1
def uptoBulkAll {H : Type} : List (DataW H) → Nat
  | [] => 0
  | d :: r => uptoBulk d + uptoBulkAll r
def uptoBulkEntries {H : Type} : List (Lit × DataW H) → Nat
  | [] => 0
  | x :: r => uptoBulkEntry x + uptoBulkEntries r
def uptoBulkEntry {H : Type} : Lit × DataW H → Nat
  | (.string bytes, d) => bytes.length + uptoBulk d + 1
  | (_, d) => uptoBulk d + 1
 end
def uptoSmall : (H : Type) → List (DataW H) → Bool := fun _ ds => decide (uptoBulkAll ds ≤ 1048576)
def OpenSpec.upto (s : _root_.Go.ChangeSpec) : _root_.Go.OpenSpec := { _root_.Go.OpenSpec.ofChange s with cond := some uptoSmall }

/-- 'laws.FnExactPatternLikeness', WHERE WHAT IT READS IS OF BULK AT MOST 1048576: true; the input reads as it did. -/
def fnExactPatternLikenessUptoRow : OpenClaim := { program := "ytnfdinafbfggeab", sum := "ea5582620f58f09cfafa5bf9acc0c01207381d77486b998529df7aec136990ce", func := "loop.example/g03304/laws.FnExactPatternLikeness", spec := "fnExactPatternLikeness", unfollowed := true, recurses := true, apart := false, narrowed := true }
def FnExactPatternLikenessUptoSaid : Prop := fnExactPatternLikenessUptoRow.holds Try.pinned (OpenSpec.upto fnExactPatternLikenessSpec)

/-- 'laws.FnExactSampleGuild', WHERE WHAT IT READS IS OF BULK AT MOST 1048576: true; the input reads as it did. -/
def fnExactSampleGuildUptoRow : OpenClaim := { program := "ytnfdinafbfggeab", sum := "ea5582620f58f09cfafa5bf9acc0c01207381d77486b998529df7aec136990ce", func := "loop.example/g03304/laws.FnExactSampleGuild", spec := "fnExactSampleGuild", apart := false, narrowed := true }
def FnExactSampleGuildUptoSaid : Prop := fnExactSampleGuildUptoRow.holds Try.pinned (OpenSpec.upto fnExactSampleGuildSpec)

/-- 'laws.FnExactSwapRound', WHERE WHAT IT READS IS OF BULK AT MOST 1048576: true; the input reads as it did. -/
def fnExactSwapRoundUptoRow : OpenClaim := { program := "ytnfdinafbfggeab", sum := "ea5582620f58f09cfafa5bf9acc0c01207381d77486b998529df7aec136990ce", func := "loop.example/g03304/laws.FnExactSwapRound", spec := "fnExactSwapRound", apart := false, narrowed := true }
def FnExactSwapRoundUptoSaid : Prop := fnExactSwapRoundUptoRow.holds Try.pinned (OpenSpec.upto fnExactSwapRoundSpec)

/-- 'laws.FnExactNewYear', WHERE WHAT IT READS IS OF BULK AT MOST 1048576: true; the input reads as it did. -/
def fnExactNewYearUptoRow : OpenClaim := { program := "ytnfdinafbfggeab", sum := "ea5582620f58f09cfafa5bf9acc0c01207381d77486b998529df7aec136990ce", func := "loop.example/g03304/laws.FnExactNewYear", spec := "fnExactNewYear", apart := false, narrowed := true }
def FnExactNewYearUptoSaid : Prop := fnExactNewYearUptoRow.holds Try.pinned (OpenSpec.upto fnExactNewYearSpec)

/-- 'laws.FnExactSewBlock', WHERE WHAT IT READS IS OF BULK AT MOST 1048576: true; the input reads as it did. -/
def fnExactSewBlockUptoRow : OpenClaim := { program := "ytnfdinafbfggeab", sum := "ea5582620f58f09cfafa5bf9acc0c01207381d77486b998529df7aec136990ce", func := "loop.example/g03304/laws.FnExactSewBlock", spec := "fnExactSewBlock", apart := false, narrowed := true }
def FnExactSewBlockUptoSaid : Prop := fnExactSewBlockUptoRow.holds Try.pinned (OpenSpec.upto fnExactSewBlockSpec)

/-- 'laws.FnExactAdmit', WHERE WHAT IT READS IS OF BULK AT MOST 1048576: true; the input reads as it did. -/
def fnExactAdmitUptoRow : OpenClaim := { program := "ytnfdinafbfggeab", sum := "ea5582620f58f09cfafa5bf9acc0c01207381d77486b998529df7aec136990ce", func := "loop.example/g03304/laws.FnExactAdmit", spec := "fnExactAdmit", apart := false, narrowed := true }
def FnExactAdmitUptoSaid : Prop := fnExactAdmitUptoRow.holds Try.pinned (OpenSpec.upto fnExactAdmitSpec)

end Rows
end Go.Proofs.Ytnfdinafbfggeab
