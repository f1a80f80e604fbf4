/-
  No cell of these rows narrows 'for every input' (looked for: loops, veiled, ifaces, maps, wideKeys, modest, calm, conditions, laid).
  DERIVED. THE GIVEN ROWS OF THIS SEAT. 7 by the template 'for every input the law returns true; each argument reads behind the call as it read before'; 0 by the template 'total and deterministic' (their statements: YtbhlmeghbfmgiaaTotals.lean).
  GIVEN WITH THE SEED: the statements are not yours to turn. If you find one false, say at which input.
  Laid BY PROGRAM, IN A SANDBOX (cutbox-rows.mjs): the forced cells as the released guide's own fill.sh prints them over the translation aa3956291f5b9abe… (all of the seat's roots in one cut). By AI agents, Wed Nov 11 2026. No macro, syntax, notation, axiom, sorry.
-/
import Derived.Test.YtbhlmeghbfmgiaaChecked
import GoSem.Claim
import GoSem.ClaimJoined
import GoSem.ClaimMapViews
import Derived.JoinedTies
import Derived.KernelRfl
namespace Go.Proofs.Ytbhlmeghbfmgiaa
/- THE CELL 'sum', in the pinned program and in every row, IS THE sha256 OF THE DUMP (.gsa) THAT YtbhlmeghbfmgiaaProg.lean LOADS. Nothing in Lean hashes anything: it is a label: what it is worth is what the hold of that sum in a sandbox is worth. -/
noncomputable def Try.pinned : Pinned := { name := "ytbhlmeghbfmgiaa", sum := "aa3956291f5b9abe7f40587848927d6a0d26e38582d754ccd7aa3f65401e0245", checked := Try.checked }
namespace Rows
def none {H : Type} : Left H := { results := [], args := [] }

/-- 'laws.FnScores': WHATEVER THE INPUT: true; the input reads as it did. -/
def fnScoresSpec : ChangeSpec := { name := "fnScores", fn := fun _ => fun
  | [d] => { results := [.lit (.bool true)], args := [d] }
  | _ => none }
def fnScoresRow : OpenClaim := { program := "ytbhlmeghbfmgiaa", sum := "aa3956291f5b9abe7f40587848927d6a0d26e38582d754ccd7aa3f65401e0245", func := "loop.example/g03004/laws.FnScores", spec := "fnScores", inPlace := ["slices.overlaps[loop.example/g03004/impl.Event]"], unfollowed := true, recurses := true, apart := false }
def FnScoresSaid : Prop := fnScoresRow.holds Try.pinned (OpenSpec.ofChange fnScoresSpec)

/-- ITS FALSE NEIGHBOUR: 'it returns false'. Refute it at one input. -/
def fnScoresWrong : ChangeSpec := { name := "fnScores", fn := fun _ => fun
  | [d] => { results := [.lit (.bool false)], args := [d] }
  | _ => none }
def FnScoresWrongFalsely : Prop := fnScoresRow.holds Try.pinned (OpenSpec.ofChange fnScoresWrong)

/-- 'laws.FnPerformances': WHATEVER THE INPUT: true; the input reads as it did. -/
def fnPerformancesSpec : ChangeSpec := { name := "fnPerformances", fn := fun _ => fun
  | [d] => { results := [.lit (.bool true)], args := [d] }
  | _ => none }
def fnPerformancesRow : OpenClaim := { program := "ytbhlmeghbfmgiaa", sum := "aa3956291f5b9abe7f40587848927d6a0d26e38582d754ccd7aa3f65401e0245", func := "loop.example/g03004/laws.FnPerformances", spec := "fnPerformances", unfollowed := true, recurses := true, apart := false }
def FnPerformancesSaid : Prop := fnPerformancesRow.holds Try.pinned (OpenSpec.ofChange fnPerformancesSpec)

/-- ITS FALSE NEIGHBOUR: 'it returns false'. Refute it at one input. -/
def fnPerformancesWrong : ChangeSpec := { name := "fnPerformances", fn := fun _ => fun
  | [d] => { results := [.lit (.bool false)], args := [d] }
  | _ => none }
def FnPerformancesWrongFalsely : Prop := fnPerformancesRow.holds Try.pinned (OpenSpec.ofChange fnPerformancesWrong)

/-- 'laws.FnSlips': WHATEVER THE INPUT: true; the input reads as it did. -/
def fnSlipsSpec : ChangeSpec := { name := "fnSlips", fn := fun _ => fun
  | [d] => { results := [.lit (.bool true)], args := [d] }
  | _ => none }
def fnSlipsRow : OpenClaim := { program := "ytbhlmeghbfmgiaa", sum := "aa3956291f5b9abe7f40587848927d6a0d26e38582d754ccd7aa3f65401e0245", func := "loop.example/g03004/laws.FnSlips", spec := "fnSlips", inPlace := ["slices.overlaps[int]"], apart := false }
def FnSlipsSaid : Prop := fnSlipsRow.holds Try.pinned (OpenSpec.ofChange fnSlipsSpec)

/-- ITS FALSE NEIGHBOUR: 'it returns false'. Refute it at one input. -/
def fnSlipsWrong : ChangeSpec := { name := "fnSlips", fn := fun _ => fun
  | [d] => { results := [.lit (.bool false)], args := [d] }
  | _ => none }
def FnSlipsWrongFalsely : Prop := fnSlipsRow.holds Try.pinned (OpenSpec.ofChange fnSlipsWrong)

/-- 'laws.FnMoves': WHATEVER THE INPUT: true; the input reads as it did. -/
def fnMovesSpec : ChangeSpec := { name := "fnMoves", fn := fun _ => fun
  | [d] => { results := [.lit (.bool true)], args := [d] }
  | _ => none }
def fnMovesRow : OpenClaim := { program := "ytbhlmeghbfmgiaa", sum := "aa3956291f5b9abe7f40587848927d6a0d26e38582d754ccd7aa3f65401e0245", func := "loop.example/g03004/laws.FnMoves", spec := "fnMoves", apart := false }
def FnMovesSaid : Prop := fnMovesRow.holds Try.pinned (OpenSpec.ofChange fnMovesSpec)

/-- ITS FALSE NEIGHBOUR: 'it returns false'. Refute it at one input. -/
def fnMovesWrong : ChangeSpec := { name := "fnMoves", fn := fun _ => fun
  | [d] => { results := [.lit (.bool false)], args := [d] }
  | _ => none }
def FnMovesWrongFalsely : Prop := fnMovesRow.holds Try.pinned (OpenSpec.ofChange fnMovesWrong)

/-- 'laws.FnBars': WHATEVER THE INPUT: true; the input reads as it did. -/
def fnBarsSpec : ChangeSpec := { name := "fnBars", fn := fun _ => fun
  | [d] => { results := [.lit (.bool true)], args := [d] }
  | _ => none }
def fnBarsRow : OpenClaim := { program := "ytbhlmeghbfmgiaa", sum := "aa3956291f5b9abe7f40587848927d6a0d26e38582d754ccd7aa3f65401e0245", func := "loop.example/g03004/laws.FnBars", spec := "fnBars", apart := false }
def FnBarsSaid : Prop := fnBarsRow.holds Try.pinned (OpenSpec.ofChange fnBarsSpec)

/-- ITS FALSE NEIGHBOUR: 'it returns false'. Refute it at one input. -/
def fnBarsWrong : ChangeSpec := { name := "fnBars", fn := fun _ => fun
  | [d] => { results := [.lit (.bool false)], args := [d] }
  | _ => none }
def FnBarsWrongFalsely : Prop := fnBarsRow.holds Try.pinned (OpenSpec.ofChange fnBarsWrong)

/-- 'laws.FnTempos': WHATEVER THE INPUT: true; the input reads as it did. -/
def fnTemposSpec : ChangeSpec := { name := "fnTempos", fn := fun _ => fun
  | [d] => { results := [.lit (.bool true)], args := [d] }
  | _ => none }
def fnTemposRow : OpenClaim := { program := "ytbhlmeghbfmgiaa", sum := "aa3956291f5b9abe7f40587848927d6a0d26e38582d754ccd7aa3f65401e0245", func := "loop.example/g03004/laws.FnTempos", spec := "fnTempos", apart := false }
def FnTemposSaid : Prop := fnTemposRow.holds Try.pinned (OpenSpec.ofChange fnTemposSpec)

/-- ITS FALSE NEIGHBOUR: 'it returns false'. Refute it at one input. -/
def fnTemposWrong : ChangeSpec := { name := "fnTempos", fn := fun _ => fun
  | [d] => { results := [.lit (.bool false)], args := [d] }
  | _ => none }
def FnTemposWrongFalsely : Prop := fnTemposRow.holds Try.pinned (OpenSpec.ofChange fnTemposWrong)

/-- 'laws.FnWholeParts': WHATEVER THE INPUT: true; the input reads as it did. -/
def fnWholePartsSpec : ChangeSpec := { name := "fnWholeParts", fn := fun _ => fun
  | [d] => { results := [.lit (.bool true)], args := [d] }
  | _ => none }
def fnWholePartsRow : OpenClaim := { program := "ytbhlmeghbfmgiaa", sum := "aa3956291f5b9abe7f40587848927d6a0d26e38582d754ccd7aa3f65401e0245", func := "loop.example/g03004/laws.FnWholeParts", spec := "fnWholeParts", unfollowed := true, recurses := true, apart := false }
def FnWholePartsSaid : Prop := fnWholePartsRow.holds Try.pinned (OpenSpec.ofChange fnWholePartsSpec)

/-- ITS FALSE NEIGHBOUR: 'it returns false'. Refute it at one input. -/
def fnWholePartsWrong : ChangeSpec := { name := "fnWholeParts", fn := fun _ => fun
  | [d] => { results := [.lit (.bool false)], args := [d] }
  | _ => none }
def FnWholePartsWrongFalsely : Prop := fnWholePartsRow.holds Try.pinned (OpenSpec.ofChange fnWholePartsWrong)

/- THE SECOND FORM. 'bulk': how many values and letters a reading holds, each counted each time it is reached (what is shared counts as often as it is met; a slice's spare places count too). A statement '..UptoSaid' is the law's where the arguments, and the package variables that the reading takes, are together of bulk at most 1048576: NARROWER than '..Said'. Prove '..Said' where nothing that the law and all that it calls make is longer than what came in: it says more and counts as full. Else prove '..UptoSaid'. A law counts once. -/
mutual
def uptoBulk {H : Type} : DataW H → Nat
  | .lit (.string bytes) => bytes.length + 1
  | .lit _ => 1
  | .nil => 1
  | .ptr d => uptoBulk d + 1
  | .slice elems spare => uptoBulkAll elems + uptoBulkAll spare + 1
  | .agg parts => uptoBulkAll parts + 1
  | .iface _ d => uptoBulk d + 1
  | .map entries => uptoBulkEntries entries + 1
  | .held _ => 1
def uptoBulkAll {H : Type} : List (DataW H) → Nat
  | [] => 0
  | d :: r => uptoBulk d + uptoBulkAll r
def uptoBulkEntries {H : Type} : List (Lit × DataW H) → Nat
  | [] => 0
  | x :: r => uptoBulkEntry x + uptoBulkEntries r
def uptoBulkEntry {H : Type} : Lit × DataW H → Nat
  | (.string bytes, d) => bytes.length + uptoBulk d + 1
  | (_, d) => uptoBulk d + 1
 end
def uptoSmall : (H : Type) → List (DataW H) → Bool := fun _ ds => decide (uptoBulkAll ds ≤ 1048576)
def OpenSpec.upto (s : _root_.Go.ChangeSpec) : _root_.Go.OpenSpec := { _root_.Go.OpenSpec.ofChange s with cond := some uptoSmall }

/-- 'laws.FnScores', WHERE WHAT IT READS IS OF BULK AT MOST 1048576: true; the input reads as it did. -/
def fnScoresUptoRow : OpenClaim := { program := "ytbhlmeghbfmgiaa", sum := "aa3956291f5b9abe7f40587848927d6a0d26e38582d754ccd7aa3f65401e0245", func := "loop.example/g03004/laws.FnScores", spec := "fnScores", inPlace := ["slices.overlaps[loop.example/g03004/impl.Event]"], unfollowed := true, recurses := true, apart := false, narrowed := true }
def FnScoresUptoSaid : Prop := fnScoresUptoRow.holds Try.pinned (OpenSpec.upto fnScoresSpec)

/-- 'laws.FnPerformances', WHERE WHAT IT READS IS OF BULK AT MOST 1048576: true; the input reads as it did. -/
def fnPerformancesUptoRow : OpenClaim := { program := "ytbhlmeghbfmgiaa", sum := "aa3956291f5b9abe7f40587848927d6a0d26e38582d754ccd7aa3f65401e0245", func := "loop.example/g03004/laws.FnPerformances", spec := "fnPerformances", unfollowed := true, recurses := true, apart := false, narrowed := true }
def FnPerformancesUptoSaid : Prop := fnPerformancesUptoRow.holds Try.pinned (OpenSpec.upto fnPerformancesSpec)

/-- 'laws.FnSlips', WHERE WHAT IT READS IS OF BULK AT MOST 1048576: true; the input reads as it did. -/
def fnSlipsUptoRow : OpenClaim := { program := "ytbhlmeghbfmgiaa", sum := "aa3956291f5b9abe7f40587848927d6a0d26e38582d754ccd7aa3f65401e0245", func := "loop.example/g03004/laws.FnSlips", spec := "fnSlips", inPlace := ["slices.overlaps[int]"], apart := false, narrowed := true }
def FnSlipsUptoSaid : Prop := fnSlipsUptoRow.holds Try.pinned (OpenSpec.upto fnSlipsSpec)

/-- 'laws.FnMoves', WHERE WHAT IT READS IS OF BULK AT MOST 1048576: true; the input reads as it did. -/
def fnMovesUptoRow : OpenClaim := { program := "ytbhlmeghbfmgiaa", sum := "aa3956291f5b9abe7f40587848927d6a0d26e38582d754ccd7aa3f65401e0245", func := "loop.example/g03004/laws.FnMoves", spec := "fnMoves", apart := false, narrowed := true }
def FnMovesUptoSaid : Prop := fnMovesUptoRow.holds Try.pinned (OpenSpec.upto fnMovesSpec)

/-- 'laws.FnBars', WHERE WHAT IT READS IS OF BULK AT MOST 1048576: true; the input reads as it did. -/
def fnBarsUptoRow : OpenClaim := { program := "ytbhlmeghbfmgiaa", sum := "aa3956291f5b9abe7f40587848927d6a0d26e38582d754ccd7aa3f65401e0245", func := "loop.example/g03004/laws.FnBars", spec := "fnBars", apart := false, narrowed := true }
def FnBarsUptoSaid : Prop := fnBarsUptoRow.holds Try.pinned (OpenSpec.upto fnBarsSpec)

/-- 'laws.FnTempos', WHERE WHAT IT READS IS OF BULK AT MOST 1048576: true; the input reads as it did. -/
def fnTemposUptoRow : OpenClaim := { program := "ytbhlmeghbfmgiaa", sum := "aa3956291f5b9abe7f40587848927d6a0d26e38582d754ccd7aa3f65401e0245", func := "loop.example/g03004/laws.FnTempos", spec := "fnTempos", apart := false, narrowed := true }
def FnTemposUptoSaid : Prop := fnTemposUptoRow.holds Try.pinned (OpenSpec.upto fnTemposSpec)

/-- 'laws.FnWholeParts', WHERE WHAT IT READS IS OF BULK AT MOST 1048576: true; the input reads as it did. -/
def fnWholePartsUptoRow : OpenClaim := { program := "ytbhlmeghbfmgiaa", sum := "aa3956291f5b9abe7f40587848927d6a0d26e38582d754ccd7aa3f65401e0245", func := "loop.example/g03004/laws.FnWholeParts", spec := "fnWholeParts", unfollowed := true, recurses := true, apart := false, narrowed := true }
def FnWholePartsUptoSaid : Prop := fnWholePartsUptoRow.holds Try.pinned (OpenSpec.upto fnWholePartsSpec)

end Rows
end Go.Proofs.Ytbhlmeghbfmgiaa
