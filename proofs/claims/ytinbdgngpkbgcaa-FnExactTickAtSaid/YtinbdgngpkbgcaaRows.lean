/-
  No cell of these rows narrows 'for every input' (looked for: loops, veiled, ifaces, maps, wideKeys, modest, calm, conditions, laid).
  DERIVED. THE GIVEN ROWS OF THIS SEAT. 12 by the template 'for every input the law returns true; each argument reads behind the call as it read before'; 0 by the template 'total and deterministic' (their statements: YtinbdgngpkbgcaaTotals.lean).
  GIVEN WITH THE SEED: the statements are not yours to turn. If you find one false, say at which input.
  Laid BY PROGRAM, IN A SANDBOX (cutbox-rows.mjs): the forced cells as the released guide's own fill.sh prints them over the translation 3fd971c8114c3443… (all of the seat's roots in one cut). By AI agents, Wed Nov 11 2026. No macro, syntax, notation, axiom, sorry.
-/
import Derived.Test.YtinbdgngpkbgcaaChecked
import GoSem.Claim
import GoSem.ClaimJoined
import GoSem.ClaimMapViews
import Derived.JoinedTies
import Derived.KernelRfl
namespace Go.Proofs.Ytinbdgngpkbgcaa
/- THE CELL 'sum', in the pinned program and in every row, IS THE sha256 OF THE DUMP (.gsa) THAT YtinbdgngpkbgcaaProg.lean LOADS. Nothing in Lean hashes anything: it is a label: what it is worth is what the hold of that sum in a sandbox is worth. -/
noncomputable def Try.pinned : Pinned := { name := "ytinbdgngpkbgcaa", sum := "3fd971c8114c34433dc4d5bd3e999660e11e77a5c7e5502a5417503092d8ddcd", checked := Try.checked }
namespace Rows
def none {H : Type} : Left H := { results := [], args := [] }

/-- 'laws.FnExactRateAt': WHATEVER THE INPUT: true; the input reads as it did. -/
def fnExactRateAtSpec : ChangeSpec := { name := "fnExactRateAt", fn := fun _ => fun
  | [d1, d2] => { results := [.lit (.bool true)], args := [d1, d2] }
  | _ => none }
def fnExactRateAtRow : OpenClaim := { program := "ytinbdgngpkbgcaa", sum := "3fd971c8114c34433dc4d5bd3e999660e11e77a5c7e5502a5417503092d8ddcd", func := "loop.example/g03004/laws.FnExactRateAt", spec := "fnExactRateAt", apart := false }
def FnExactRateAtSaid : Prop := fnExactRateAtRow.holds Try.pinned (OpenSpec.ofChange fnExactRateAtSpec)

/-- ITS FALSE NEIGHBOUR: 'it returns false'. Refute it at one input. -/
def fnExactRateAtWrong : ChangeSpec := { name := "fnExactRateAt", fn := fun _ => fun
  | [d1, d2] => { results := [.lit (.bool false)], args := [d1, d2] }
  | _ => none }
def FnExactRateAtWrongFalsely : Prop := fnExactRateAtRow.holds Try.pinned (OpenSpec.ofChange fnExactRateAtWrong)

/-- 'laws.FnExactScaleTempo': WHATEVER THE INPUT: true; the input reads as it did. -/
def fnExactScaleTempoSpec : ChangeSpec := { name := "fnExactScaleTempo", fn := fun _ => fun
  | [d1, d2] => { results := [.lit (.bool true)], args := [d1, d2] }
  | _ => none }
def fnExactScaleTempoRow : OpenClaim := { program := "ytinbdgngpkbgcaa", sum := "3fd971c8114c34433dc4d5bd3e999660e11e77a5c7e5502a5417503092d8ddcd", func := "loop.example/g03004/laws.FnExactScaleTempo", spec := "fnExactScaleTempo", apart := false }
def FnExactScaleTempoSaid : Prop := fnExactScaleTempoRow.holds Try.pinned (OpenSpec.ofChange fnExactScaleTempoSpec)

/-- ITS FALSE NEIGHBOUR: 'it returns false'. Refute it at one input. -/
def fnExactScaleTempoWrong : ChangeSpec := { name := "fnExactScaleTempo", fn := fun _ => fun
  | [d1, d2] => { results := [.lit (.bool false)], args := [d1, d2] }
  | _ => none }
def FnExactScaleTempoWrongFalsely : Prop := fnExactScaleTempoRow.holds Try.pinned (OpenSpec.ofChange fnExactScaleTempoWrong)

/-- 'laws.FnExactTimeOf': WHATEVER THE INPUT: true; the input reads as it did. -/
def fnExactTimeOfSpec : ChangeSpec := { name := "fnExactTimeOf", fn := fun _ => fun
  | [d1, d2] => { results := [.lit (.bool true)], args := [d1, d2] }
  | _ => none }
def fnExactTimeOfRow : OpenClaim := { program := "ytinbdgngpkbgcaa", sum := "3fd971c8114c34433dc4d5bd3e999660e11e77a5c7e5502a5417503092d8ddcd", func := "loop.example/g03004/laws.FnExactTimeOf", spec := "fnExactTimeOf", apart := false }
def FnExactTimeOfSaid : Prop := fnExactTimeOfRow.holds Try.pinned (OpenSpec.ofChange fnExactTimeOfSpec)

/-- ITS FALSE NEIGHBOUR: 'it returns false'. Refute it at one input. -/
def fnExactTimeOfWrong : ChangeSpec := { name := "fnExactTimeOf", fn := fun _ => fun
  | [d1, d2] => { results := [.lit (.bool false)], args := [d1, d2] }
  | _ => none }
def FnExactTimeOfWrongFalsely : Prop := fnExactTimeOfRow.holds Try.pinned (OpenSpec.ofChange fnExactTimeOfWrong)

/-- 'laws.FnExactTickAt': WHATEVER THE INPUT: true; the input reads as it did. -/
def fnExactTickAtSpec : ChangeSpec := { name := "fnExactTickAt", fn := fun _ => fun
  | [d1, d2] => { results := [.lit (.bool true)], args := [d1, d2] }
  | _ => none }
def fnExactTickAtRow : OpenClaim := { program := "ytinbdgngpkbgcaa", sum := "3fd971c8114c34433dc4d5bd3e999660e11e77a5c7e5502a5417503092d8ddcd", func := "loop.example/g03004/laws.FnExactTickAt", spec := "fnExactTickAt", apart := false }
def FnExactTickAtSaid : Prop := fnExactTickAtRow.holds Try.pinned (OpenSpec.ofChange fnExactTickAtSpec)

/-- ITS FALSE NEIGHBOUR: 'it returns false'. Refute it at one input. -/
def fnExactTickAtWrong : ChangeSpec := { name := "fnExactTickAt", fn := fun _ => fun
  | [d1, d2] => { results := [.lit (.bool false)], args := [d1, d2] }
  | _ => none }
def FnExactTickAtWrongFalsely : Prop := fnExactTickAtRow.holds Try.pinned (OpenSpec.ofChange fnExactTickAtWrong)

/-- 'laws.FnExactIsForm': WHATEVER THE INPUT: true; the input reads as it did. -/
def fnExactIsFormSpec : ChangeSpec := { name := "fnExactIsForm", fn := fun _ => fun
  | [d] => { results := [.lit (.bool true)], args := [d] }
  | _ => none }
def fnExactIsFormRow : OpenClaim := { program := "ytinbdgngpkbgcaa", sum := "3fd971c8114c34433dc4d5bd3e999660e11e77a5c7e5502a5417503092d8ddcd", func := "loop.example/g03004/laws.FnExactIsForm", spec := "fnExactIsForm", apart := false }
def FnExactIsFormSaid : Prop := fnExactIsFormRow.holds Try.pinned (OpenSpec.ofChange fnExactIsFormSpec)

/-- ITS FALSE NEIGHBOUR: 'it returns false'. Refute it at one input. -/
def fnExactIsFormWrong : ChangeSpec := { name := "fnExactIsForm", fn := fun _ => fun
  | [d] => { results := [.lit (.bool false)], args := [d] }
  | _ => none }
def FnExactIsFormWrongFalsely : Prop := fnExactIsFormRow.holds Try.pinned (OpenSpec.ofChange fnExactIsFormWrong)

/-- 'laws.FnExactUnfold': WHATEVER THE INPUT: true; the input reads as it did. -/
def fnExactUnfoldSpec : ChangeSpec := { name := "fnExactUnfold", fn := fun _ => fun
  | [d] => { results := [.lit (.bool true)], args := [d] }
  | _ => none }
def fnExactUnfoldRow : OpenClaim := { program := "ytinbdgngpkbgcaa", sum := "3fd971c8114c34433dc4d5bd3e999660e11e77a5c7e5502a5417503092d8ddcd", func := "loop.example/g03004/laws.FnExactUnfold", spec := "fnExactUnfold", apart := false }
def FnExactUnfoldSaid : Prop := fnExactUnfoldRow.holds Try.pinned (OpenSpec.ofChange fnExactUnfoldSpec)

/-- ITS FALSE NEIGHBOUR: 'it returns false'. Refute it at one input. -/
def fnExactUnfoldWrong : ChangeSpec := { name := "fnExactUnfold", fn := fun _ => fun
  | [d] => { results := [.lit (.bool false)], args := [d] }
  | _ => none }
def FnExactUnfoldWrongFalsely : Prop := fnExactUnfoldRow.holds Try.pinned (OpenSpec.ofChange fnExactUnfoldWrong)

/-- 'laws.FnExactWrittenBar': WHATEVER THE INPUT: true; the input reads as it did. -/
def fnExactWrittenBarSpec : ChangeSpec := { name := "fnExactWrittenBar", fn := fun _ => fun
  | [d1, d2] => { results := [.lit (.bool true)], args := [d1, d2] }
  | _ => none }
def fnExactWrittenBarRow : OpenClaim := { program := "ytinbdgngpkbgcaa", sum := "3fd971c8114c34433dc4d5bd3e999660e11e77a5c7e5502a5417503092d8ddcd", func := "loop.example/g03004/laws.FnExactWrittenBar", spec := "fnExactWrittenBar", apart := false }
def FnExactWrittenBarSaid : Prop := fnExactWrittenBarRow.holds Try.pinned (OpenSpec.ofChange fnExactWrittenBarSpec)

/-- ITS FALSE NEIGHBOUR: 'it returns false'. Refute it at one input. -/
def fnExactWrittenBarWrong : ChangeSpec := { name := "fnExactWrittenBar", fn := fun _ => fun
  | [d1, d2] => { results := [.lit (.bool false)], args := [d1, d2] }
  | _ => none }
def FnExactWrittenBarWrongFalsely : Prop := fnExactWrittenBarRow.holds Try.pinned (OpenSpec.ofChange fnExactWrittenBarWrong)

/-- 'laws.FnExactPassOf': WHATEVER THE INPUT: true; the input reads as it did. -/
def fnExactPassOfSpec : ChangeSpec := { name := "fnExactPassOf", fn := fun _ => fun
  | [d1, d2] => { results := [.lit (.bool true)], args := [d1, d2] }
  | _ => none }
def fnExactPassOfRow : OpenClaim := { program := "ytinbdgngpkbgcaa", sum := "3fd971c8114c34433dc4d5bd3e999660e11e77a5c7e5502a5417503092d8ddcd", func := "loop.example/g03004/laws.FnExactPassOf", spec := "fnExactPassOf", apart := false }
def FnExactPassOfSaid : Prop := fnExactPassOfRow.holds Try.pinned (OpenSpec.ofChange fnExactPassOfSpec)

/-- ITS FALSE NEIGHBOUR: 'it returns false'. Refute it at one input. -/
def fnExactPassOfWrong : ChangeSpec := { name := "fnExactPassOf", fn := fun _ => fun
  | [d1, d2] => { results := [.lit (.bool false)], args := [d1, d2] }
  | _ => none }
def FnExactPassOfWrongFalsely : Prop := fnExactPassOfRow.holds Try.pinned (OpenSpec.ofChange fnExactPassOfWrong)

/-- 'laws.FnExactFirstTime': WHATEVER THE INPUT: true; the input reads as it did. -/
def fnExactFirstTimeSpec : ChangeSpec := { name := "fnExactFirstTime", fn := fun _ => fun
  | [d1, d2] => { results := [.lit (.bool true)], args := [d1, d2] }
  | _ => none }
def fnExactFirstTimeRow : OpenClaim := { program := "ytinbdgngpkbgcaa", sum := "3fd971c8114c34433dc4d5bd3e999660e11e77a5c7e5502a5417503092d8ddcd", func := "loop.example/g03004/laws.FnExactFirstTime", spec := "fnExactFirstTime", apart := false }
def FnExactFirstTimeSaid : Prop := fnExactFirstTimeRow.holds Try.pinned (OpenSpec.ofChange fnExactFirstTimeSpec)

/-- ITS FALSE NEIGHBOUR: 'it returns false'. Refute it at one input. -/
def fnExactFirstTimeWrong : ChangeSpec := { name := "fnExactFirstTime", fn := fun _ => fun
  | [d1, d2] => { results := [.lit (.bool false)], args := [d1, d2] }
  | _ => none }
def FnExactFirstTimeWrongFalsely : Prop := fnExactFirstTimeRow.holds Try.pinned (OpenSpec.ofChange fnExactFirstTimeWrong)

/-- 'laws.FnExactCountTimes': WHATEVER THE INPUT: true; the input reads as it did. -/
def fnExactCountTimesSpec : ChangeSpec := { name := "fnExactCountTimes", fn := fun _ => fun
  | [d1, d2] => { results := [.lit (.bool true)], args := [d1, d2] }
  | _ => none }
def fnExactCountTimesRow : OpenClaim := { program := "ytinbdgngpkbgcaa", sum := "3fd971c8114c34433dc4d5bd3e999660e11e77a5c7e5502a5417503092d8ddcd", func := "loop.example/g03004/laws.FnExactCountTimes", spec := "fnExactCountTimes", apart := false }
def FnExactCountTimesSaid : Prop := fnExactCountTimesRow.holds Try.pinned (OpenSpec.ofChange fnExactCountTimesSpec)

/-- ITS FALSE NEIGHBOUR: 'it returns false'. Refute it at one input. -/
def fnExactCountTimesWrong : ChangeSpec := { name := "fnExactCountTimes", fn := fun _ => fun
  | [d1, d2] => { results := [.lit (.bool false)], args := [d1, d2] }
  | _ => none }
def FnExactCountTimesWrongFalsely : Prop := fnExactCountTimesRow.holds Try.pinned (OpenSpec.ofChange fnExactCountTimesWrong)

/-- 'laws.FnExactPiecesOf': WHATEVER THE INPUT: true; the input reads as it did. -/
def fnExactPiecesOfSpec : ChangeSpec := { name := "fnExactPiecesOf", fn := fun _ => fun
  | [d1, d2] => { results := [.lit (.bool true)], args := [d1, d2] }
  | _ => none }
def fnExactPiecesOfRow : OpenClaim := { program := "ytinbdgngpkbgcaa", sum := "3fd971c8114c34433dc4d5bd3e999660e11e77a5c7e5502a5417503092d8ddcd", func := "loop.example/g03004/laws.FnExactPiecesOf", spec := "fnExactPiecesOf", apart := false }
def FnExactPiecesOfSaid : Prop := fnExactPiecesOfRow.holds Try.pinned (OpenSpec.ofChange fnExactPiecesOfSpec)

/-- ITS FALSE NEIGHBOUR: 'it returns false'. Refute it at one input. -/
def fnExactPiecesOfWrong : ChangeSpec := { name := "fnExactPiecesOf", fn := fun _ => fun
  | [d1, d2] => { results := [.lit (.bool false)], args := [d1, d2] }
  | _ => none }
def FnExactPiecesOfWrongFalsely : Prop := fnExactPiecesOfRow.holds Try.pinned (OpenSpec.ofChange fnExactPiecesOfWrong)

/-- 'laws.FnExactJoinPieces': WHATEVER THE INPUT: true; the input reads as it did. -/
def fnExactJoinPiecesSpec : ChangeSpec := { name := "fnExactJoinPieces", fn := fun _ => fun
  | [d] => { results := [.lit (.bool true)], args := [d] }
  | _ => none }
def fnExactJoinPiecesRow : OpenClaim := { program := "ytinbdgngpkbgcaa", sum := "3fd971c8114c34433dc4d5bd3e999660e11e77a5c7e5502a5417503092d8ddcd", func := "loop.example/g03004/laws.FnExactJoinPieces", spec := "fnExactJoinPieces", apart := false }
def FnExactJoinPiecesSaid : Prop := fnExactJoinPiecesRow.holds Try.pinned (OpenSpec.ofChange fnExactJoinPiecesSpec)

/-- ITS FALSE NEIGHBOUR: 'it returns false'. Refute it at one input. -/
def fnExactJoinPiecesWrong : ChangeSpec := { name := "fnExactJoinPieces", fn := fun _ => fun
  | [d] => { results := [.lit (.bool false)], args := [d] }
  | _ => none }
def FnExactJoinPiecesWrongFalsely : Prop := fnExactJoinPiecesRow.holds Try.pinned (OpenSpec.ofChange fnExactJoinPiecesWrong)

/- THE SECOND FORM. 'bulk': how many values and letters a reading holds, each counted each time it is reached (what is shared counts as often as it is met; a slice's spare places count too). A statement '..UptoSaid' is the law's where the arguments, and the package variables that the reading takes, are together of bulk at most 1048576: NARROWER than '..Said'. Prove '..Said' where nothing that the law and all that it calls make is longer than what came in: it says more and counts as full. Else prove '..UptoSaid'. A law counts once. -/
mutual
def uptoBulk {H : Type} : DataW H → Nat
  | .lit (.string bytes) => bytes.length + 1
  | .lit _ => 1
  | .nil => 1
  | .ptr d => uptoBulk d + 1
  | .slice elems spare => uptoBulkAll elems + uptoBulkAll spare + 1
  | .agg parts => uptoBulkAll parts + 1
  | .iface _ d => uptoBulk d + 1
  | .map entries => uptoBulkEntries entries + 1
  | .held _ => 1
def uptoBulkAll {H : Type} : List (DataW H) → Nat
  | [] => 0
  | d :: r => uptoBulk d + uptoBulkAll r
def uptoBulkEntries {H : Type} : List (Lit × DataW H) → Nat
  | [] => 0
  | x :: r => uptoBulkEntry x + uptoBulkEntries r
def uptoBulkEntry {H : Type} : Lit × DataW H → Nat
  | (.string bytes, d) => bytes.length + uptoBulk d + 1
  | (_, d) => uptoBulk d + 1
 end
def uptoSmall : (H : Type) → List (DataW H) → Bool := fun _ ds => decide (uptoBulkAll ds ≤ 1048576)
def OpenSpec.upto (s : _root_.Go.ChangeSpec) : _root_.Go.OpenSpec := { _root_.Go.OpenSpec.ofChange s with cond := some uptoSmall }

/-- 'laws.FnExactRateAt', WHERE WHAT IT READS IS OF BULK AT MOST 1048576: true; the input reads as it did. -/
def fnExactRateAtUptoRow : OpenClaim := { program := "ytinbdgngpkbgcaa", sum := "3fd971c8114c34433dc4d5bd3e999660e11e77a5c7e5502a5417503092d8ddcd", func := "loop.example/g03004/laws.FnExactRateAt", spec := "fnExactRateAt", apart := false, narrowed := true }
def FnExactRateAtUptoSaid : Prop := fnExactRateAtUptoRow.holds Try.pinned (OpenSpec.upto fnExactRateAtSpec)

/-- 'laws.FnExactScaleTempo', WHERE WHAT IT READS IS OF BULK AT MOST 1048576: true; the input reads as it did. -/
def fnExactScaleTempoUptoRow : OpenClaim := { program := "ytinbdgngpkbgcaa", sum := "3fd971c8114c34433dc4d5bd3e999660e11e77a5c7e5502a5417503092d8ddcd", func := "loop.example/g03004/laws.FnExactScaleTempo", spec := "fnExactScaleTempo", apart := false, narrowed := true }
def FnExactScaleTempoUptoSaid : Prop := fnExactScaleTempoUptoRow.holds Try.pinned (OpenSpec.upto fnExactScaleTempoSpec)

/-- 'laws.FnExactTimeOf', WHERE WHAT IT READS IS OF BULK AT MOST 1048576: true; the input reads as it did. -/
def fnExactTimeOfUptoRow : OpenClaim := { program := "ytinbdgngpkbgcaa", sum := "3fd971c8114c34433dc4d5bd3e999660e11e77a5c7e5502a5417503092d8ddcd", func := "loop.example/g03004/laws.FnExactTimeOf", spec := "fnExactTimeOf", apart := false, narrowed := true }
def FnExactTimeOfUptoSaid : Prop := fnExactTimeOfUptoRow.holds Try.pinned (OpenSpec.upto fnExactTimeOfSpec)

/-- 'laws.FnExactTickAt', WHERE WHAT IT READS IS OF BULK AT MOST 1048576: true; the input reads as it did. -/
def fnExactTickAtUptoRow : OpenClaim := { program := "ytinbdgngpkbgcaa", sum := "3fd971c8114c34433dc4d5bd3e999660e11e77a5c7e5502a5417503092d8ddcd", func := "loop.example/g03004/laws.FnExactTickAt", spec := "fnExactTickAt", apart := false, narrowed := true }
def FnExactTickAtUptoSaid : Prop := fnExactTickAtUptoRow.holds Try.pinned (OpenSpec.upto fnExactTickAtSpec)

/-- 'laws.FnExactIsForm', WHERE WHAT IT READS IS OF BULK AT MOST 1048576: true; the input reads as it did. -/
def fnExactIsFormUptoRow : OpenClaim := { program := "ytinbdgngpkbgcaa", sum := "3fd971c8114c34433dc4d5bd3e999660e11e77a5c7e5502a5417503092d8ddcd", func := "loop.example/g03004/laws.FnExactIsForm", spec := "fnExactIsForm", apart := false, narrowed := true }
def FnExactIsFormUptoSaid : Prop := fnExactIsFormUptoRow.holds Try.pinned (OpenSpec.upto fnExactIsFormSpec)

/-- 'laws.FnExactUnfold', WHERE WHAT IT READS IS OF BULK AT MOST 1048576: true; the input reads as it did. -/
def fnExactUnfoldUptoRow : OpenClaim := { program := "ytinbdgngpkbgcaa", sum := "3fd971c8114c34433dc4d5bd3e999660e11e77a5c7e5502a5417503092d8ddcd", func := "loop.example/g03004/laws.FnExactUnfold", spec := "fnExactUnfold", apart := false, narrowed := true }
def FnExactUnfoldUptoSaid : Prop := fnExactUnfoldUptoRow.holds Try.pinned (OpenSpec.upto fnExactUnfoldSpec)

/-- 'laws.FnExactWrittenBar', WHERE WHAT IT READS IS OF BULK AT MOST 1048576: true; the input reads as it did. -/
def fnExactWrittenBarUptoRow : OpenClaim := { program := "ytinbdgngpkbgcaa", sum := "3fd971c8114c34433dc4d5bd3e999660e11e77a5c7e5502a5417503092d8ddcd", func := "loop.example/g03004/laws.FnExactWrittenBar", spec := "fnExactWrittenBar", apart := false, narrowed := true }
def FnExactWrittenBarUptoSaid : Prop := fnExactWrittenBarUptoRow.holds Try.pinned (OpenSpec.upto fnExactWrittenBarSpec)

/-- 'laws.FnExactPassOf', WHERE WHAT IT READS IS OF BULK AT MOST 1048576: true; the input reads as it did. -/
def fnExactPassOfUptoRow : OpenClaim := { program := "ytinbdgngpkbgcaa", sum := "3fd971c8114c34433dc4d5bd3e999660e11e77a5c7e5502a5417503092d8ddcd", func := "loop.example/g03004/laws.FnExactPassOf", spec := "fnExactPassOf", apart := false, narrowed := true }
def FnExactPassOfUptoSaid : Prop := fnExactPassOfUptoRow.holds Try.pinned (OpenSpec.upto fnExactPassOfSpec)

/-- 'laws.FnExactFirstTime', WHERE WHAT IT READS IS OF BULK AT MOST 1048576: true; the input reads as it did. -/
def fnExactFirstTimeUptoRow : OpenClaim := { program := "ytinbdgngpkbgcaa", sum := "3fd971c8114c34433dc4d5bd3e999660e11e77a5c7e5502a5417503092d8ddcd", func := "loop.example/g03004/laws.FnExactFirstTime", spec := "fnExactFirstTime", apart := false, narrowed := true }
def FnExactFirstTimeUptoSaid : Prop := fnExactFirstTimeUptoRow.holds Try.pinned (OpenSpec.upto fnExactFirstTimeSpec)

/-- 'laws.FnExactCountTimes', WHERE WHAT IT READS IS OF BULK AT MOST 1048576: true; the input reads as it did. -/
def fnExactCountTimesUptoRow : OpenClaim := { program := "ytinbdgngpkbgcaa", sum := "3fd971c8114c34433dc4d5bd3e999660e11e77a5c7e5502a5417503092d8ddcd", func := "loop.example/g03004/laws.FnExactCountTimes", spec := "fnExactCountTimes", apart := false, narrowed := true }
def FnExactCountTimesUptoSaid : Prop := fnExactCountTimesUptoRow.holds Try.pinned (OpenSpec.upto fnExactCountTimesSpec)

/-- 'laws.FnExactPiecesOf', WHERE WHAT IT READS IS OF BULK AT MOST 1048576: true; the input reads as it did. -/
def fnExactPiecesOfUptoRow : OpenClaim := { program := "ytinbdgngpkbgcaa", sum := "3fd971c8114c34433dc4d5bd3e999660e11e77a5c7e5502a5417503092d8ddcd", func := "loop.example/g03004/laws.FnExactPiecesOf", spec := "fnExactPiecesOf", apart := false, narrowed := true }
def FnExactPiecesOfUptoSaid : Prop := fnExactPiecesOfUptoRow.holds Try.pinned (OpenSpec.upto fnExactPiecesOfSpec)

/-- 'laws.FnExactJoinPieces', WHERE WHAT IT READS IS OF BULK AT MOST 1048576: true; the input reads as it did. -/
def fnExactJoinPiecesUptoRow : OpenClaim := { program := "ytinbdgngpkbgcaa", sum := "3fd971c8114c34433dc4d5bd3e999660e11e77a5c7e5502a5417503092d8ddcd", func := "loop.example/g03004/laws.FnExactJoinPieces", spec := "fnExactJoinPieces", apart := false, narrowed := true }
def FnExactJoinPiecesUptoSaid : Prop := fnExactJoinPiecesUptoRow.holds Try.pinned (OpenSpec.upto fnExactJoinPiecesSpec)

end Rows
end Go.Proofs.Ytinbdgngpkbgcaa
