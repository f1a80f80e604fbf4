/-
  No cell of these rows narrows 'for every input' (looked for: loops, veiled, ifaces, maps, wideKeys, modest, calm, conditions, laid).
  DERIVED. THE GIVEN ROWS OF THIS SEAT. 12 by the template 'for every input the law returns true; each argument reads behind the call as it read before'; 0 by the template 'total and deterministic' (their statements: YtmacgllblbeegaaTotals.lean).
  GIVEN WITH THE SEED: the statements are not yours to turn. If you find one false, say at which input.
  Laid BY PROGRAM, IN A SANDBOX (cutbox-rows.mjs): the forced cells as the released guide's own fill.sh prints them over the translation 0328b9a3fba9cda6… (all of the seat's roots in one cut). By AI agents, Wed Nov 11 2026. No macro, syntax, notation, axiom, sorry.
-/
import Derived.Test.YtmacgllblbeegaaChecked
import GoSem.Claim
import GoSem.ClaimJoined
import GoSem.ClaimMapViews
import Derived.JoinedTies
import Derived.KernelRfl
namespace Go.Proofs.Ytmacgllblbeegaa
/- THE CELL 'sum', in the pinned program and in every row, IS THE sha256 OF THE DUMP (.gsa) THAT YtmacgllblbeegaaProg.lean LOADS. Nothing in Lean hashes anything: it is a label: what it is worth is what the hold of that sum in a sandbox is worth. -/
noncomputable def Try.pinned : Pinned := { name := "ytmacgllblbeegaa", sum := "0328b9a3fba9cda62cb744ff8fdbbf03e849ae580116ed7e8a5f3d7e7c402a22", checked := Try.checked }
namespace Rows
def none {H : Type} : Left H := { results := [], args := [] }

/-- 'laws.FnExactIsScore': WHATEVER THE INPUT: true; the input reads as it did. -/
def fnExactIsScoreSpec : ChangeSpec := { name := "fnExactIsScore", fn := fun _ => fun
  | [d] => { results := [.lit (.bool true)], args := [d] }
  | _ => none }
def fnExactIsScoreRow : OpenClaim := { program := "ytmacgllblbeegaa", sum := "0328b9a3fba9cda62cb744ff8fdbbf03e849ae580116ed7e8a5f3d7e7c402a22", func := "loop.example/g03004/laws.FnExactIsScore", spec := "fnExactIsScore", apart := false }
def FnExactIsScoreSaid : Prop := fnExactIsScoreRow.holds Try.pinned (OpenSpec.ofChange fnExactIsScoreSpec)

/-- ITS FALSE NEIGHBOUR: 'it returns false'. Refute it at one input. -/
def fnExactIsScoreWrong : ChangeSpec := { name := "fnExactIsScore", fn := fun _ => fun
  | [d] => { results := [.lit (.bool false)], args := [d] }
  | _ => none }
def FnExactIsScoreWrongFalsely : Prop := fnExactIsScoreRow.holds Try.pinned (OpenSpec.ofChange fnExactIsScoreWrong)

/-- 'laws.FnExactEndOf': WHATEVER THE INPUT: true; the input reads as it did. -/
def fnExactEndOfSpec : ChangeSpec := { name := "fnExactEndOf", fn := fun _ => fun
  | [d] => { results := [.lit (.bool true)], args := [d] }
  | _ => none }
def fnExactEndOfRow : OpenClaim := { program := "ytmacgllblbeegaa", sum := "0328b9a3fba9cda62cb744ff8fdbbf03e849ae580116ed7e8a5f3d7e7c402a22", func := "loop.example/g03004/laws.FnExactEndOf", spec := "fnExactEndOf", apart := false }
def FnExactEndOfSaid : Prop := fnExactEndOfRow.holds Try.pinned (OpenSpec.ofChange fnExactEndOfSpec)

/-- ITS FALSE NEIGHBOUR: 'it returns false'. Refute it at one input. -/
def fnExactEndOfWrong : ChangeSpec := { name := "fnExactEndOf", fn := fun _ => fun
  | [d] => { results := [.lit (.bool false)], args := [d] }
  | _ => none }
def FnExactEndOfWrongFalsely : Prop := fnExactEndOfRow.holds Try.pinned (OpenSpec.ofChange fnExactEndOfWrong)

/-- 'laws.FnExactVoiceOf': WHATEVER THE INPUT: true; the input reads as it did. -/
def fnExactVoiceOfSpec : ChangeSpec := { name := "fnExactVoiceOf", fn := fun _ => fun
  | [d1, d2] => { results := [.lit (.bool true)], args := [d1, d2] }
  | _ => none }
def fnExactVoiceOfRow : OpenClaim := { program := "ytmacgllblbeegaa", sum := "0328b9a3fba9cda62cb744ff8fdbbf03e849ae580116ed7e8a5f3d7e7c402a22", func := "loop.example/g03004/laws.FnExactVoiceOf", spec := "fnExactVoiceOf", unfollowed := true, recurses := true, apart := false }
def FnExactVoiceOfSaid : Prop := fnExactVoiceOfRow.holds Try.pinned (OpenSpec.ofChange fnExactVoiceOfSpec)

/-- ITS FALSE NEIGHBOUR: 'it returns false'. Refute it at one input. -/
def fnExactVoiceOfWrong : ChangeSpec := { name := "fnExactVoiceOf", fn := fun _ => fun
  | [d1, d2] => { results := [.lit (.bool false)], args := [d1, d2] }
  | _ => none }
def FnExactVoiceOfWrongFalsely : Prop := fnExactVoiceOfRow.holds Try.pinned (OpenSpec.ofChange fnExactVoiceOfWrong)

/-- 'laws.FnExactTakeEvent': WHATEVER THE INPUT: true; the input reads as it did. -/
def fnExactTakeEventSpec : ChangeSpec := { name := "fnExactTakeEvent", fn := fun _ => fun
  | [d1, d2] => { results := [.lit (.bool true)], args := [d1, d2] }
  | _ => none }
def fnExactTakeEventRow : OpenClaim := { program := "ytmacgllblbeegaa", sum := "0328b9a3fba9cda62cb744ff8fdbbf03e849ae580116ed7e8a5f3d7e7c402a22", func := "loop.example/g03004/laws.FnExactTakeEvent", spec := "fnExactTakeEvent", apart := false }
def FnExactTakeEventSaid : Prop := fnExactTakeEventRow.holds Try.pinned (OpenSpec.ofChange fnExactTakeEventSpec)

/-- ITS FALSE NEIGHBOUR: 'it returns false'. Refute it at one input. -/
def fnExactTakeEventWrong : ChangeSpec := { name := "fnExactTakeEvent", fn := fun _ => fun
  | [d1, d2] => { results := [.lit (.bool false)], args := [d1, d2] }
  | _ => none }
def FnExactTakeEventWrongFalsely : Prop := fnExactTakeEventRow.holds Try.pinned (OpenSpec.ofChange fnExactTakeEventWrong)

/-- 'laws.FnExactPutEvent': WHATEVER THE INPUT: true; the input reads as it did. -/
def fnExactPutEventSpec : ChangeSpec := { name := "fnExactPutEvent", fn := fun _ => fun
  | [d1, d2] => { results := [.lit (.bool true)], args := [d1, d2] }
  | _ => none }
def fnExactPutEventRow : OpenClaim := { program := "ytmacgllblbeegaa", sum := "0328b9a3fba9cda62cb744ff8fdbbf03e849ae580116ed7e8a5f3d7e7c402a22", func := "loop.example/g03004/laws.FnExactPutEvent", spec := "fnExactPutEvent", inPlace := ["slices.overlaps[loop.example/g03004/impl.Event]"], unfollowed := true, recurses := true, apart := false }
def FnExactPutEventSaid : Prop := fnExactPutEventRow.holds Try.pinned (OpenSpec.ofChange fnExactPutEventSpec)

/-- ITS FALSE NEIGHBOUR: 'it returns false'. Refute it at one input. -/
def fnExactPutEventWrong : ChangeSpec := { name := "fnExactPutEvent", fn := fun _ => fun
  | [d1, d2] => { results := [.lit (.bool false)], args := [d1, d2] }
  | _ => none }
def FnExactPutEventWrongFalsely : Prop := fnExactPutEventRow.holds Try.pinned (OpenSpec.ofChange fnExactPutEventWrong)

/-- 'laws.FnExactLowHigh': WHATEVER THE INPUT: true; the input reads as it did. -/
def fnExactLowHighSpec : ChangeSpec := { name := "fnExactLowHigh", fn := fun _ => fun
  | [d] => { results := [.lit (.bool true)], args := [d] }
  | _ => none }
def fnExactLowHighRow : OpenClaim := { program := "ytmacgllblbeegaa", sum := "0328b9a3fba9cda62cb744ff8fdbbf03e849ae580116ed7e8a5f3d7e7c402a22", func := "loop.example/g03004/laws.FnExactLowHigh", spec := "fnExactLowHigh", apart := false }
def FnExactLowHighSaid : Prop := fnExactLowHighRow.holds Try.pinned (OpenSpec.ofChange fnExactLowHighSpec)

/-- ITS FALSE NEIGHBOUR: 'it returns false'. Refute it at one input. -/
def fnExactLowHighWrong : ChangeSpec := { name := "fnExactLowHigh", fn := fun _ => fun
  | [d] => { results := [.lit (.bool false)], args := [d] }
  | _ => none }
def FnExactLowHighWrongFalsely : Prop := fnExactLowHighRow.holds Try.pinned (OpenSpec.ofChange fnExactLowHighWrong)

/-- 'laws.FnExactFitsRange': WHATEVER THE INPUT: true; the input reads as it did. -/
def fnExactFitsRangeSpec : ChangeSpec := { name := "fnExactFitsRange", fn := fun _ => fun
  | [d1, d2, d3] => { results := [.lit (.bool true)], args := [d1, d2, d3] }
  | _ => none }
def fnExactFitsRangeRow : OpenClaim := { program := "ytmacgllblbeegaa", sum := "0328b9a3fba9cda62cb744ff8fdbbf03e849ae580116ed7e8a5f3d7e7c402a22", func := "loop.example/g03004/laws.FnExactFitsRange", spec := "fnExactFitsRange", apart := false }
def FnExactFitsRangeSaid : Prop := fnExactFitsRangeRow.holds Try.pinned (OpenSpec.ofChange fnExactFitsRangeSpec)

/-- ITS FALSE NEIGHBOUR: 'it returns false'. Refute it at one input. -/
def fnExactFitsRangeWrong : ChangeSpec := { name := "fnExactFitsRange", fn := fun _ => fun
  | [d1, d2, d3] => { results := [.lit (.bool false)], args := [d1, d2, d3] }
  | _ => none }
def FnExactFitsRangeWrongFalsely : Prop := fnExactFitsRangeRow.holds Try.pinned (OpenSpec.ofChange fnExactFitsRangeWrong)

/-- 'laws.FnExactMoveScore': WHATEVER THE INPUT: true; the input reads as it did. -/
def fnExactMoveScoreSpec : ChangeSpec := { name := "fnExactMoveScore", fn := fun _ => fun
  | [d1, d2] => { results := [.lit (.bool true)], args := [d1, d2] }
  | _ => none }
def fnExactMoveScoreRow : OpenClaim := { program := "ytmacgllblbeegaa", sum := "0328b9a3fba9cda62cb744ff8fdbbf03e849ae580116ed7e8a5f3d7e7c402a22", func := "loop.example/g03004/laws.FnExactMoveScore", spec := "fnExactMoveScore", apart := false }
def FnExactMoveScoreSaid : Prop := fnExactMoveScoreRow.holds Try.pinned (OpenSpec.ofChange fnExactMoveScoreSpec)

/-- ITS FALSE NEIGHBOUR: 'it returns false'. Refute it at one input. -/
def fnExactMoveScoreWrong : ChangeSpec := { name := "fnExactMoveScore", fn := fun _ => fun
  | [d1, d2] => { results := [.lit (.bool false)], args := [d1, d2] }
  | _ => none }
def FnExactMoveScoreWrongFalsely : Prop := fnExactMoveScoreRow.holds Try.pinned (OpenSpec.ofChange fnExactMoveScoreWrong)

/-- 'laws.FnExactWrittenFor': WHATEVER THE INPUT: true; the input reads as it did. -/
def fnExactWrittenForSpec : ChangeSpec := { name := "fnExactWrittenFor", fn := fun _ => fun
  | [d1, d2] => { results := [.lit (.bool true)], args := [d1, d2] }
  | _ => none }
def fnExactWrittenForRow : OpenClaim := { program := "ytmacgllblbeegaa", sum := "0328b9a3fba9cda62cb744ff8fdbbf03e849ae580116ed7e8a5f3d7e7c402a22", func := "loop.example/g03004/laws.FnExactWrittenFor", spec := "fnExactWrittenFor", apart := false }
def FnExactWrittenForSaid : Prop := fnExactWrittenForRow.holds Try.pinned (OpenSpec.ofChange fnExactWrittenForSpec)

/-- ITS FALSE NEIGHBOUR: 'it returns false'. Refute it at one input. -/
def fnExactWrittenForWrong : ChangeSpec := { name := "fnExactWrittenFor", fn := fun _ => fun
  | [d1, d2] => { results := [.lit (.bool false)], args := [d1, d2] }
  | _ => none }
def FnExactWrittenForWrongFalsely : Prop := fnExactWrittenForRow.holds Try.pinned (OpenSpec.ofChange fnExactWrittenForWrong)

/-- 'laws.FnExactSoundingOf': WHATEVER THE INPUT: true; the input reads as it did. -/
def fnExactSoundingOfSpec : ChangeSpec := { name := "fnExactSoundingOf", fn := fun _ => fun
  | [d1, d2] => { results := [.lit (.bool true)], args := [d1, d2] }
  | _ => none }
def fnExactSoundingOfRow : OpenClaim := { program := "ytmacgllblbeegaa", sum := "0328b9a3fba9cda62cb744ff8fdbbf03e849ae580116ed7e8a5f3d7e7c402a22", func := "loop.example/g03004/laws.FnExactSoundingOf", spec := "fnExactSoundingOf", apart := false }
def FnExactSoundingOfSaid : Prop := fnExactSoundingOfRow.holds Try.pinned (OpenSpec.ofChange fnExactSoundingOfSpec)

/-- ITS FALSE NEIGHBOUR: 'it returns false'. Refute it at one input. -/
def fnExactSoundingOfWrong : ChangeSpec := { name := "fnExactSoundingOf", fn := fun _ => fun
  | [d1, d2] => { results := [.lit (.bool false)], args := [d1, d2] }
  | _ => none }
def FnExactSoundingOfWrongFalsely : Prop := fnExactSoundingOfRow.holds Try.pinned (OpenSpec.ofChange fnExactSoundingOfWrong)

/-- 'laws.FnExactOctaveFit': WHATEVER THE INPUT: true; the input reads as it did. -/
def fnExactOctaveFitSpec : ChangeSpec := { name := "fnExactOctaveFit", fn := fun _ => fun
  | [d1, d2, d3] => { results := [.lit (.bool true)], args := [d1, d2, d3] }
  | _ => none }
def fnExactOctaveFitRow : OpenClaim := { program := "ytmacgllblbeegaa", sum := "0328b9a3fba9cda62cb744ff8fdbbf03e849ae580116ed7e8a5f3d7e7c402a22", func := "loop.example/g03004/laws.FnExactOctaveFit", spec := "fnExactOctaveFit", apart := false }
def FnExactOctaveFitSaid : Prop := fnExactOctaveFitRow.holds Try.pinned (OpenSpec.ofChange fnExactOctaveFitSpec)

/-- ITS FALSE NEIGHBOUR: 'it returns false'. Refute it at one input. -/
def fnExactOctaveFitWrong : ChangeSpec := { name := "fnExactOctaveFit", fn := fun _ => fun
  | [d1, d2, d3] => { results := [.lit (.bool false)], args := [d1, d2, d3] }
  | _ => none }
def FnExactOctaveFitWrongFalsely : Prop := fnExactOctaveFitRow.holds Try.pinned (OpenSpec.ofChange fnExactOctaveFitWrong)

/-- 'laws.FnExactCountBars': WHATEVER THE INPUT: true; the input reads as it did. -/
def fnExactCountBarsSpec : ChangeSpec := { name := "fnExactCountBars", fn := fun _ => fun
  | [d1, d2] => { results := [.lit (.bool true)], args := [d1, d2] }
  | _ => none }
def fnExactCountBarsRow : OpenClaim := { program := "ytmacgllblbeegaa", sum := "0328b9a3fba9cda62cb744ff8fdbbf03e849ae580116ed7e8a5f3d7e7c402a22", func := "loop.example/g03004/laws.FnExactCountBars", spec := "fnExactCountBars", apart := false }
def FnExactCountBarsSaid : Prop := fnExactCountBarsRow.holds Try.pinned (OpenSpec.ofChange fnExactCountBarsSpec)

/-- ITS FALSE NEIGHBOUR: 'it returns false'. Refute it at one input. -/
def fnExactCountBarsWrong : ChangeSpec := { name := "fnExactCountBars", fn := fun _ => fun
  | [d1, d2] => { results := [.lit (.bool false)], args := [d1, d2] }
  | _ => none }
def FnExactCountBarsWrongFalsely : Prop := fnExactCountBarsRow.holds Try.pinned (OpenSpec.ofChange fnExactCountBarsWrong)

/- THE SECOND FORM. 'bulk': how many values and letters a reading holds, each counted each time it is reached (what is shared counts as often as it is met; a slice's spare places count too). A statement '..UptoSaid' is the law's where the arguments, and the package variables that the reading takes, are together of bulk at most 1048576: NARROWER than '..Said'. Prove '..Said' where nothing that the law and all that it calls make is longer than what came in: it says more and counts as full. Else prove '..UptoSaid'. A law counts once. -/
mutual
def uptoBulk {H : Type} : DataW H → Nat
  | .lit (.string bytes) => bytes.length + 1
  | .lit _ => 1
  | .nil => 1
  | .ptr d => uptoBulk d + 1
  | .slice elems spare => uptoBulkAll elems + uptoBulkAll spare + 1
  | .agg parts => uptoBulkAll parts + 1
  | .iface _ d => uptoBulk d + 1
  | .map entries => uptoBulkEntries entries + 1
  | .held _ => 1
def uptoBulkAll {H : Type} : List (DataW H) → Nat
  | [] => 0
  | d :: r => uptoBulk d + uptoBulkAll r
def uptoBulkEntries {H : Type} : List (Lit × DataW H) → Nat
  | [] => 0
  | x :: r => uptoBulkEntry x + uptoBulkEntries r
def uptoBulkEntry {H : Type} : Lit × DataW H → Nat
  | (.string bytes, d) => bytes.length + uptoBulk d + 1
  | (_, d) => uptoBulk d + 1
 end
def uptoSmall : (H : Type) → List (DataW H) → Bool := fun _ ds => decide (uptoBulkAll ds ≤ 1048576)
def OpenSpec.upto (s : _root_.Go.ChangeSpec) : _root_.Go.OpenSpec := { _root_.Go.OpenSpec.ofChange s with cond := some uptoSmall }

/-- 'laws.FnExactIsScore', WHERE WHAT IT READS IS OF BULK AT MOST 1048576: true; the input reads as it did. -/
def fnExactIsScoreUptoRow : OpenClaim := { program := "ytmacgllblbeegaa", sum := "0328b9a3fba9cda62cb744ff8fdbbf03e849ae580116ed7e8a5f3d7e7c402a22", func := "loop.example/g03004/laws.FnExactIsScore", spec := "fnExactIsScore", apart := false, narrowed := true }
def FnExactIsScoreUptoSaid : Prop := fnExactIsScoreUptoRow.holds Try.pinned (OpenSpec.upto fnExactIsScoreSpec)

/-- 'laws.FnExactEndOf', WHERE WHAT IT READS IS OF BULK AT MOST 1048576: true; the input reads as it did. -/
def fnExactEndOfUptoRow : OpenClaim := { program := "ytmacgllblbeegaa", sum := "0328b9a3fba9cda62cb744ff8fdbbf03e849ae580116ed7e8a5f3d7e7c402a22", func := "loop.example/g03004/laws.FnExactEndOf", spec := "fnExactEndOf", apart := false, narrowed := true }
def FnExactEndOfUptoSaid : Prop := fnExactEndOfUptoRow.holds Try.pinned (OpenSpec.upto fnExactEndOfSpec)

/-- 'laws.FnExactVoiceOf', WHERE WHAT IT READS IS OF BULK AT MOST 1048576: true; the input reads as it did. -/
def fnExactVoiceOfUptoRow : OpenClaim := { program := "ytmacgllblbeegaa", sum := "0328b9a3fba9cda62cb744ff8fdbbf03e849ae580116ed7e8a5f3d7e7c402a22", func := "loop.example/g03004/laws.FnExactVoiceOf", spec := "fnExactVoiceOf", unfollowed := true, recurses := true, apart := false, narrowed := true }
def FnExactVoiceOfUptoSaid : Prop := fnExactVoiceOfUptoRow.holds Try.pinned (OpenSpec.upto fnExactVoiceOfSpec)

/-- 'laws.FnExactTakeEvent', WHERE WHAT IT READS IS OF BULK AT MOST 1048576: true; the input reads as it did. -/
def fnExactTakeEventUptoRow : OpenClaim := { program := "ytmacgllblbeegaa", sum := "0328b9a3fba9cda62cb744ff8fdbbf03e849ae580116ed7e8a5f3d7e7c402a22", func := "loop.example/g03004/laws.FnExactTakeEvent", spec := "fnExactTakeEvent", apart := false, narrowed := true }
def FnExactTakeEventUptoSaid : Prop := fnExactTakeEventUptoRow.holds Try.pinned (OpenSpec.upto fnExactTakeEventSpec)

/-- 'laws.FnExactPutEvent', WHERE WHAT IT READS IS OF BULK AT MOST 1048576: true; the input reads as it did. -/
def fnExactPutEventUptoRow : OpenClaim := { program := "ytmacgllblbeegaa", sum := "0328b9a3fba9cda62cb744ff8fdbbf03e849ae580116ed7e8a5f3d7e7c402a22", func := "loop.example/g03004/laws.FnExactPutEvent", spec := "fnExactPutEvent", inPlace := ["slices.overlaps[loop.example/g03004/impl.Event]"], unfollowed := true, recurses := true, apart := false, narrowed := true }
def FnExactPutEventUptoSaid : Prop := fnExactPutEventUptoRow.holds Try.pinned (OpenSpec.upto fnExactPutEventSpec)

/-- 'laws.FnExactLowHigh', WHERE WHAT IT READS IS OF BULK AT MOST 1048576: true; the input reads as it did. -/
def fnExactLowHighUptoRow : OpenClaim := { program := "ytmacgllblbeegaa", sum := "0328b9a3fba9cda62cb744ff8fdbbf03e849ae580116ed7e8a5f3d7e7c402a22", func := "loop.example/g03004/laws.FnExactLowHigh", spec := "fnExactLowHigh", apart := false, narrowed := true }
def FnExactLowHighUptoSaid : Prop := fnExactLowHighUptoRow.holds Try.pinned (OpenSpec.upto fnExactLowHighSpec)

/-- 'laws.FnExactFitsRange', WHERE WHAT IT READS IS OF BULK AT MOST 1048576: true; the input reads as it did. -/
def fnExactFitsRangeUptoRow : OpenClaim := { program := "ytmacgllblbeegaa", sum := "0328b9a3fba9cda62cb744ff8fdbbf03e849ae580116ed7e8a5f3d7e7c402a22", func := "loop.example/g03004/laws.FnExactFitsRange", spec := "fnExactFitsRange", apart := false, narrowed := true }
def FnExactFitsRangeUptoSaid : Prop := fnExactFitsRangeUptoRow.holds Try.pinned (OpenSpec.upto fnExactFitsRangeSpec)

/-- 'laws.FnExactMoveScore', WHERE WHAT IT READS IS OF BULK AT MOST 1048576: true; the input reads as it did. -/
def fnExactMoveScoreUptoRow : OpenClaim := { program := "ytmacgllblbeegaa", sum := "0328b9a3fba9cda62cb744ff8fdbbf03e849ae580116ed7e8a5f3d7e7c402a22", func := "loop.example/g03004/laws.FnExactMoveScore", spec := "fnExactMoveScore", apart := false, narrowed := true }
def FnExactMoveScoreUptoSaid : Prop := fnExactMoveScoreUptoRow.holds Try.pinned (OpenSpec.upto fnExactMoveScoreSpec)

/-- 'laws.FnExactWrittenFor', WHERE WHAT IT READS IS OF BULK AT MOST 1048576: true; the input reads as it did. -/
def fnExactWrittenForUptoRow : OpenClaim := { program := "ytmacgllblbeegaa", sum := "0328b9a3fba9cda62cb744ff8fdbbf03e849ae580116ed7e8a5f3d7e7c402a22", func := "loop.example/g03004/laws.FnExactWrittenFor", spec := "fnExactWrittenFor", apart := false, narrowed := true }
def FnExactWrittenForUptoSaid : Prop := fnExactWrittenForUptoRow.holds Try.pinned (OpenSpec.upto fnExactWrittenForSpec)

/-- 'laws.FnExactSoundingOf', WHERE WHAT IT READS IS OF BULK AT MOST 1048576: true; the input reads as it did. -/
def fnExactSoundingOfUptoRow : OpenClaim := { program := "ytmacgllblbeegaa", sum := "0328b9a3fba9cda62cb744ff8fdbbf03e849ae580116ed7e8a5f3d7e7c402a22", func := "loop.example/g03004/laws.FnExactSoundingOf", spec := "fnExactSoundingOf", apart := false, narrowed := true }
def FnExactSoundingOfUptoSaid : Prop := fnExactSoundingOfUptoRow.holds Try.pinned (OpenSpec.upto fnExactSoundingOfSpec)

/-- 'laws.FnExactOctaveFit', WHERE WHAT IT READS IS OF BULK AT MOST 1048576: true; the input reads as it did. -/
def fnExactOctaveFitUptoRow : OpenClaim := { program := "ytmacgllblbeegaa", sum := "0328b9a3fba9cda62cb744ff8fdbbf03e849ae580116ed7e8a5f3d7e7c402a22", func := "loop.example/g03004/laws.FnExactOctaveFit", spec := "fnExactOctaveFit", apart := false, narrowed := true }
def FnExactOctaveFitUptoSaid : Prop := fnExactOctaveFitUptoRow.holds Try.pinned (OpenSpec.upto fnExactOctaveFitSpec)

/-- 'laws.FnExactCountBars', WHERE WHAT IT READS IS OF BULK AT MOST 1048576: true; the input reads as it did. -/
def fnExactCountBarsUptoRow : OpenClaim := { program := "ytmacgllblbeegaa", sum := "0328b9a3fba9cda62cb744ff8fdbbf03e849ae580116ed7e8a5f3d7e7c402a22", func := "loop.example/g03004/laws.FnExactCountBars", spec := "fnExactCountBars", apart := false, narrowed := true }
def FnExactCountBarsUptoSaid : Prop := fnExactCountBarsUptoRow.holds Try.pinned (OpenSpec.upto fnExactCountBarsSpec)

end Rows
end Go.Proofs.Ytmacgllblbeegaa
