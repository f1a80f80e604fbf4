/-
  No cell of these rows narrows 'for every input' (looked for: loops, veiled, ifaces, maps, wideKeys, modest, calm, conditions, laid).
  DERIVED. THE GIVEN ROWS OF THIS SEAT. 12 by the template 'for every input the law returns true; each argument reads behind the call as it read before'; 0 by the template 'total and deterministic' (their statements: YtiophiipmgpaeaaTotals.lean).
  GIVEN WITH THE SEED: the statements are not yours to turn. If you find one false, say at which input.
  Laid BY PROGRAM, IN A SANDBOX (cutbox-rows.mjs): the forced cells as the released guide's own fill.sh prints them over the translation 4da70c48d1aefe30… (all of the seat's roots in one cut). By AI agents, Wed Nov 11 2026. No macro, syntax, notation, axiom, sorry.
-/
import Derived.Test.YtiophiipmgpaeaaChecked
import GoSem.Claim
import GoSem.ClaimJoined
import GoSem.ClaimMapViews
import Derived.JoinedTies
import Derived.KernelRfl
namespace Go.Proofs.Ytiophiipmgpaeaa
/- THE CELL 'sum', in the pinned program and in every row, IS THE sha256 OF THE DUMP (.gsa) THAT YtiophiipmgpaeaaProg.lean LOADS. Nothing in Lean hashes anything: it is a label: what it is worth is what the hold of that sum in a sandbox is worth. -/
noncomputable def Try.pinned : Pinned := { name := "ytiophiipmgpaeaa", sum := "4da70c48d1aefe30fd6b5280d32e5ac1e4ace239e4d1a88b5a26f25a03ca2678", checked := Try.checked }
namespace Rows
def none {H : Type} : Left H := { results := [], args := [] }

/-- 'laws.FnExactAreSlips': WHATEVER THE INPUT: true; the input reads as it did. -/
def fnExactAreSlipsSpec : ChangeSpec := { name := "fnExactAreSlips", fn := fun _ => fun
  | [d1, d2] => { results := [.lit (.bool true)], args := [d1, d2] }
  | _ => none }
def fnExactAreSlipsRow : OpenClaim := { program := "ytiophiipmgpaeaa", sum := "4da70c48d1aefe30fd6b5280d32e5ac1e4ace239e4d1a88b5a26f25a03ca2678", func := "loop.example/g03004/laws.FnExactAreSlips", spec := "fnExactAreSlips", apart := false }
def FnExactAreSlipsSaid : Prop := fnExactAreSlipsRow.holds Try.pinned (OpenSpec.ofChange fnExactAreSlipsSpec)

/-- ITS FALSE NEIGHBOUR: 'it returns false'. Refute it at one input. -/
def fnExactAreSlipsWrong : ChangeSpec := { name := "fnExactAreSlips", fn := fun _ => fun
  | [d1, d2] => { results := [.lit (.bool false)], args := [d1, d2] }
  | _ => none }
def FnExactAreSlipsWrongFalsely : Prop := fnExactAreSlipsRow.holds Try.pinned (OpenSpec.ofChange fnExactAreSlipsWrong)

/-- 'laws.FnExactCountReal': WHATEVER THE INPUT: true; the input reads as it did. -/
def fnExactCountRealSpec : ChangeSpec := { name := "fnExactCountReal", fn := fun _ => fun
  | [d1, d2] => { results := [.lit (.bool true)], args := [d1, d2] }
  | _ => none }
def fnExactCountRealRow : OpenClaim := { program := "ytiophiipmgpaeaa", sum := "4da70c48d1aefe30fd6b5280d32e5ac1e4ace239e4d1a88b5a26f25a03ca2678", func := "loop.example/g03004/laws.FnExactCountReal", spec := "fnExactCountReal", apart := false }
def FnExactCountRealSaid : Prop := fnExactCountRealRow.holds Try.pinned (OpenSpec.ofChange fnExactCountRealSpec)

/-- ITS FALSE NEIGHBOUR: 'it returns false'. Refute it at one input. -/
def fnExactCountRealWrong : ChangeSpec := { name := "fnExactCountReal", fn := fun _ => fun
  | [d1, d2] => { results := [.lit (.bool false)], args := [d1, d2] }
  | _ => none }
def FnExactCountRealWrongFalsely : Prop := fnExactCountRealRow.holds Try.pinned (OpenSpec.ofChange fnExactCountRealWrong)

/-- 'laws.FnExactGapsOf': WHATEVER THE INPUT: true; the input reads as it did. -/
def fnExactGapsOfSpec : ChangeSpec := { name := "fnExactGapsOf", fn := fun _ => fun
  | [d] => { results := [.lit (.bool true)], args := [d] }
  | _ => none }
def fnExactGapsOfRow : OpenClaim := { program := "ytiophiipmgpaeaa", sum := "4da70c48d1aefe30fd6b5280d32e5ac1e4ace239e4d1a88b5a26f25a03ca2678", func := "loop.example/g03004/laws.FnExactGapsOf", spec := "fnExactGapsOf", apart := false }
def FnExactGapsOfSaid : Prop := fnExactGapsOfRow.holds Try.pinned (OpenSpec.ofChange fnExactGapsOfSpec)

/-- ITS FALSE NEIGHBOUR: 'it returns false'. Refute it at one input. -/
def fnExactGapsOfWrong : ChangeSpec := { name := "fnExactGapsOf", fn := fun _ => fun
  | [d] => { results := [.lit (.bool false)], args := [d] }
  | _ => none }
def FnExactGapsOfWrongFalsely : Prop := fnExactGapsOfRow.holds Try.pinned (OpenSpec.ofChange fnExactGapsOfWrong)

/-- 'laws.FnExactPitchesOf': WHATEVER THE INPUT: true; the input reads as it did. -/
def fnExactPitchesOfSpec : ChangeSpec := { name := "fnExactPitchesOf", fn := fun _ => fun
  | [d] => { results := [.lit (.bool true)], args := [d] }
  | _ => none }
def fnExactPitchesOfRow : OpenClaim := { program := "ytiophiipmgpaeaa", sum := "4da70c48d1aefe30fd6b5280d32e5ac1e4ace239e4d1a88b5a26f25a03ca2678", func := "loop.example/g03004/laws.FnExactPitchesOf", spec := "fnExactPitchesOf", apart := false }
def FnExactPitchesOfSaid : Prop := fnExactPitchesOfRow.holds Try.pinned (OpenSpec.ofChange fnExactPitchesOfSpec)

/-- ITS FALSE NEIGHBOUR: 'it returns false'. Refute it at one input. -/
def fnExactPitchesOfWrong : ChangeSpec := { name := "fnExactPitchesOf", fn := fun _ => fun
  | [d] => { results := [.lit (.bool false)], args := [d] }
  | _ => none }
def FnExactPitchesOfWrongFalsely : Prop := fnExactPitchesOfRow.holds Try.pinned (OpenSpec.ofChange fnExactPitchesOfWrong)

/-- 'laws.FnExactShiftAll': WHATEVER THE INPUT: true; the input reads as it did. -/
def fnExactShiftAllSpec : ChangeSpec := { name := "fnExactShiftAll", fn := fun _ => fun
  | [d1, d2] => { results := [.lit (.bool true)], args := [d1, d2] }
  | _ => none }
def fnExactShiftAllRow : OpenClaim := { program := "ytiophiipmgpaeaa", sum := "4da70c48d1aefe30fd6b5280d32e5ac1e4ace239e4d1a88b5a26f25a03ca2678", func := "loop.example/g03004/laws.FnExactShiftAll", spec := "fnExactShiftAll", apart := false }
def FnExactShiftAllSaid : Prop := fnExactShiftAllRow.holds Try.pinned (OpenSpec.ofChange fnExactShiftAllSpec)

/-- ITS FALSE NEIGHBOUR: 'it returns false'. Refute it at one input. -/
def fnExactShiftAllWrong : ChangeSpec := { name := "fnExactShiftAll", fn := fun _ => fun
  | [d1, d2] => { results := [.lit (.bool false)], args := [d1, d2] }
  | _ => none }
def FnExactShiftAllWrongFalsely : Prop := fnExactShiftAllRow.holds Try.pinned (OpenSpec.ofChange fnExactShiftAllWrong)

/-- 'laws.FnExactEventsOf': WHATEVER THE INPUT: true; the input reads as it did. -/
def fnExactEventsOfSpec : ChangeSpec := { name := "fnExactEventsOf", fn := fun _ => fun
  | [d1, d2] => { results := [.lit (.bool true)], args := [d1, d2] }
  | _ => none }
def fnExactEventsOfRow : OpenClaim := { program := "ytiophiipmgpaeaa", sum := "4da70c48d1aefe30fd6b5280d32e5ac1e4ace239e4d1a88b5a26f25a03ca2678", func := "loop.example/g03004/laws.FnExactEventsOf", spec := "fnExactEventsOf", apart := false }
def FnExactEventsOfSaid : Prop := fnExactEventsOfRow.holds Try.pinned (OpenSpec.ofChange fnExactEventsOfSpec)

/-- ITS FALSE NEIGHBOUR: 'it returns false'. Refute it at one input. -/
def fnExactEventsOfWrong : ChangeSpec := { name := "fnExactEventsOf", fn := fun _ => fun
  | [d1, d2] => { results := [.lit (.bool false)], args := [d1, d2] }
  | _ => none }
def FnExactEventsOfWrongFalsely : Prop := fnExactEventsOfRow.holds Try.pinned (OpenSpec.ofChange fnExactEventsOfWrong)

/-- 'laws.FnExactPartFrom': WHATEVER THE INPUT: true; the input reads as it did. -/
def fnExactPartFromSpec : ChangeSpec := { name := "fnExactPartFrom", fn := fun _ => fun
  | [d1, d2, d3] => { results := [.lit (.bool true)], args := [d1, d2, d3] }
  | _ => none }
def fnExactPartFromRow : OpenClaim := { program := "ytiophiipmgpaeaa", sum := "4da70c48d1aefe30fd6b5280d32e5ac1e4ace239e4d1a88b5a26f25a03ca2678", func := "loop.example/g03004/laws.FnExactPartFrom", spec := "fnExactPartFrom", unfollowed := true, recurses := true, apart := false }
def FnExactPartFromSaid : Prop := fnExactPartFromRow.holds Try.pinned (OpenSpec.ofChange fnExactPartFromSpec)

/-- ITS FALSE NEIGHBOUR: 'it returns false'. Refute it at one input. -/
def fnExactPartFromWrong : ChangeSpec := { name := "fnExactPartFrom", fn := fun _ => fun
  | [d1, d2, d3] => { results := [.lit (.bool false)], args := [d1, d2, d3] }
  | _ => none }
def FnExactPartFromWrongFalsely : Prop := fnExactPartFromRow.holds Try.pinned (OpenSpec.ofChange fnExactPartFromWrong)

/-- 'laws.FnExactSpellIn': WHATEVER THE INPUT: true; the input reads as it did. -/
def fnExactSpellInSpec : ChangeSpec := { name := "fnExactSpellIn", fn := fun _ => fun
  | [d1, d2] => { results := [.lit (.bool true)], args := [d1, d2] }
  | _ => none }
def fnExactSpellInRow : OpenClaim := { program := "ytiophiipmgpaeaa", sum := "4da70c48d1aefe30fd6b5280d32e5ac1e4ace239e4d1a88b5a26f25a03ca2678", func := "loop.example/g03004/laws.FnExactSpellIn", spec := "fnExactSpellIn", unfollowed := true, recurses := true, apart := false }
def FnExactSpellInSaid : Prop := fnExactSpellInRow.holds Try.pinned (OpenSpec.ofChange fnExactSpellInSpec)

/-- ITS FALSE NEIGHBOUR: 'it returns false'. Refute it at one input. -/
def fnExactSpellInWrong : ChangeSpec := { name := "fnExactSpellIn", fn := fun _ => fun
  | [d1, d2] => { results := [.lit (.bool false)], args := [d1, d2] }
  | _ => none }
def FnExactSpellInWrongFalsely : Prop := fnExactSpellInRow.holds Try.pinned (OpenSpec.ofChange fnExactSpellInWrong)

/-- 'laws.FnExactSoundsAt': WHATEVER THE INPUT: true; the input reads as it did. -/
def fnExactSoundsAtSpec : ChangeSpec := { name := "fnExactSoundsAt", fn := fun _ => fun
  | [d1, d2] => { results := [.lit (.bool true)], args := [d1, d2] }
  | _ => none }
def fnExactSoundsAtRow : OpenClaim := { program := "ytiophiipmgpaeaa", sum := "4da70c48d1aefe30fd6b5280d32e5ac1e4ace239e4d1a88b5a26f25a03ca2678", func := "loop.example/g03004/laws.FnExactSoundsAt", spec := "fnExactSoundsAt", recurses := true, apart := false }
def FnExactSoundsAtSaid : Prop := fnExactSoundsAtRow.holds Try.pinned (OpenSpec.ofChange fnExactSoundsAtSpec)

/-- ITS FALSE NEIGHBOUR: 'it returns false'. Refute it at one input. -/
def fnExactSoundsAtWrong : ChangeSpec := { name := "fnExactSoundsAt", fn := fun _ => fun
  | [d1, d2] => { results := [.lit (.bool false)], args := [d1, d2] }
  | _ => none }
def FnExactSoundsAtWrongFalsely : Prop := fnExactSoundsAtRow.holds Try.pinned (OpenSpec.ofChange fnExactSoundsAtWrong)

/-- 'laws.FnExactPlayScore': WHATEVER THE INPUT: true; the input reads as it did. -/
def fnExactPlayScoreSpec : ChangeSpec := { name := "fnExactPlayScore", fn := fun _ => fun
  | [d1, d2] => { results := [.lit (.bool true)], args := [d1, d2] }
  | _ => none }
def fnExactPlayScoreRow : OpenClaim := { program := "ytiophiipmgpaeaa", sum := "4da70c48d1aefe30fd6b5280d32e5ac1e4ace239e4d1a88b5a26f25a03ca2678", func := "loop.example/g03004/laws.FnExactPlayScore", spec := "fnExactPlayScore", unfollowed := true, recurses := true, apart := false }
def FnExactPlayScoreSaid : Prop := fnExactPlayScoreRow.holds Try.pinned (OpenSpec.ofChange fnExactPlayScoreSpec)

/-- ITS FALSE NEIGHBOUR: 'it returns false'. Refute it at one input. -/
def fnExactPlayScoreWrong : ChangeSpec := { name := "fnExactPlayScore", fn := fun _ => fun
  | [d1, d2] => { results := [.lit (.bool false)], args := [d1, d2] }
  | _ => none }
def FnExactPlayScoreWrongFalsely : Prop := fnExactPlayScoreRow.holds Try.pinned (OpenSpec.ofChange fnExactPlayScoreWrong)

/-- 'laws.FnForms': WHATEVER THE INPUT: true; the input reads as it did. -/
def fnFormsSpec : ChangeSpec := { name := "fnForms", fn := fun _ => fun
  | [d] => { results := [.lit (.bool true)], args := [d] }
  | _ => none }
def fnFormsRow : OpenClaim := { program := "ytiophiipmgpaeaa", sum := "4da70c48d1aefe30fd6b5280d32e5ac1e4ace239e4d1a88b5a26f25a03ca2678", func := "loop.example/g03004/laws.FnForms", spec := "fnForms", apart := false }
def FnFormsSaid : Prop := fnFormsRow.holds Try.pinned (OpenSpec.ofChange fnFormsSpec)

/-- ITS FALSE NEIGHBOUR: 'it returns false'. Refute it at one input. -/
def fnFormsWrong : ChangeSpec := { name := "fnForms", fn := fun _ => fun
  | [d] => { results := [.lit (.bool false)], args := [d] }
  | _ => none }
def FnFormsWrongFalsely : Prop := fnFormsRow.holds Try.pinned (OpenSpec.ofChange fnFormsWrong)

/-- 'laws.FnKeys': WHATEVER THE INPUT: true; the input reads as it did. -/
def fnKeysSpec : ChangeSpec := { name := "fnKeys", fn := fun _ => fun
  | [d] => { results := [.lit (.bool true)], args := [d] }
  | _ => none }
def fnKeysRow : OpenClaim := { program := "ytiophiipmgpaeaa", sum := "4da70c48d1aefe30fd6b5280d32e5ac1e4ace239e4d1a88b5a26f25a03ca2678", func := "loop.example/g03004/laws.FnKeys", spec := "fnKeys", unfollowed := true, recurses := true, apart := false }
def FnKeysSaid : Prop := fnKeysRow.holds Try.pinned (OpenSpec.ofChange fnKeysSpec)

/-- ITS FALSE NEIGHBOUR: 'it returns false'. Refute it at one input. -/
def fnKeysWrong : ChangeSpec := { name := "fnKeys", fn := fun _ => fun
  | [d] => { results := [.lit (.bool false)], args := [d] }
  | _ => none }
def FnKeysWrongFalsely : Prop := fnKeysRow.holds Try.pinned (OpenSpec.ofChange fnKeysWrong)

/- THE SECOND FORM. 'bulk': how many values and letters a reading holds, each counted each time it is reached (what is shared counts as often as it is met; a slice's spare places count too). A statement '..UptoSaid' is the law's where the arguments, and the package variables that the reading takes, are together of bulk at most 1048576: NARROWER than '..Said'. Prove '..Said' where nothing that the law and all that it calls make is longer than what came in: it says more and counts as full. Else prove '..UptoSaid'. A law counts once. -/
mutual
def uptoBulk {H : Type} : DataW H → Nat
  | .lit (.string bytes) => bytes.length + 1
  | .lit _ => 1
  | .nil => 1
  | .ptr d => uptoBulk d + 1
  | .slice elems spare => uptoBulkAll elems + uptoBulkAll spare + 1
  | .agg parts => uptoBulkAll parts + 1
  | .iface _ d => uptoBulk d + 1
  | .map entries => uptoBulkEntries entries + 1
  | .held _ => 1
def uptoBulkAll {H : Type} : List (DataW H) → Nat
  | [] => 0
  | d :: r => uptoBulk d + uptoBulkAll r
def uptoBulkEntries {H : Type} : List (Lit × DataW H) → Nat
  | [] => 0
  | x :: r => uptoBulkEntry x + uptoBulkEntries r
def uptoBulkEntry {H : Type} : Lit × DataW H → Nat
  | (.string bytes, d) => bytes.length + uptoBulk d + 1
  | (_, d) => uptoBulk d + 1
 end
def uptoSmall : (H : Type) → List (DataW H) → Bool := fun _ ds => decide (uptoBulkAll ds ≤ 1048576)
def OpenSpec.upto (s : _root_.Go.ChangeSpec) : _root_.Go.OpenSpec := { _root_.Go.OpenSpec.ofChange s with cond := some uptoSmall }

/-- 'laws.FnExactAreSlips', WHERE WHAT IT READS IS OF BULK AT MOST 1048576: true; the input reads as it did. -/
def fnExactAreSlipsUptoRow : OpenClaim := { program := "ytiophiipmgpaeaa", sum := "4da70c48d1aefe30fd6b5280d32e5ac1e4ace239e4d1a88b5a26f25a03ca2678", func := "loop.example/g03004/laws.FnExactAreSlips", spec := "fnExactAreSlips", apart := false, narrowed := true }
def FnExactAreSlipsUptoSaid : Prop := fnExactAreSlipsUptoRow.holds Try.pinned (OpenSpec.upto fnExactAreSlipsSpec)

/-- 'laws.FnExactCountReal', WHERE WHAT IT READS IS OF BULK AT MOST 1048576: true; the input reads as it did. -/
def fnExactCountRealUptoRow : OpenClaim := { program := "ytiophiipmgpaeaa", sum := "4da70c48d1aefe30fd6b5280d32e5ac1e4ace239e4d1a88b5a26f25a03ca2678", func := "loop.example/g03004/laws.FnExactCountReal", spec := "fnExactCountReal", apart := false, narrowed := true }
def FnExactCountRealUptoSaid : Prop := fnExactCountRealUptoRow.holds Try.pinned (OpenSpec.upto fnExactCountRealSpec)

/-- 'laws.FnExactGapsOf', WHERE WHAT IT READS IS OF BULK AT MOST 1048576: true; the input reads as it did. -/
def fnExactGapsOfUptoRow : OpenClaim := { program := "ytiophiipmgpaeaa", sum := "4da70c48d1aefe30fd6b5280d32e5ac1e4ace239e4d1a88b5a26f25a03ca2678", func := "loop.example/g03004/laws.FnExactGapsOf", spec := "fnExactGapsOf", apart := false, narrowed := true }
def FnExactGapsOfUptoSaid : Prop := fnExactGapsOfUptoRow.holds Try.pinned (OpenSpec.upto fnExactGapsOfSpec)

/-- 'laws.FnExactPitchesOf', WHERE WHAT IT READS IS OF BULK AT MOST 1048576: true; the input reads as it did. -/
def fnExactPitchesOfUptoRow : OpenClaim := { program := "ytiophiipmgpaeaa", sum := "4da70c48d1aefe30fd6b5280d32e5ac1e4ace239e4d1a88b5a26f25a03ca2678", func := "loop.example/g03004/laws.FnExactPitchesOf", spec := "fnExactPitchesOf", apart := false, narrowed := true }
def FnExactPitchesOfUptoSaid : Prop := fnExactPitchesOfUptoRow.holds Try.pinned (OpenSpec.upto fnExactPitchesOfSpec)

/-- 'laws.FnExactShiftAll', WHERE WHAT IT READS IS OF BULK AT MOST 1048576: true; the input reads as it did. -/
def fnExactShiftAllUptoRow : OpenClaim := { program := "ytiophiipmgpaeaa", sum := "4da70c48d1aefe30fd6b5280d32e5ac1e4ace239e4d1a88b5a26f25a03ca2678", func := "loop.example/g03004/laws.FnExactShiftAll", spec := "fnExactShiftAll", apart := false, narrowed := true }
def FnExactShiftAllUptoSaid : Prop := fnExactShiftAllUptoRow.holds Try.pinned (OpenSpec.upto fnExactShiftAllSpec)

/-- 'laws.FnExactEventsOf', WHERE WHAT IT READS IS OF BULK AT MOST 1048576: true; the input reads as it did. -/
def fnExactEventsOfUptoRow : OpenClaim := { program := "ytiophiipmgpaeaa", sum := "4da70c48d1aefe30fd6b5280d32e5ac1e4ace239e4d1a88b5a26f25a03ca2678", func := "loop.example/g03004/laws.FnExactEventsOf", spec := "fnExactEventsOf", apart := false, narrowed := true }
def FnExactEventsOfUptoSaid : Prop := fnExactEventsOfUptoRow.holds Try.pinned (OpenSpec.upto fnExactEventsOfSpec)

/-- 'laws.FnExactPartFrom', WHERE WHAT IT READS IS OF BULK AT MOST 1048576: true; the input reads as it did. -/
def fnExactPartFromUptoRow : OpenClaim := { program := "ytiophiipmgpaeaa", sum := "4da70c48d1aefe30fd6b5280d32e5ac1e4ace239e4d1a88b5a26f25a03ca2678", func := "loop.example/g03004/laws.FnExactPartFrom", spec := "fnExactPartFrom", unfollowed := true, recurses := true, apart := false, narrowed := true }
def FnExactPartFromUptoSaid : Prop := fnExactPartFromUptoRow.holds Try.pinned (OpenSpec.upto fnExactPartFromSpec)

/-- 'laws.FnExactSpellIn', WHERE WHAT IT READS IS OF BULK AT MOST 1048576: true; the input reads as it did. -/
def fnExactSpellInUptoRow : OpenClaim := { program := "ytiophiipmgpaeaa", sum := "4da70c48d1aefe30fd6b5280d32e5ac1e4ace239e4d1a88b5a26f25a03ca2678", func := "loop.example/g03004/laws.FnExactSpellIn", spec := "fnExactSpellIn", unfollowed := true, recurses := true, apart := false, narrowed := true }
def FnExactSpellInUptoSaid : Prop := fnExactSpellInUptoRow.holds Try.pinned (OpenSpec.upto fnExactSpellInSpec)

/-- 'laws.FnExactSoundsAt', WHERE WHAT IT READS IS OF BULK AT MOST 1048576: true; the input reads as it did. -/
def fnExactSoundsAtUptoRow : OpenClaim := { program := "ytiophiipmgpaeaa", sum := "4da70c48d1aefe30fd6b5280d32e5ac1e4ace239e4d1a88b5a26f25a03ca2678", func := "loop.example/g03004/laws.FnExactSoundsAt", spec := "fnExactSoundsAt", recurses := true, apart := false, narrowed := true }
def FnExactSoundsAtUptoSaid : Prop := fnExactSoundsAtUptoRow.holds Try.pinned (OpenSpec.upto fnExactSoundsAtSpec)

/-- 'laws.FnExactPlayScore', WHERE WHAT IT READS IS OF BULK AT MOST 1048576: true; the input reads as it did. -/
def fnExactPlayScoreUptoRow : OpenClaim := { program := "ytiophiipmgpaeaa", sum := "4da70c48d1aefe30fd6b5280d32e5ac1e4ace239e4d1a88b5a26f25a03ca2678", func := "loop.example/g03004/laws.FnExactPlayScore", spec := "fnExactPlayScore", unfollowed := true, recurses := true, apart := false, narrowed := true }
def FnExactPlayScoreUptoSaid : Prop := fnExactPlayScoreUptoRow.holds Try.pinned (OpenSpec.upto fnExactPlayScoreSpec)

/-- 'laws.FnForms', WHERE WHAT IT READS IS OF BULK AT MOST 1048576: true; the input reads as it did. -/
def fnFormsUptoRow : OpenClaim := { program := "ytiophiipmgpaeaa", sum := "4da70c48d1aefe30fd6b5280d32e5ac1e4ace239e4d1a88b5a26f25a03ca2678", func := "loop.example/g03004/laws.FnForms", spec := "fnForms", apart := false, narrowed := true }
def FnFormsUptoSaid : Prop := fnFormsUptoRow.holds Try.pinned (OpenSpec.upto fnFormsSpec)

/-- 'laws.FnKeys', WHERE WHAT IT READS IS OF BULK AT MOST 1048576: true; the input reads as it did. -/
def fnKeysUptoRow : OpenClaim := { program := "ytiophiipmgpaeaa", sum := "4da70c48d1aefe30fd6b5280d32e5ac1e4ace239e4d1a88b5a26f25a03ca2678", func := "loop.example/g03004/laws.FnKeys", spec := "fnKeys", unfollowed := true, recurses := true, apart := false, narrowed := true }
def FnKeysUptoSaid : Prop := fnKeysUptoRow.holds Try.pinned (OpenSpec.upto fnKeysSpec)

end Rows
end Go.Proofs.Ytiophiipmgpaeaa
