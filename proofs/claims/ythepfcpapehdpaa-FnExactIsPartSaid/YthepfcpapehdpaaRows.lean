/-
  No cell of these rows narrows 'for every input' (looked for: loops, veiled, ifaces, maps, wideKeys, modest, calm, conditions, laid).
  DERIVED. THE GIVEN ROWS OF THIS SEAT. 12 by the template 'for every input the law returns true; each argument reads behind the call as it read before'; 0 by the template 'total and deterministic' (their statements: YthepfcpapehdpaaTotals.lean).
  GIVEN WITH THE SEED: the statements are not yours to turn. If you find one false, say at which input.
  Laid BY PROGRAM, IN A SANDBOX (cutbox-rows.mjs): the forced cells as the released guide's own fill.sh prints them over the translation c9e92aa1953575ad… (all of the seat's roots in one cut). By AI agents, Wed Nov 11 2026. No macro, syntax, notation, axiom, sorry.
-/
import Derived.Test.YthepfcpapehdpaaChecked
import GoSem.Claim
import GoSem.ClaimJoined
import GoSem.ClaimMapViews
import Derived.JoinedTies
import Derived.KernelRfl
namespace Go.Proofs.Ythepfcpapehdpaa
/- THE CELL 'sum', in the pinned program and in every row, IS THE sha256 OF THE DUMP (.gsa) THAT YthepfcpapehdpaaProg.lean LOADS. Nothing in Lean hashes anything: it is a label: what it is worth is what the hold of that sum in a sandbox is worth. -/
noncomputable def Try.pinned : Pinned := { name := "ythepfcpapehdpaa", sum := "c9e92aa1953575ad1fca843bd4472eee819acb5b7e9eb8cb37f7e2362d4d4049", checked := Try.checked }
namespace Rows
def none {H : Type} : Left H := { results := [], args := [] }

/-- 'laws.FnExactKindName': WHATEVER THE INPUT: true; the input reads as it did. -/
def fnExactKindNameSpec : ChangeSpec := { name := "fnExactKindName", fn := fun _ => fun
  | [d] => { results := [.lit (.bool true)], args := [d] }
  | _ => none }
def fnExactKindNameRow : OpenClaim := { program := "ythepfcpapehdpaa", sum := "c9e92aa1953575ad1fca843bd4472eee819acb5b7e9eb8cb37f7e2362d4d4049", func := "loop.example/g03004/laws.FnExactKindName", spec := "fnExactKindName", apart := false }
def FnExactKindNameSaid : Prop := fnExactKindNameRow.holds Try.pinned (OpenSpec.ofChange fnExactKindNameSpec)

/-- ITS FALSE NEIGHBOUR: 'it returns false'. Refute it at one input. -/
def fnExactKindNameWrong : ChangeSpec := { name := "fnExactKindName", fn := fun _ => fun
  | [d] => { results := [.lit (.bool false)], args := [d] }
  | _ => none }
def FnExactKindNameWrongFalsely : Prop := fnExactKindNameRow.holds Try.pinned (OpenSpec.ofChange fnExactKindNameWrong)

/-- 'laws.FnExactIsMeter': WHATEVER THE INPUT: true; the input reads as it did. -/
def fnExactIsMeterSpec : ChangeSpec := { name := "fnExactIsMeter", fn := fun _ => fun
  | [d] => { results := [.lit (.bool true)], args := [d] }
  | _ => none }
def fnExactIsMeterRow : OpenClaim := { program := "ythepfcpapehdpaa", sum := "c9e92aa1953575ad1fca843bd4472eee819acb5b7e9eb8cb37f7e2362d4d4049", func := "loop.example/g03004/laws.FnExactIsMeter", spec := "fnExactIsMeter", apart := false }
def FnExactIsMeterSaid : Prop := fnExactIsMeterRow.holds Try.pinned (OpenSpec.ofChange fnExactIsMeterSpec)

/-- ITS FALSE NEIGHBOUR: 'it returns false'. Refute it at one input. -/
def fnExactIsMeterWrong : ChangeSpec := { name := "fnExactIsMeter", fn := fun _ => fun
  | [d] => { results := [.lit (.bool false)], args := [d] }
  | _ => none }
def FnExactIsMeterWrongFalsely : Prop := fnExactIsMeterRow.holds Try.pinned (OpenSpec.ofChange fnExactIsMeterWrong)

/-- 'laws.FnExactBarLong': WHATEVER THE INPUT: true; the input reads as it did. -/
def fnExactBarLongSpec : ChangeSpec := { name := "fnExactBarLong", fn := fun _ => fun
  | [d] => { results := [.lit (.bool true)], args := [d] }
  | _ => none }
def fnExactBarLongRow : OpenClaim := { program := "ythepfcpapehdpaa", sum := "c9e92aa1953575ad1fca843bd4472eee819acb5b7e9eb8cb37f7e2362d4d4049", func := "loop.example/g03004/laws.FnExactBarLong", spec := "fnExactBarLong", apart := false }
def FnExactBarLongSaid : Prop := fnExactBarLongRow.holds Try.pinned (OpenSpec.ofChange fnExactBarLongSpec)

/-- ITS FALSE NEIGHBOUR: 'it returns false'. Refute it at one input. -/
def fnExactBarLongWrong : ChangeSpec := { name := "fnExactBarLong", fn := fun _ => fun
  | [d] => { results := [.lit (.bool false)], args := [d] }
  | _ => none }
def FnExactBarLongWrongFalsely : Prop := fnExactBarLongRow.holds Try.pinned (OpenSpec.ofChange fnExactBarLongWrong)

/-- 'laws.FnExactPlaceOf': WHATEVER THE INPUT: true; the input reads as it did. -/
def fnExactPlaceOfSpec : ChangeSpec := { name := "fnExactPlaceOf", fn := fun _ => fun
  | [d1, d2] => { results := [.lit (.bool true)], args := [d1, d2] }
  | _ => none }
def fnExactPlaceOfRow : OpenClaim := { program := "ythepfcpapehdpaa", sum := "c9e92aa1953575ad1fca843bd4472eee819acb5b7e9eb8cb37f7e2362d4d4049", func := "loop.example/g03004/laws.FnExactPlaceOf", spec := "fnExactPlaceOf", apart := false }
def FnExactPlaceOfSaid : Prop := fnExactPlaceOfRow.holds Try.pinned (OpenSpec.ofChange fnExactPlaceOfSpec)

/-- ITS FALSE NEIGHBOUR: 'it returns false'. Refute it at one input. -/
def fnExactPlaceOfWrong : ChangeSpec := { name := "fnExactPlaceOf", fn := fun _ => fun
  | [d1, d2] => { results := [.lit (.bool false)], args := [d1, d2] }
  | _ => none }
def FnExactPlaceOfWrongFalsely : Prop := fnExactPlaceOfRow.holds Try.pinned (OpenSpec.ofChange fnExactPlaceOfWrong)

/-- 'laws.FnExactTickOf': WHATEVER THE INPUT: true; the input reads as it did. -/
def fnExactTickOfSpec : ChangeSpec := { name := "fnExactTickOf", fn := fun _ => fun
  | [d1, d2, d3] => { results := [.lit (.bool true)], args := [d1, d2, d3] }
  | _ => none }
def fnExactTickOfRow : OpenClaim := { program := "ythepfcpapehdpaa", sum := "c9e92aa1953575ad1fca843bd4472eee819acb5b7e9eb8cb37f7e2362d4d4049", func := "loop.example/g03004/laws.FnExactTickOf", spec := "fnExactTickOf", apart := false }
def FnExactTickOfSaid : Prop := fnExactTickOfRow.holds Try.pinned (OpenSpec.ofChange fnExactTickOfSpec)

/-- ITS FALSE NEIGHBOUR: 'it returns false'. Refute it at one input. -/
def fnExactTickOfWrong : ChangeSpec := { name := "fnExactTickOf", fn := fun _ => fun
  | [d1, d2, d3] => { results := [.lit (.bool false)], args := [d1, d2, d3] }
  | _ => none }
def FnExactTickOfWrongFalsely : Prop := fnExactTickOfRow.holds Try.pinned (OpenSpec.ofChange fnExactTickOfWrong)

/-- 'laws.FnExactIsPerformance': WHATEVER THE INPUT: true; the input reads as it did. -/
def fnExactIsPerformanceSpec : ChangeSpec := { name := "fnExactIsPerformance", fn := fun _ => fun
  | [d] => { results := [.lit (.bool true)], args := [d] }
  | _ => none }
def fnExactIsPerformanceRow : OpenClaim := { program := "ythepfcpapehdpaa", sum := "c9e92aa1953575ad1fca843bd4472eee819acb5b7e9eb8cb37f7e2362d4d4049", func := "loop.example/g03004/laws.FnExactIsPerformance", spec := "fnExactIsPerformance", apart := false }
def FnExactIsPerformanceSaid : Prop := fnExactIsPerformanceRow.holds Try.pinned (OpenSpec.ofChange fnExactIsPerformanceSpec)

/-- ITS FALSE NEIGHBOUR: 'it returns false'. Refute it at one input. -/
def fnExactIsPerformanceWrong : ChangeSpec := { name := "fnExactIsPerformance", fn := fun _ => fun
  | [d] => { results := [.lit (.bool false)], args := [d] }
  | _ => none }
def FnExactIsPerformanceWrongFalsely : Prop := fnExactIsPerformanceRow.holds Try.pinned (OpenSpec.ofChange fnExactIsPerformanceWrong)

/-- 'laws.FnExactIsTempo': WHATEVER THE INPUT: true; the input reads as it did. -/
def fnExactIsTempoSpec : ChangeSpec := { name := "fnExactIsTempo", fn := fun _ => fun
  | [d] => { results := [.lit (.bool true)], args := [d] }
  | _ => none }
def fnExactIsTempoRow : OpenClaim := { program := "ythepfcpapehdpaa", sum := "c9e92aa1953575ad1fca843bd4472eee819acb5b7e9eb8cb37f7e2362d4d4049", func := "loop.example/g03004/laws.FnExactIsTempo", spec := "fnExactIsTempo", apart := false }
def FnExactIsTempoSaid : Prop := fnExactIsTempoRow.holds Try.pinned (OpenSpec.ofChange fnExactIsTempoSpec)

/-- ITS FALSE NEIGHBOUR: 'it returns false'. Refute it at one input. -/
def fnExactIsTempoWrong : ChangeSpec := { name := "fnExactIsTempo", fn := fun _ => fun
  | [d] => { results := [.lit (.bool false)], args := [d] }
  | _ => none }
def FnExactIsTempoWrongFalsely : Prop := fnExactIsTempoRow.holds Try.pinned (OpenSpec.ofChange fnExactIsTempoWrong)

/-- 'laws.FnExactCountNotes': WHATEVER THE INPUT: true; the input reads as it did. -/
def fnExactCountNotesSpec : ChangeSpec := { name := "fnExactCountNotes", fn := fun _ => fun
  | [d] => { results := [.lit (.bool true)], args := [d] }
  | _ => none }
def fnExactCountNotesRow : OpenClaim := { program := "ythepfcpapehdpaa", sum := "c9e92aa1953575ad1fca843bd4472eee819acb5b7e9eb8cb37f7e2362d4d4049", func := "loop.example/g03004/laws.FnExactCountNotes", spec := "fnExactCountNotes", apart := false }
def FnExactCountNotesSaid : Prop := fnExactCountNotesRow.holds Try.pinned (OpenSpec.ofChange fnExactCountNotesSpec)

/-- ITS FALSE NEIGHBOUR: 'it returns false'. Refute it at one input. -/
def fnExactCountNotesWrong : ChangeSpec := { name := "fnExactCountNotes", fn := fun _ => fun
  | [d] => { results := [.lit (.bool false)], args := [d] }
  | _ => none }
def FnExactCountNotesWrongFalsely : Prop := fnExactCountNotesRow.holds Try.pinned (OpenSpec.ofChange fnExactCountNotesWrong)

/-- 'laws.FnExactEqualParts': WHATEVER THE INPUT: true; the input reads as it did. -/
def fnExactEqualPartsSpec : ChangeSpec := { name := "fnExactEqualParts", fn := fun _ => fun
  | [d1, d2] => { results := [.lit (.bool true)], args := [d1, d2] }
  | _ => none }
def fnExactEqualPartsRow : OpenClaim := { program := "ythepfcpapehdpaa", sum := "c9e92aa1953575ad1fca843bd4472eee819acb5b7e9eb8cb37f7e2362d4d4049", func := "loop.example/g03004/laws.FnExactEqualParts", spec := "fnExactEqualParts", apart := false }
def FnExactEqualPartsSaid : Prop := fnExactEqualPartsRow.holds Try.pinned (OpenSpec.ofChange fnExactEqualPartsSpec)

/-- ITS FALSE NEIGHBOUR: 'it returns false'. Refute it at one input. -/
def fnExactEqualPartsWrong : ChangeSpec := { name := "fnExactEqualParts", fn := fun _ => fun
  | [d1, d2] => { results := [.lit (.bool false)], args := [d1, d2] }
  | _ => none }
def FnExactEqualPartsWrongFalsely : Prop := fnExactEqualPartsRow.holds Try.pinned (OpenSpec.ofChange fnExactEqualPartsWrong)

/-- 'laws.FnExactLongestRest': WHATEVER THE INPUT: true; the input reads as it did. -/
def fnExactLongestRestSpec : ChangeSpec := { name := "fnExactLongestRest", fn := fun _ => fun
  | [d] => { results := [.lit (.bool true)], args := [d] }
  | _ => none }
def fnExactLongestRestRow : OpenClaim := { program := "ythepfcpapehdpaa", sum := "c9e92aa1953575ad1fca843bd4472eee819acb5b7e9eb8cb37f7e2362d4d4049", func := "loop.example/g03004/laws.FnExactLongestRest", spec := "fnExactLongestRest", apart := false }
def FnExactLongestRestSaid : Prop := fnExactLongestRestRow.holds Try.pinned (OpenSpec.ofChange fnExactLongestRestSpec)

/-- ITS FALSE NEIGHBOUR: 'it returns false'. Refute it at one input. -/
def fnExactLongestRestWrong : ChangeSpec := { name := "fnExactLongestRest", fn := fun _ => fun
  | [d] => { results := [.lit (.bool false)], args := [d] }
  | _ => none }
def FnExactLongestRestWrongFalsely : Prop := fnExactLongestRestRow.holds Try.pinned (OpenSpec.ofChange fnExactLongestRestWrong)

/-- 'laws.FnExactIsPart': WHATEVER THE INPUT: true; the input reads as it did. -/
def fnExactIsPartSpec : ChangeSpec := { name := "fnExactIsPart", fn := fun _ => fun
  | [d] => { results := [.lit (.bool true)], args := [d] }
  | _ => none }
def fnExactIsPartRow : OpenClaim := { program := "ythepfcpapehdpaa", sum := "c9e92aa1953575ad1fca843bd4472eee819acb5b7e9eb8cb37f7e2362d4d4049", func := "loop.example/g03004/laws.FnExactIsPart", spec := "fnExactIsPart", apart := false }
def FnExactIsPartSaid : Prop := fnExactIsPartRow.holds Try.pinned (OpenSpec.ofChange fnExactIsPartSpec)

/-- ITS FALSE NEIGHBOUR: 'it returns false'. Refute it at one input. -/
def fnExactIsPartWrong : ChangeSpec := { name := "fnExactIsPart", fn := fun _ => fun
  | [d] => { results := [.lit (.bool false)], args := [d] }
  | _ => none }
def FnExactIsPartWrongFalsely : Prop := fnExactIsPartRow.holds Try.pinned (OpenSpec.ofChange fnExactIsPartWrong)

/-- 'laws.FnExactEqualScores': WHATEVER THE INPUT: true; the input reads as it did. -/
def fnExactEqualScoresSpec : ChangeSpec := { name := "fnExactEqualScores", fn := fun _ => fun
  | [d1, d2] => { results := [.lit (.bool true)], args := [d1, d2] }
  | _ => none }
def fnExactEqualScoresRow : OpenClaim := { program := "ythepfcpapehdpaa", sum := "c9e92aa1953575ad1fca843bd4472eee819acb5b7e9eb8cb37f7e2362d4d4049", func := "loop.example/g03004/laws.FnExactEqualScores", spec := "fnExactEqualScores", apart := false }
def FnExactEqualScoresSaid : Prop := fnExactEqualScoresRow.holds Try.pinned (OpenSpec.ofChange fnExactEqualScoresSpec)

/-- ITS FALSE NEIGHBOUR: 'it returns false'. Refute it at one input. -/
def fnExactEqualScoresWrong : ChangeSpec := { name := "fnExactEqualScores", fn := fun _ => fun
  | [d1, d2] => { results := [.lit (.bool false)], args := [d1, d2] }
  | _ => none }
def FnExactEqualScoresWrongFalsely : Prop := fnExactEqualScoresRow.holds Try.pinned (OpenSpec.ofChange fnExactEqualScoresWrong)

/- THE SECOND FORM. 'bulk': how many values and letters a reading holds, each counted each time it is reached (what is shared counts as often as it is met; a slice's spare places count too). A statement '..UptoSaid' is the law's where the arguments, and the package variables that the reading takes, are together of bulk at most 1048576: NARROWER than '..Said'. Prove '..Said' where nothing that the law and all that it calls make is longer than what came in: it says more and counts as full. Else prove '..UptoSaid'. A law counts once. -/
mutual
def uptoBulk {H : Type} : DataW H → Nat
  | .lit (.string bytes) => bytes.length + 1
  | .lit _ => 1
  | .nil => 1
  | .ptr d => uptoBulk d + 1
  | .slice elems spare => uptoBulkAll elems + uptoBulkAll spare + 1
  | .agg parts => uptoBulkAll parts + 1
  | .iface _ d => uptoBulk d + 1
  | .map entries => uptoBulkEntries entries + 1
  | .held _ => 1
def uptoBulkAll {H : Type} : List (DataW H) → Nat
  | [] => 0
  | d :: r => uptoBulk d + uptoBulkAll r
def uptoBulkEntries {H : Type} : List (Lit × DataW H) → Nat
  | [] => 0
  | x :: r => uptoBulkEntry x + uptoBulkEntries r
def uptoBulkEntry {H : Type} : Lit × DataW H → Nat
  | (.string bytes, d) => bytes.length + uptoBulk d + 1
  | (_, d) => uptoBulk d + 1
 end
def uptoSmall : (H : Type) → List (DataW H) → Bool := fun _ ds => decide (uptoBulkAll ds ≤ 1048576)
def OpenSpec.upto (s : _root_.Go.ChangeSpec) : _root_.Go.OpenSpec := { _root_.Go.OpenSpec.ofChange s with cond := some uptoSmall }

/-- 'laws.FnExactKindName', WHERE WHAT IT READS IS OF BULK AT MOST 1048576: true; the input reads as it did. -/
def fnExactKindNameUptoRow : OpenClaim := { program := "ythepfcpapehdpaa", sum := "c9e92aa1953575ad1fca843bd4472eee819acb5b7e9eb8cb37f7e2362d4d4049", func := "loop.example/g03004/laws.FnExactKindName", spec := "fnExactKindName", apart := false, narrowed := true }
def FnExactKindNameUptoSaid : Prop := fnExactKindNameUptoRow.holds Try.pinned (OpenSpec.upto fnExactKindNameSpec)

/-- 'laws.FnExactIsMeter', WHERE WHAT IT READS IS OF BULK AT MOST 1048576: true; the input reads as it did. -/
def fnExactIsMeterUptoRow : OpenClaim := { program := "ythepfcpapehdpaa", sum := "c9e92aa1953575ad1fca843bd4472eee819acb5b7e9eb8cb37f7e2362d4d4049", func := "loop.example/g03004/laws.FnExactIsMeter", spec := "fnExactIsMeter", apart := false, narrowed := true }
def FnExactIsMeterUptoSaid : Prop := fnExactIsMeterUptoRow.holds Try.pinned (OpenSpec.upto fnExactIsMeterSpec)

/-- 'laws.FnExactBarLong', WHERE WHAT IT READS IS OF BULK AT MOST 1048576: true; the input reads as it did. -/
def fnExactBarLongUptoRow : OpenClaim := { program := "ythepfcpapehdpaa", sum := "c9e92aa1953575ad1fca843bd4472eee819acb5b7e9eb8cb37f7e2362d4d4049", func := "loop.example/g03004/laws.FnExactBarLong", spec := "fnExactBarLong", apart := false, narrowed := true }
def FnExactBarLongUptoSaid : Prop := fnExactBarLongUptoRow.holds Try.pinned (OpenSpec.upto fnExactBarLongSpec)

/-- 'laws.FnExactPlaceOf', WHERE WHAT IT READS IS OF BULK AT MOST 1048576: true; the input reads as it did. -/
def fnExactPlaceOfUptoRow : OpenClaim := { program := "ythepfcpapehdpaa", sum := "c9e92aa1953575ad1fca843bd4472eee819acb5b7e9eb8cb37f7e2362d4d4049", func := "loop.example/g03004/laws.FnExactPlaceOf", spec := "fnExactPlaceOf", apart := false, narrowed := true }
def FnExactPlaceOfUptoSaid : Prop := fnExactPlaceOfUptoRow.holds Try.pinned (OpenSpec.upto fnExactPlaceOfSpec)

/-- 'laws.FnExactTickOf', WHERE WHAT IT READS IS OF BULK AT MOST 1048576: true; the input reads as it did. -/
def fnExactTickOfUptoRow : OpenClaim := { program := "ythepfcpapehdpaa", sum := "c9e92aa1953575ad1fca843bd4472eee819acb5b7e9eb8cb37f7e2362d4d4049", func := "loop.example/g03004/laws.FnExactTickOf", spec := "fnExactTickOf", apart := false, narrowed := true }
def FnExactTickOfUptoSaid : Prop := fnExactTickOfUptoRow.holds Try.pinned (OpenSpec.upto fnExactTickOfSpec)

/-- 'laws.FnExactIsPerformance', WHERE WHAT IT READS IS OF BULK AT MOST 1048576: true; the input reads as it did. -/
def fnExactIsPerformanceUptoRow : OpenClaim := { program := "ythepfcpapehdpaa", sum := "c9e92aa1953575ad1fca843bd4472eee819acb5b7e9eb8cb37f7e2362d4d4049", func := "loop.example/g03004/laws.FnExactIsPerformance", spec := "fnExactIsPerformance", apart := false, narrowed := true }
def FnExactIsPerformanceUptoSaid : Prop := fnExactIsPerformanceUptoRow.holds Try.pinned (OpenSpec.upto fnExactIsPerformanceSpec)

/-- 'laws.FnExactIsTempo', WHERE WHAT IT READS IS OF BULK AT MOST 1048576: true; the input reads as it did. -/
def fnExactIsTempoUptoRow : OpenClaim := { program := "ythepfcpapehdpaa", sum := "c9e92aa1953575ad1fca843bd4472eee819acb5b7e9eb8cb37f7e2362d4d4049", func := "loop.example/g03004/laws.FnExactIsTempo", spec := "fnExactIsTempo", apart := false, narrowed := true }
def FnExactIsTempoUptoSaid : Prop := fnExactIsTempoUptoRow.holds Try.pinned (OpenSpec.upto fnExactIsTempoSpec)

/-- 'laws.FnExactCountNotes', WHERE WHAT IT READS IS OF BULK AT MOST 1048576: true; the input reads as it did. -/
def fnExactCountNotesUptoRow : OpenClaim := { program := "ythepfcpapehdpaa", sum := "c9e92aa1953575ad1fca843bd4472eee819acb5b7e9eb8cb37f7e2362d4d4049", func := "loop.example/g03004/laws.FnExactCountNotes", spec := "fnExactCountNotes", apart := false, narrowed := true }
def FnExactCountNotesUptoSaid : Prop := fnExactCountNotesUptoRow.holds Try.pinned (OpenSpec.upto fnExactCountNotesSpec)

/-- 'laws.FnExactEqualParts', WHERE WHAT IT READS IS OF BULK AT MOST 1048576: true; the input reads as it did. -/
def fnExactEqualPartsUptoRow : OpenClaim := { program := "ythepfcpapehdpaa", sum := "c9e92aa1953575ad1fca843bd4472eee819acb5b7e9eb8cb37f7e2362d4d4049", func := "loop.example/g03004/laws.FnExactEqualParts", spec := "fnExactEqualParts", apart := false, narrowed := true }
def FnExactEqualPartsUptoSaid : Prop := fnExactEqualPartsUptoRow.holds Try.pinned (OpenSpec.upto fnExactEqualPartsSpec)

/-- 'laws.FnExactLongestRest', WHERE WHAT IT READS IS OF BULK AT MOST 1048576: true; the input reads as it did. -/
def fnExactLongestRestUptoRow : OpenClaim := { program := "ythepfcpapehdpaa", sum := "c9e92aa1953575ad1fca843bd4472eee819acb5b7e9eb8cb37f7e2362d4d4049", func := "loop.example/g03004/laws.FnExactLongestRest", spec := "fnExactLongestRest", apart := false, narrowed := true }
def FnExactLongestRestUptoSaid : Prop := fnExactLongestRestUptoRow.holds Try.pinned (OpenSpec.upto fnExactLongestRestSpec)

/-- 'laws.FnExactIsPart', WHERE WHAT IT READS IS OF BULK AT MOST 1048576: true; the input reads as it did. -/
def fnExactIsPartUptoRow : OpenClaim := { program := "ythepfcpapehdpaa", sum := "c9e92aa1953575ad1fca843bd4472eee819acb5b7e9eb8cb37f7e2362d4d4049", func := "loop.example/g03004/laws.FnExactIsPart", spec := "fnExactIsPart", apart := false, narrowed := true }
def FnExactIsPartUptoSaid : Prop := fnExactIsPartUptoRow.holds Try.pinned (OpenSpec.upto fnExactIsPartSpec)

/-- 'laws.FnExactEqualScores', WHERE WHAT IT READS IS OF BULK AT MOST 1048576: true; the input reads as it did. -/
def fnExactEqualScoresUptoRow : OpenClaim := { program := "ythepfcpapehdpaa", sum := "c9e92aa1953575ad1fca843bd4472eee819acb5b7e9eb8cb37f7e2362d4d4049", func := "loop.example/g03004/laws.FnExactEqualScores", spec := "fnExactEqualScores", apart := false, narrowed := true }
def FnExactEqualScoresUptoSaid : Prop := fnExactEqualScoresUptoRow.holds Try.pinned (OpenSpec.upto fnExactEqualScoresSpec)

end Rows
end Go.Proofs.Ythepfcpapehdpaa
