/-
  No cell of these rows narrows 'for every input' (looked for: loops, veiled, ifaces, maps, wideKeys, modest, calm, conditions, laid).
  DERIVED. THE GIVEN ROWS OF THIS SEAT. 14 by the template 'for every input the law returns true; each argument reads behind the call as it read before'; 0 by the template 'total and deterministic' (their statements: YthkhfmomibfkjaaTotals.lean).
  GIVEN WITH THE SEED: the statements are not yours to turn. If you find one false, say at which input.
  Laid BY PROGRAM, IN A SANDBOX (cutbox-rows.mjs): the forced cells as the released guide's own fill.sh prints them over the translation 940da049a395b4d0… (all of the seat's roots in one cut). By AI agents, Wed Nov 11 2026. No macro, syntax, notation, axiom, sorry.
-/
import Derived.Test.YthkhfmomibfkjaaChecked
import GoSem.Claim
import GoSem.ClaimJoined
import GoSem.ClaimMapViews
import Derived.JoinedTies
import Derived.KernelRfl
namespace Go.Proofs.Ythkhfmomibfkjaa
/- THE CELL 'sum', in the pinned program and in every row, IS THE sha256 OF THE DUMP (.gsa) THAT YthkhfmomibfkjaaProg.lean LOADS. Nothing in Lean hashes anything: it is a label: what it is worth is what the hold of that sum in a sandbox is worth. -/
noncomputable def Try.pinned : Pinned := { name := "ythkhfmomibfkjaa", sum := "940da049a395b4d0649683694c000e228097edad1f4ba0def8684d8c54a12dcf", checked := Try.checked }
namespace Rows
def none {H : Type} : Left H := { results := [], args := [] }

/-- 'laws.FnExactNumber': WHATEVER THE INPUT: true; the input reads as it did. -/
def fnExactNumberSpec : ChangeSpec := { name := "fnExactNumber", fn := fun _ => fun
  | [d] => { results := [.lit (.bool true)], args := [d] }
  | _ => none }
def fnExactNumberRow : OpenClaim := { program := "ythkhfmomibfkjaa", sum := "940da049a395b4d0649683694c000e228097edad1f4ba0def8684d8c54a12dcf", func := "loop.example/g00217/laws.FnExactNumber", spec := "fnExactNumber", apart := false }
def FnExactNumberSaid : Prop := fnExactNumberRow.holds Try.pinned (OpenSpec.ofChange fnExactNumberSpec)

/-- ITS FALSE NEIGHBOUR: 'it returns false'. Refute it at one input. -/
def fnExactNumberWrong : ChangeSpec := { name := "fnExactNumber", fn := fun _ => fun
  | [d] => { results := [.lit (.bool false)], args := [d] }
  | _ => none }
def FnExactNumberWrongFalsely : Prop := fnExactNumberRow.holds Try.pinned (OpenSpec.ofChange fnExactNumberWrong)

/-- 'laws.FnExactText': WHATEVER THE INPUT: true; the input reads as it did. -/
def fnExactTextSpec : ChangeSpec := { name := "fnExactText", fn := fun _ => fun
  | [d] => { results := [.lit (.bool true)], args := [d] }
  | _ => none }
def fnExactTextRow : OpenClaim := { program := "ythkhfmomibfkjaa", sum := "940da049a395b4d0649683694c000e228097edad1f4ba0def8684d8c54a12dcf", func := "loop.example/g00217/laws.FnExactText", spec := "fnExactText", apart := false }
def FnExactTextSaid : Prop := fnExactTextRow.holds Try.pinned (OpenSpec.ofChange fnExactTextSpec)

/-- ITS FALSE NEIGHBOUR: 'it returns false'. Refute it at one input. -/
def fnExactTextWrong : ChangeSpec := { name := "fnExactText", fn := fun _ => fun
  | [d] => { results := [.lit (.bool false)], args := [d] }
  | _ => none }
def FnExactTextWrongFalsely : Prop := fnExactTextRow.holds Try.pinned (OpenSpec.ofChange fnExactTextWrong)

/-- 'laws.FnExactReadText': WHATEVER THE INPUT: true; the input reads as it did. -/
def fnExactReadTextSpec : ChangeSpec := { name := "fnExactReadText", fn := fun _ => fun
  | [d] => { results := [.lit (.bool true)], args := [d] }
  | _ => none }
def fnExactReadTextRow : OpenClaim := { program := "ythkhfmomibfkjaa", sum := "940da049a395b4d0649683694c000e228097edad1f4ba0def8684d8c54a12dcf", func := "loop.example/g00217/laws.FnExactReadText", spec := "fnExactReadText", apart := false }
def FnExactReadTextSaid : Prop := fnExactReadTextRow.holds Try.pinned (OpenSpec.ofChange fnExactReadTextSpec)

/-- ITS FALSE NEIGHBOUR: 'it returns false'. Refute it at one input. -/
def fnExactReadTextWrong : ChangeSpec := { name := "fnExactReadText", fn := fun _ => fun
  | [d] => { results := [.lit (.bool false)], args := [d] }
  | _ => none }
def FnExactReadTextWrongFalsely : Prop := fnExactReadTextRow.holds Try.pinned (OpenSpec.ofChange fnExactReadTextWrong)

/-- 'laws.FnExactTexts': WHATEVER THE INPUT: true; the input reads as it did. -/
def fnExactTextsSpec : ChangeSpec := { name := "fnExactTexts", fn := fun _ => fun
  | [d] => { results := [.lit (.bool true)], args := [d] }
  | _ => none }
def fnExactTextsRow : OpenClaim := { program := "ythkhfmomibfkjaa", sum := "940da049a395b4d0649683694c000e228097edad1f4ba0def8684d8c54a12dcf", func := "loop.example/g00217/laws.FnExactTexts", spec := "fnExactTexts", apart := false }
def FnExactTextsSaid : Prop := fnExactTextsRow.holds Try.pinned (OpenSpec.ofChange fnExactTextsSpec)

/-- ITS FALSE NEIGHBOUR: 'it returns false'. Refute it at one input. -/
def fnExactTextsWrong : ChangeSpec := { name := "fnExactTexts", fn := fun _ => fun
  | [d] => { results := [.lit (.bool false)], args := [d] }
  | _ => none }
def FnExactTextsWrongFalsely : Prop := fnExactTextsRow.holds Try.pinned (OpenSpec.ofChange fnExactTextsWrong)

/-- 'laws.FnExactReadTexts': WHATEVER THE INPUT: true; the input reads as it did. -/
def fnExactReadTextsSpec : ChangeSpec := { name := "fnExactReadTexts", fn := fun _ => fun
  | [d] => { results := [.lit (.bool true)], args := [d] }
  | _ => none }
def fnExactReadTextsRow : OpenClaim := { program := "ythkhfmomibfkjaa", sum := "940da049a395b4d0649683694c000e228097edad1f4ba0def8684d8c54a12dcf", func := "loop.example/g00217/laws.FnExactReadTexts", spec := "fnExactReadTexts", apart := false }
def FnExactReadTextsSaid : Prop := fnExactReadTextsRow.holds Try.pinned (OpenSpec.ofChange fnExactReadTextsSpec)

/-- ITS FALSE NEIGHBOUR: 'it returns false'. Refute it at one input. -/
def fnExactReadTextsWrong : ChangeSpec := { name := "fnExactReadTexts", fn := fun _ => fun
  | [d] => { results := [.lit (.bool false)], args := [d] }
  | _ => none }
def FnExactReadTextsWrongFalsely : Prop := fnExactReadTextsRow.holds Try.pinned (OpenSpec.ofChange fnExactReadTextsWrong)

/-- 'laws.FnExactEntriesOk': WHATEVER THE INPUT: true; the input reads as it did. -/
def fnExactEntriesOkSpec : ChangeSpec := { name := "fnExactEntriesOk", fn := fun _ => fun
  | [d] => { results := [.lit (.bool true)], args := [d] }
  | _ => none }
def fnExactEntriesOkRow : OpenClaim := { program := "ythkhfmomibfkjaa", sum := "940da049a395b4d0649683694c000e228097edad1f4ba0def8684d8c54a12dcf", func := "loop.example/g00217/laws.FnExactEntriesOk", spec := "fnExactEntriesOk", apart := false }
def FnExactEntriesOkSaid : Prop := fnExactEntriesOkRow.holds Try.pinned (OpenSpec.ofChange fnExactEntriesOkSpec)

/-- ITS FALSE NEIGHBOUR: 'it returns false'. Refute it at one input. -/
def fnExactEntriesOkWrong : ChangeSpec := { name := "fnExactEntriesOk", fn := fun _ => fun
  | [d] => { results := [.lit (.bool false)], args := [d] }
  | _ => none }
def FnExactEntriesOkWrongFalsely : Prop := fnExactEntriesOkRow.holds Try.pinned (OpenSpec.ofChange fnExactEntriesOkWrong)

/-- 'laws.FnExactSeen': WHATEVER THE INPUT: true; the input reads as it did. -/
def fnExactSeenSpec : ChangeSpec := { name := "fnExactSeen", fn := fun _ => fun
  | [d1, d2, d3] => { results := [.lit (.bool true)], args := [d1, d2, d3] }
  | _ => none }
def fnExactSeenRow : OpenClaim := { program := "ythkhfmomibfkjaa", sum := "940da049a395b4d0649683694c000e228097edad1f4ba0def8684d8c54a12dcf", func := "loop.example/g00217/laws.FnExactSeen", spec := "fnExactSeen", apart := false }
def FnExactSeenSaid : Prop := fnExactSeenRow.holds Try.pinned (OpenSpec.ofChange fnExactSeenSpec)

/-- ITS FALSE NEIGHBOUR: 'it returns false'. Refute it at one input. -/
def fnExactSeenWrong : ChangeSpec := { name := "fnExactSeen", fn := fun _ => fun
  | [d1, d2, d3] => { results := [.lit (.bool false)], args := [d1, d2, d3] }
  | _ => none }
def FnExactSeenWrongFalsely : Prop := fnExactSeenRow.holds Try.pinned (OpenSpec.ofChange fnExactSeenWrong)

/-- 'laws.FnExactShown': WHATEVER THE INPUT: true; the input reads as it did. -/
def fnExactShownSpec : ChangeSpec := { name := "fnExactShown", fn := fun _ => fun
  | [d1, d2] => { results := [.lit (.bool true)], args := [d1, d2] }
  | _ => none }
def fnExactShownRow : OpenClaim := { program := "ythkhfmomibfkjaa", sum := "940da049a395b4d0649683694c000e228097edad1f4ba0def8684d8c54a12dcf", func := "loop.example/g00217/laws.FnExactShown", spec := "fnExactShown", apart := false }
def FnExactShownSaid : Prop := fnExactShownRow.holds Try.pinned (OpenSpec.ofChange fnExactShownSpec)

/-- ITS FALSE NEIGHBOUR: 'it returns false'. Refute it at one input. -/
def fnExactShownWrong : ChangeSpec := { name := "fnExactShown", fn := fun _ => fun
  | [d1, d2] => { results := [.lit (.bool false)], args := [d1, d2] }
  | _ => none }
def FnExactShownWrongFalsely : Prop := fnExactShownRow.holds Try.pinned (OpenSpec.ofChange fnExactShownWrong)

/-- 'laws.FnExactPacked': WHATEVER THE INPUT: true; the input reads as it did. -/
def fnExactPackedSpec : ChangeSpec := { name := "fnExactPacked", fn := fun _ => fun
  | [d] => { results := [.lit (.bool true)], args := [d] }
  | _ => none }
def fnExactPackedRow : OpenClaim := { program := "ythkhfmomibfkjaa", sum := "940da049a395b4d0649683694c000e228097edad1f4ba0def8684d8c54a12dcf", func := "loop.example/g00217/laws.FnExactPacked", spec := "fnExactPacked", apart := false }
def FnExactPackedSaid : Prop := fnExactPackedRow.holds Try.pinned (OpenSpec.ofChange fnExactPackedSpec)

/-- ITS FALSE NEIGHBOUR: 'it returns false'. Refute it at one input. -/
def fnExactPackedWrong : ChangeSpec := { name := "fnExactPacked", fn := fun _ => fun
  | [d] => { results := [.lit (.bool false)], args := [d] }
  | _ => none }
def FnExactPackedWrongFalsely : Prop := fnExactPackedRow.holds Try.pinned (OpenSpec.ofChange fnExactPackedWrong)

/-- 'laws.FnExactUnpacked': WHATEVER THE INPUT: true; the input reads as it did. -/
def fnExactUnpackedSpec : ChangeSpec := { name := "fnExactUnpacked", fn := fun _ => fun
  | [d] => { results := [.lit (.bool true)], args := [d] }
  | _ => none }
def fnExactUnpackedRow : OpenClaim := { program := "ythkhfmomibfkjaa", sum := "940da049a395b4d0649683694c000e228097edad1f4ba0def8684d8c54a12dcf", func := "loop.example/g00217/laws.FnExactUnpacked", spec := "fnExactUnpacked", apart := false }
def FnExactUnpackedSaid : Prop := fnExactUnpackedRow.holds Try.pinned (OpenSpec.ofChange fnExactUnpackedSpec)

/-- ITS FALSE NEIGHBOUR: 'it returns false'. Refute it at one input. -/
def fnExactUnpackedWrong : ChangeSpec := { name := "fnExactUnpacked", fn := fun _ => fun
  | [d] => { results := [.lit (.bool false)], args := [d] }
  | _ => none }
def FnExactUnpackedWrongFalsely : Prop := fnExactUnpackedRow.holds Try.pinned (OpenSpec.ofChange fnExactUnpackedWrong)

/-- 'laws.FnRows': WHATEVER THE INPUT: true; the input reads as it did. -/
def fnRowsSpec : ChangeSpec := { name := "fnRows", fn := fun _ => fun
  | [d] => { results := [.lit (.bool true)], args := [d] }
  | _ => none }
def fnRowsRow : OpenClaim := { program := "ythkhfmomibfkjaa", sum := "940da049a395b4d0649683694c000e228097edad1f4ba0def8684d8c54a12dcf", func := "loop.example/g00217/laws.FnRows", spec := "fnRows", apart := false }
def FnRowsSaid : Prop := fnRowsRow.holds Try.pinned (OpenSpec.ofChange fnRowsSpec)

/-- ITS FALSE NEIGHBOUR: 'it returns false'. Refute it at one input. -/
def fnRowsWrong : ChangeSpec := { name := "fnRows", fn := fun _ => fun
  | [d] => { results := [.lit (.bool false)], args := [d] }
  | _ => none }
def FnRowsWrongFalsely : Prop := fnRowsRow.holds Try.pinned (OpenSpec.ofChange fnRowsWrong)

/-- 'laws.FnTexts': WHATEVER THE INPUT: true; the input reads as it did. -/
def fnTextsSpec : ChangeSpec := { name := "fnTexts", fn := fun _ => fun
  | [d] => { results := [.lit (.bool true)], args := [d] }
  | _ => none }
def fnTextsRow : OpenClaim := { program := "ythkhfmomibfkjaa", sum := "940da049a395b4d0649683694c000e228097edad1f4ba0def8684d8c54a12dcf", func := "loop.example/g00217/laws.FnTexts", spec := "fnTexts", apart := false }
def FnTextsSaid : Prop := fnTextsRow.holds Try.pinned (OpenSpec.ofChange fnTextsSpec)

/-- ITS FALSE NEIGHBOUR: 'it returns false'. Refute it at one input. -/
def fnTextsWrong : ChangeSpec := { name := "fnTexts", fn := fun _ => fun
  | [d] => { results := [.lit (.bool false)], args := [d] }
  | _ => none }
def FnTextsWrongFalsely : Prop := fnTextsRow.holds Try.pinned (OpenSpec.ofChange fnTextsWrong)

/-- 'laws.FnShown': WHATEVER THE INPUT: true; the input reads as it did. -/
def fnShownSpec : ChangeSpec := { name := "fnShown", fn := fun _ => fun
  | [d] => { results := [.lit (.bool true)], args := [d] }
  | _ => none }
def fnShownRow : OpenClaim := { program := "ythkhfmomibfkjaa", sum := "940da049a395b4d0649683694c000e228097edad1f4ba0def8684d8c54a12dcf", func := "loop.example/g00217/laws.FnShown", spec := "fnShown", apart := false }
def FnShownSaid : Prop := fnShownRow.holds Try.pinned (OpenSpec.ofChange fnShownSpec)

/-- ITS FALSE NEIGHBOUR: 'it returns false'. Refute it at one input. -/
def fnShownWrong : ChangeSpec := { name := "fnShown", fn := fun _ => fun
  | [d] => { results := [.lit (.bool false)], args := [d] }
  | _ => none }
def FnShownWrongFalsely : Prop := fnShownRow.holds Try.pinned (OpenSpec.ofChange fnShownWrong)

/-- 'laws.FnPacked': WHATEVER THE INPUT: true; the input reads as it did. -/
def fnPackedSpec : ChangeSpec := { name := "fnPacked", fn := fun _ => fun
  | [d] => { results := [.lit (.bool true)], args := [d] }
  | _ => none }
def fnPackedRow : OpenClaim := { program := "ythkhfmomibfkjaa", sum := "940da049a395b4d0649683694c000e228097edad1f4ba0def8684d8c54a12dcf", func := "loop.example/g00217/laws.FnPacked", spec := "fnPacked", apart := false }
def FnPackedSaid : Prop := fnPackedRow.holds Try.pinned (OpenSpec.ofChange fnPackedSpec)

/-- ITS FALSE NEIGHBOUR: 'it returns false'. Refute it at one input. -/
def fnPackedWrong : ChangeSpec := { name := "fnPacked", fn := fun _ => fun
  | [d] => { results := [.lit (.bool false)], args := [d] }
  | _ => none }
def FnPackedWrongFalsely : Prop := fnPackedRow.holds Try.pinned (OpenSpec.ofChange fnPackedWrong)

/- THE SECOND FORM. 'bulk': how many values and letters a reading holds, each counted each time it is reached (what is shared counts as often as it is met; a slice's spare places count too). A statement '..UptoSaid' is the law's where the arguments, and the package variables that the reading takes, are together of bulk at most 1048576: NARROWER than '..Said'. Prove '..Said' where nothing that the law and all that it calls make is longer than what came in: it says more and counts as full. Else prove '..UptoSaid'. A law counts once. -/
mutual
def uptoBulk {H : Type} : DataW H → Nat
  | .lit (.string bytes) => bytes.length + 1
  | .lit _ => 1
  | .nil => 1
  | .ptr d => uptoBulk d + 1
  | .slice elems spare => uptoBulkAll elems + uptoBulkAll spare + 1
  | .agg parts => uptoBulkAll parts + 1
  | .iface _ d => uptoBulk d + 1
  | .map entries => uptoBulkEntries entries + 1
  | .held _ => 1
def uptoBulkAll {H : Type} : List (DataW H) → Nat
  | [] => 0
  | d :: r => uptoBulk d + uptoBulkAll r
def uptoBulkEntries {H : Type} : List (Lit × DataW H) → Nat
  | [] => 0
  | x :: r => uptoBulkEntry x + uptoBulkEntries r
def uptoBulkEntry {H : Type} : Lit × DataW H → Nat
  | (.string bytes, d) => bytes.length + uptoBulk d + 1
  | (_, d) => uptoBulk d + 1
 end
def uptoSmall : (H : Type) → List (DataW H) → Bool := fun _ ds => decide (uptoBulkAll ds ≤ 1048576)
def OpenSpec.upto (s : _root_.Go.ChangeSpec) : _root_.Go.OpenSpec := { _root_.Go.OpenSpec.ofChange s with cond := some uptoSmall }

/-- 'laws.FnExactNumber', WHERE WHAT IT READS IS OF BULK AT MOST 1048576: true; the input reads as it did. -/
def fnExactNumberUptoRow : OpenClaim := { program := "ythkhfmomibfkjaa", sum := "940da049a395b4d0649683694c000e228097edad1f4ba0def8684d8c54a12dcf", func := "loop.example/g00217/laws.FnExactNumber", spec := "fnExactNumber", apart := false, narrowed := true }
def FnExactNumberUptoSaid : Prop := fnExactNumberUptoRow.holds Try.pinned (OpenSpec.upto fnExactNumberSpec)

/-- 'laws.FnExactText', WHERE WHAT IT READS IS OF BULK AT MOST 1048576: true; the input reads as it did. -/
def fnExactTextUptoRow : OpenClaim := { program := "ythkhfmomibfkjaa", sum := "940da049a395b4d0649683694c000e228097edad1f4ba0def8684d8c54a12dcf", func := "loop.example/g00217/laws.FnExactText", spec := "fnExactText", apart := false, narrowed := true }
def FnExactTextUptoSaid : Prop := fnExactTextUptoRow.holds Try.pinned (OpenSpec.upto fnExactTextSpec)

/-- 'laws.FnExactReadText', WHERE WHAT IT READS IS OF BULK AT MOST 1048576: true; the input reads as it did. -/
def fnExactReadTextUptoRow : OpenClaim := { program := "ythkhfmomibfkjaa", sum := "940da049a395b4d0649683694c000e228097edad1f4ba0def8684d8c54a12dcf", func := "loop.example/g00217/laws.FnExactReadText", spec := "fnExactReadText", apart := false, narrowed := true }
def FnExactReadTextUptoSaid : Prop := fnExactReadTextUptoRow.holds Try.pinned (OpenSpec.upto fnExactReadTextSpec)

/-- 'laws.FnExactTexts', WHERE WHAT IT READS IS OF BULK AT MOST 1048576: true; the input reads as it did. -/
def fnExactTextsUptoRow : OpenClaim := { program := "ythkhfmomibfkjaa", sum := "940da049a395b4d0649683694c000e228097edad1f4ba0def8684d8c54a12dcf", func := "loop.example/g00217/laws.FnExactTexts", spec := "fnExactTexts", apart := false, narrowed := true }
def FnExactTextsUptoSaid : Prop := fnExactTextsUptoRow.holds Try.pinned (OpenSpec.upto fnExactTextsSpec)

/-- 'laws.FnExactReadTexts', WHERE WHAT IT READS IS OF BULK AT MOST 1048576: true; the input reads as it did. -/
def fnExactReadTextsUptoRow : OpenClaim := { program := "ythkhfmomibfkjaa", sum := "940da049a395b4d0649683694c000e228097edad1f4ba0def8684d8c54a12dcf", func := "loop.example/g00217/laws.FnExactReadTexts", spec := "fnExactReadTexts", apart := false, narrowed := true }
def FnExactReadTextsUptoSaid : Prop := fnExactReadTextsUptoRow.holds Try.pinned (OpenSpec.upto fnExactReadTextsSpec)

/-- 'laws.FnExactEntriesOk', WHERE WHAT IT READS IS OF BULK AT MOST 1048576: true; the input reads as it did. -/
def fnExactEntriesOkUptoRow : OpenClaim := { program := "ythkhfmomibfkjaa", sum := "940da049a395b4d0649683694c000e228097edad1f4ba0def8684d8c54a12dcf", func := "loop.example/g00217/laws.FnExactEntriesOk", spec := "fnExactEntriesOk", apart := false, narrowed := true }
def FnExactEntriesOkUptoSaid : Prop := fnExactEntriesOkUptoRow.holds Try.pinned (OpenSpec.upto fnExactEntriesOkSpec)

/-- 'laws.FnExactSeen', WHERE WHAT IT READS IS OF BULK AT MOST 1048576: true; the input reads as it did. -/
def fnExactSeenUptoRow : OpenClaim := { program := "ythkhfmomibfkjaa", sum := "940da049a395b4d0649683694c000e228097edad1f4ba0def8684d8c54a12dcf", func := "loop.example/g00217/laws.FnExactSeen", spec := "fnExactSeen", apart := false, narrowed := true }
def FnExactSeenUptoSaid : Prop := fnExactSeenUptoRow.holds Try.pinned (OpenSpec.upto fnExactSeenSpec)

/-- 'laws.FnExactShown', WHERE WHAT IT READS IS OF BULK AT MOST 1048576: true; the input reads as it did. -/
def fnExactShownUptoRow : OpenClaim := { program := "ythkhfmomibfkjaa", sum := "940da049a395b4d0649683694c000e228097edad1f4ba0def8684d8c54a12dcf", func := "loop.example/g00217/laws.FnExactShown", spec := "fnExactShown", apart := false, narrowed := true }
def FnExactShownUptoSaid : Prop := fnExactShownUptoRow.holds Try.pinned (OpenSpec.upto fnExactShownSpec)

/-- 'laws.FnExactPacked', WHERE WHAT IT READS IS OF BULK AT MOST 1048576: true; the input reads as it did. -/
def fnExactPackedUptoRow : OpenClaim := { program := "ythkhfmomibfkjaa", sum := "940da049a395b4d0649683694c000e228097edad1f4ba0def8684d8c54a12dcf", func := "loop.example/g00217/laws.FnExactPacked", spec := "fnExactPacked", apart := false, narrowed := true }
def FnExactPackedUptoSaid : Prop := fnExactPackedUptoRow.holds Try.pinned (OpenSpec.upto fnExactPackedSpec)

/-- 'laws.FnExactUnpacked', WHERE WHAT IT READS IS OF BULK AT MOST 1048576: true; the input reads as it did. -/
def fnExactUnpackedUptoRow : OpenClaim := { program := "ythkhfmomibfkjaa", sum := "940da049a395b4d0649683694c000e228097edad1f4ba0def8684d8c54a12dcf", func := "loop.example/g00217/laws.FnExactUnpacked", spec := "fnExactUnpacked", apart := false, narrowed := true }
def FnExactUnpackedUptoSaid : Prop := fnExactUnpackedUptoRow.holds Try.pinned (OpenSpec.upto fnExactUnpackedSpec)

/-- 'laws.FnRows', WHERE WHAT IT READS IS OF BULK AT MOST 1048576: true; the input reads as it did. -/
def fnRowsUptoRow : OpenClaim := { program := "ythkhfmomibfkjaa", sum := "940da049a395b4d0649683694c000e228097edad1f4ba0def8684d8c54a12dcf", func := "loop.example/g00217/laws.FnRows", spec := "fnRows", apart := false, narrowed := true }
def FnRowsUptoSaid : Prop := fnRowsUptoRow.holds Try.pinned (OpenSpec.upto fnRowsSpec)

/-- 'laws.FnTexts', WHERE WHAT IT READS IS OF BULK AT MOST 1048576: true; the input reads as it did. -/
def fnTextsUptoRow : OpenClaim := { program := "ythkhfmomibfkjaa", sum := "940da049a395b4d0649683694c000e228097edad1f4ba0def8684d8c54a12dcf", func := "loop.example/g00217/laws.FnTexts", spec := "fnTexts", apart := false, narrowed := true }
def FnTextsUptoSaid : Prop := fnTextsUptoRow.holds Try.pinned (OpenSpec.upto fnTextsSpec)

/-- 'laws.FnShown', WHERE WHAT IT READS IS OF BULK AT MOST 1048576: true; the input reads as it did. -/
def fnShownUptoRow : OpenClaim := { program := "ythkhfmomibfkjaa", sum := "940da049a395b4d0649683694c000e228097edad1f4ba0def8684d8c54a12dcf", func := "loop.example/g00217/laws.FnShown", spec := "fnShown", apart := false, narrowed := true }
def FnShownUptoSaid : Prop := fnShownUptoRow.holds Try.pinned (OpenSpec.upto fnShownSpec)

/-- 'laws.FnPacked', WHERE WHAT IT READS IS OF BULK AT MOST 1048576: true; the input reads as it did. -/
def fnPackedUptoRow : OpenClaim := { program := "ythkhfmomibfkjaa", sum := "940da049a395b4d0649683694c000e228097edad1f4ba0def8684d8c54a12dcf", func := "loop.example/g00217/laws.FnPacked", spec := "fnPacked", apart := false, narrowed := true }
def FnPackedUptoSaid : Prop := fnPackedUptoRow.holds Try.pinned (OpenSpec.upto fnPackedSpec)

end Rows
end Go.Proofs.Ythkhfmomibfkjaa
