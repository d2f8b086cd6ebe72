/-
  No cell of these rows narrows 'for every input' (looked for: loops, veiled, ifaces, maps, wideKeys, modest, calm, conditions, laid).
  DERIVED. THE GIVEN ROWS OF THIS SEAT. 9 by the template 'for every input the law returns true; each argument reads behind the call as it read before'; 0 by the template 'total and deterministic' (their statements: YtaiggfjkikfcbaaTotals.lean).
  GIVEN WITH THE SEED: the statements are not yours to turn. If you find one false, say at which input.
  Laid BY PROGRAM, IN A SANDBOX (cutbox-rows.mjs): the forced cells as the released guide's own fill.sh prints them over the translation fccf98f7fd5cd86a… (all of the seat's roots in one cut). By AI agents, Wed Nov 11 2026. No macro, syntax, notation, axiom, sorry.
-/
import Derived.Test.YtaiggfjkikfcbaaChecked
import GoSem.Claim
import GoSem.ClaimJoined
import GoSem.ClaimMapViews
import Derived.JoinedTies
import Derived.KernelRfl
namespace Go.Proofs.Ytaiggfjkikfcbaa
/- THE CELL 'sum', in the pinned program and in every row, IS THE sha256 OF THE DUMP (.gsa) THAT YtaiggfjkikfcbaaProg.lean LOADS. Nothing in Lean hashes anything: it is a label: what it is worth is what the hold of that sum in a sandbox is worth. -/
noncomputable def Try.pinned : Pinned := { name := "ytaiggfjkikfcbaa", sum := "fccf98f7fd5cd86af72beb263b94c14fbcaef200b851dff59cb568caf7a081c0", checked := Try.checked }
namespace Rows
def none {H : Type} : Left H := { results := [], args := [] }

/-- 'laws.FnExactPut': WHATEVER THE INPUT: true; the input reads as it did. -/
def fnExactPutSpec : ChangeSpec := { name := "fnExactPut", fn := fun _ => fun
  | [d1, d2] => { results := [.lit (.bool true)], args := [d1, d2] }
  | _ => none }
def fnExactPutRow : OpenClaim := { program := "ytaiggfjkikfcbaa", sum := "fccf98f7fd5cd86af72beb263b94c14fbcaef200b851dff59cb568caf7a081c0", func := "loop.example/g00217/laws.FnExactPut", spec := "fnExactPut", inPlace := ["slices.overlaps[loop.example/g00217/impl.Entry]"], unfollowed := true, recurses := true, apart := false }
def FnExactPutSaid : Prop := fnExactPutRow.holds Try.pinned (OpenSpec.ofChange fnExactPutSpec)

/-- ITS FALSE NEIGHBOUR: 'it returns false'. Refute it at one input. -/
def fnExactPutWrong : ChangeSpec := { name := "fnExactPut", fn := fun _ => fun
  | [d1, d2] => { results := [.lit (.bool false)], args := [d1, d2] }
  | _ => none }
def FnExactPutWrongFalsely : Prop := fnExactPutRow.holds Try.pinned (OpenSpec.ofChange fnExactPutWrong)

/-- 'laws.FnPut': WHATEVER THE INPUT: true; the input reads as it did. -/
def fnPutSpec : ChangeSpec := { name := "fnPut", fn := fun _ => fun
  | [d] => { results := [.lit (.bool true)], args := [d] }
  | _ => none }
def fnPutRow : OpenClaim := { program := "ytaiggfjkikfcbaa", sum := "fccf98f7fd5cd86af72beb263b94c14fbcaef200b851dff59cb568caf7a081c0", func := "loop.example/g00217/laws.FnPut", spec := "fnPut", inPlace := ["slices.overlaps[loop.example/g00217/impl.Entry]"], unfollowed := true, recurses := true, apart := false }
def FnPutSaid : Prop := fnPutRow.holds Try.pinned (OpenSpec.ofChange fnPutSpec)

/-- ITS FALSE NEIGHBOUR: 'it returns false'. Refute it at one input. -/
def fnPutWrong : ChangeSpec := { name := "fnPut", fn := fun _ => fun
  | [d] => { results := [.lit (.bool false)], args := [d] }
  | _ => none }
def FnPutWrongFalsely : Prop := fnPutRow.holds Try.pinned (OpenSpec.ofChange fnPutWrong)

/-- 'laws.FnExactMerged': WHATEVER THE INPUT: true; the input reads as it did. -/
def fnExactMergedSpec : ChangeSpec := { name := "fnExactMerged", fn := fun _ => fun
  | [d] => { results := [.lit (.bool true)], args := [d] }
  | _ => none }
def fnExactMergedRow : OpenClaim := { program := "ytaiggfjkikfcbaa", sum := "fccf98f7fd5cd86af72beb263b94c14fbcaef200b851dff59cb568caf7a081c0", func := "loop.example/g00217/laws.FnExactMerged", spec := "fnExactMerged", unfollowed := true, recurses := true, apart := false }
def FnExactMergedSaid : Prop := fnExactMergedRow.holds Try.pinned (OpenSpec.ofChange fnExactMergedSpec)

/-- ITS FALSE NEIGHBOUR: 'it returns false'. Refute it at one input. -/
def fnExactMergedWrong : ChangeSpec := { name := "fnExactMerged", fn := fun _ => fun
  | [d] => { results := [.lit (.bool false)], args := [d] }
  | _ => none }
def FnExactMergedWrongFalsely : Prop := fnExactMergedRow.holds Try.pinned (OpenSpec.ofChange fnExactMergedWrong)

/-- 'laws.FnMerged': WHATEVER THE INPUT: true; the input reads as it did. -/
def fnMergedSpec : ChangeSpec := { name := "fnMerged", fn := fun _ => fun
  | [d] => { results := [.lit (.bool true)], args := [d] }
  | _ => none }
def fnMergedRow : OpenClaim := { program := "ytaiggfjkikfcbaa", sum := "fccf98f7fd5cd86af72beb263b94c14fbcaef200b851dff59cb568caf7a081c0", func := "loop.example/g00217/laws.FnMerged", spec := "fnMerged", unfollowed := true, recurses := true, apart := false }
def FnMergedSaid : Prop := fnMergedRow.holds Try.pinned (OpenSpec.ofChange fnMergedSpec)

/-- ITS FALSE NEIGHBOUR: 'it returns false'. Refute it at one input. -/
def fnMergedWrong : ChangeSpec := { name := "fnMerged", fn := fun _ => fun
  | [d] => { results := [.lit (.bool false)], args := [d] }
  | _ => none }
def FnMergedWrongFalsely : Prop := fnMergedRow.holds Try.pinned (OpenSpec.ofChange fnMergedWrong)

/-- 'laws.FnExactBuilt': WHATEVER THE INPUT: true; the input reads as it did. -/
def fnExactBuiltSpec : ChangeSpec := { name := "fnExactBuilt", fn := fun _ => fun
  | [d] => { results := [.lit (.bool true)], args := [d] }
  | _ => none }
def fnExactBuiltRow : OpenClaim := { program := "ytaiggfjkikfcbaa", sum := "fccf98f7fd5cd86af72beb263b94c14fbcaef200b851dff59cb568caf7a081c0", func := "loop.example/g00217/laws.FnExactBuilt", spec := "fnExactBuilt", unfollowed := true, recurses := true, apart := false }
def FnExactBuiltSaid : Prop := fnExactBuiltRow.holds Try.pinned (OpenSpec.ofChange fnExactBuiltSpec)

/-- ITS FALSE NEIGHBOUR: 'it returns false'. Refute it at one input. -/
def fnExactBuiltWrong : ChangeSpec := { name := "fnExactBuilt", fn := fun _ => fun
  | [d] => { results := [.lit (.bool false)], args := [d] }
  | _ => none }
def FnExactBuiltWrongFalsely : Prop := fnExactBuiltRow.holds Try.pinned (OpenSpec.ofChange fnExactBuiltWrong)

/-- 'laws.FnExactTableOk': WHATEVER THE INPUT: true; the input reads as it did. -/
def fnExactTableOkSpec : ChangeSpec := { name := "fnExactTableOk", fn := fun _ => fun
  | [d] => { results := [.lit (.bool true)], args := [d] }
  | _ => none }
def fnExactTableOkRow : OpenClaim := { program := "ytaiggfjkikfcbaa", sum := "fccf98f7fd5cd86af72beb263b94c14fbcaef200b851dff59cb568caf7a081c0", func := "loop.example/g00217/laws.FnExactTableOk", spec := "fnExactTableOk", unfollowed := true, recurses := true, apart := false }
def FnExactTableOkSaid : Prop := fnExactTableOkRow.holds Try.pinned (OpenSpec.ofChange fnExactTableOkSpec)

/-- ITS FALSE NEIGHBOUR: 'it returns false'. Refute it at one input. -/
def fnExactTableOkWrong : ChangeSpec := { name := "fnExactTableOk", fn := fun _ => fun
  | [d] => { results := [.lit (.bool false)], args := [d] }
  | _ => none }
def FnExactTableOkWrongFalsely : Prop := fnExactTableOkRow.holds Try.pinned (OpenSpec.ofChange fnExactTableOkWrong)

/-- 'laws.FnExactEntries': WHATEVER THE INPUT: true; the input reads as it did. -/
def fnExactEntriesSpec : ChangeSpec := { name := "fnExactEntries", fn := fun _ => fun
  | [d] => { results := [.lit (.bool true)], args := [d] }
  | _ => none }
def fnExactEntriesRow : OpenClaim := { program := "ytaiggfjkikfcbaa", sum := "fccf98f7fd5cd86af72beb263b94c14fbcaef200b851dff59cb568caf7a081c0", func := "loop.example/g00217/laws.FnExactEntries", spec := "fnExactEntries", unfollowed := true, recurses := true, apart := false }
def FnExactEntriesSaid : Prop := fnExactEntriesRow.holds Try.pinned (OpenSpec.ofChange fnExactEntriesSpec)

/-- ITS FALSE NEIGHBOUR: 'it returns false'. Refute it at one input. -/
def fnExactEntriesWrong : ChangeSpec := { name := "fnExactEntries", fn := fun _ => fun
  | [d] => { results := [.lit (.bool false)], args := [d] }
  | _ => none }
def FnExactEntriesWrongFalsely : Prop := fnExactEntriesRow.holds Try.pinned (OpenSpec.ofChange fnExactEntriesWrong)

/-- 'laws.FnExactFound': WHATEVER THE INPUT: true; the input reads as it did. -/
def fnExactFoundSpec : ChangeSpec := { name := "fnExactFound", fn := fun _ => fun
  | [d1, d2, d3] => { results := [.lit (.bool true)], args := [d1, d2, d3] }
  | _ => none }
def fnExactFoundRow : OpenClaim := { program := "ytaiggfjkikfcbaa", sum := "fccf98f7fd5cd86af72beb263b94c14fbcaef200b851dff59cb568caf7a081c0", func := "loop.example/g00217/laws.FnExactFound", spec := "fnExactFound", unfollowed := true, recurses := true, apart := false }
def FnExactFoundSaid : Prop := fnExactFoundRow.holds Try.pinned (OpenSpec.ofChange fnExactFoundSpec)

/-- ITS FALSE NEIGHBOUR: 'it returns false'. Refute it at one input. -/
def fnExactFoundWrong : ChangeSpec := { name := "fnExactFound", fn := fun _ => fun
  | [d1, d2, d3] => { results := [.lit (.bool false)], args := [d1, d2, d3] }
  | _ => none }
def FnExactFoundWrongFalsely : Prop := fnExactFoundRow.holds Try.pinned (OpenSpec.ofChange fnExactFoundWrong)

/-- 'laws.FnExactMay': WHATEVER THE INPUT: true; the input reads as it did. -/
def fnExactMaySpec : ChangeSpec := { name := "fnExactMay", fn := fun _ => fun
  | [d1, d2] => { results := [.lit (.bool true)], args := [d1, d2] }
  | _ => none }
def fnExactMayRow : OpenClaim := { program := "ytaiggfjkikfcbaa", sum := "fccf98f7fd5cd86af72beb263b94c14fbcaef200b851dff59cb568caf7a081c0", func := "loop.example/g00217/laws.FnExactMay", spec := "fnExactMay", unfollowed := true, recurses := true, apart := false }
def FnExactMaySaid : Prop := fnExactMayRow.holds Try.pinned (OpenSpec.ofChange fnExactMaySpec)

/-- ITS FALSE NEIGHBOUR: 'it returns false'. Refute it at one input. -/
def fnExactMayWrong : ChangeSpec := { name := "fnExactMay", fn := fun _ => fun
  | [d1, d2] => { results := [.lit (.bool false)], args := [d1, d2] }
  | _ => none }
def FnExactMayWrongFalsely : Prop := fnExactMayRow.holds Try.pinned (OpenSpec.ofChange fnExactMayWrong)

/- THE SECOND FORM. 'bulk': how many values and letters a reading holds, each counted each time it is reached (what is shared counts as often as it is met; a slice's spare places count too). A statement '..UptoSaid' is the law's where the arguments, and the package variables that the reading takes, are together of bulk at most 1048576: NARROWER than '..Said'. Prove '..Said' where nothing that the law and all that it calls make is longer than what came in: it says more and counts as full. Else prove '..UptoSaid'. A law counts once. -/
mutual
def uptoBulk {H : Type} : DataW H → Nat
  | .lit (.string bytes) => bytes.length + 1
  | .lit _ => 1
  | .nil => 1
  | .ptr d => uptoBulk d + 1
  | .slice elems spare => uptoBulkAll elems + uptoBulkAll spare + 1
  | .agg parts => uptoBulkAll parts + 1
  | .iface _ d => uptoBulk d + 1
  | .map entries => uptoBulkEntries entries + 1
  | .held _ => 1
def uptoBulkAll {H : Type} : List (DataW H) → Nat
  | [] => 0
  | d :: r => uptoBulk d + uptoBulkAll r
def uptoBulkEntries {H : Type} : List (Lit × DataW H) → Nat
  | [] => 0
  | x :: r => uptoBulkEntry x + uptoBulkEntries r
def uptoBulkEntry {H : Type} : Lit × DataW H → Nat
  | (.string bytes, d) => bytes.length + uptoBulk d + 1
  | (_, d) => uptoBulk d + 1
 end
def uptoSmall : (H : Type) → List (DataW H) → Bool := fun _ ds => decide (uptoBulkAll ds ≤ 1048576)
def OpenSpec.upto (s : _root_.Go.ChangeSpec) : _root_.Go.OpenSpec := { _root_.Go.OpenSpec.ofChange s with cond := some uptoSmall }

/-- 'laws.FnExactPut', WHERE WHAT IT READS IS OF BULK AT MOST 1048576: true; the input reads as it did. -/
def fnExactPutUptoRow : OpenClaim := { program := "ytaiggfjkikfcbaa", sum := "fccf98f7fd5cd86af72beb263b94c14fbcaef200b851dff59cb568caf7a081c0", func := "loop.example/g00217/laws.FnExactPut", spec := "fnExactPut", inPlace := ["slices.overlaps[loop.example/g00217/impl.Entry]"], unfollowed := true, recurses := true, apart := false, narrowed := true }
def FnExactPutUptoSaid : Prop := fnExactPutUptoRow.holds Try.pinned (OpenSpec.upto fnExactPutSpec)

/-- 'laws.FnPut', WHERE WHAT IT READS IS OF BULK AT MOST 1048576: true; the input reads as it did. -/
def fnPutUptoRow : OpenClaim := { program := "ytaiggfjkikfcbaa", sum := "fccf98f7fd5cd86af72beb263b94c14fbcaef200b851dff59cb568caf7a081c0", func := "loop.example/g00217/laws.FnPut", spec := "fnPut", inPlace := ["slices.overlaps[loop.example/g00217/impl.Entry]"], unfollowed := true, recurses := true, apart := false, narrowed := true }
def FnPutUptoSaid : Prop := fnPutUptoRow.holds Try.pinned (OpenSpec.upto fnPutSpec)

/-- 'laws.FnExactMerged', WHERE WHAT IT READS IS OF BULK AT MOST 1048576: true; the input reads as it did. -/
def fnExactMergedUptoRow : OpenClaim := { program := "ytaiggfjkikfcbaa", sum := "fccf98f7fd5cd86af72beb263b94c14fbcaef200b851dff59cb568caf7a081c0", func := "loop.example/g00217/laws.FnExactMerged", spec := "fnExactMerged", unfollowed := true, recurses := true, apart := false, narrowed := true }
def FnExactMergedUptoSaid : Prop := fnExactMergedUptoRow.holds Try.pinned (OpenSpec.upto fnExactMergedSpec)

/-- 'laws.FnMerged', WHERE WHAT IT READS IS OF BULK AT MOST 1048576: true; the input reads as it did. -/
def fnMergedUptoRow : OpenClaim := { program := "ytaiggfjkikfcbaa", sum := "fccf98f7fd5cd86af72beb263b94c14fbcaef200b851dff59cb568caf7a081c0", func := "loop.example/g00217/laws.FnMerged", spec := "fnMerged", unfollowed := true, recurses := true, apart := false, narrowed := true }
def FnMergedUptoSaid : Prop := fnMergedUptoRow.holds Try.pinned (OpenSpec.upto fnMergedSpec)

/-- 'laws.FnExactBuilt', WHERE WHAT IT READS IS OF BULK AT MOST 1048576: true; the input reads as it did. -/
def fnExactBuiltUptoRow : OpenClaim := { program := "ytaiggfjkikfcbaa", sum := "fccf98f7fd5cd86af72beb263b94c14fbcaef200b851dff59cb568caf7a081c0", func := "loop.example/g00217/laws.FnExactBuilt", spec := "fnExactBuilt", unfollowed := true, recurses := true, apart := false, narrowed := true }
def FnExactBuiltUptoSaid : Prop := fnExactBuiltUptoRow.holds Try.pinned (OpenSpec.upto fnExactBuiltSpec)

/-- 'laws.FnExactTableOk', WHERE WHAT IT READS IS OF BULK AT MOST 1048576: true; the input reads as it did. -/
def fnExactTableOkUptoRow : OpenClaim := { program := "ytaiggfjkikfcbaa", sum := "fccf98f7fd5cd86af72beb263b94c14fbcaef200b851dff59cb568caf7a081c0", func := "loop.example/g00217/laws.FnExactTableOk", spec := "fnExactTableOk", unfollowed := true, recurses := true, apart := false, narrowed := true }
def FnExactTableOkUptoSaid : Prop := fnExactTableOkUptoRow.holds Try.pinned (OpenSpec.upto fnExactTableOkSpec)

/-- 'laws.FnExactEntries', WHERE WHAT IT READS IS OF BULK AT MOST 1048576: true; the input reads as it did. -/
def fnExactEntriesUptoRow : OpenClaim := { program := "ytaiggfjkikfcbaa", sum := "fccf98f7fd5cd86af72beb263b94c14fbcaef200b851dff59cb568caf7a081c0", func := "loop.example/g00217/laws.FnExactEntries", spec := "fnExactEntries", unfollowed := true, recurses := true, apart := false, narrowed := true }
def FnExactEntriesUptoSaid : Prop := fnExactEntriesUptoRow.holds Try.pinned (OpenSpec.upto fnExactEntriesSpec)

/-- 'laws.FnExactFound', WHERE WHAT IT READS IS OF BULK AT MOST 1048576: true; the input reads as it did. -/
def fnExactFoundUptoRow : OpenClaim := { program := "ytaiggfjkikfcbaa", sum := "fccf98f7fd5cd86af72beb263b94c14fbcaef200b851dff59cb568caf7a081c0", func := "loop.example/g00217/laws.FnExactFound", spec := "fnExactFound", unfollowed := true, recurses := true, apart := false, narrowed := true }
def FnExactFoundUptoSaid : Prop := fnExactFoundUptoRow.holds Try.pinned (OpenSpec.upto fnExactFoundSpec)

/-- 'laws.FnExactMay', WHERE WHAT IT READS IS OF BULK AT MOST 1048576: true; the input reads as it did. -/
def fnExactMayUptoRow : OpenClaim := { program := "ytaiggfjkikfcbaa", sum := "fccf98f7fd5cd86af72beb263b94c14fbcaef200b851dff59cb568caf7a081c0", func := "loop.example/g00217/laws.FnExactMay", spec := "fnExactMay", unfollowed := true, recurses := true, apart := false, narrowed := true }
def FnExactMayUptoSaid : Prop := fnExactMayUptoRow.holds Try.pinned (OpenSpec.upto fnExactMaySpec)

end Rows
end Go.Proofs.Ytaiggfjkikfcbaa
