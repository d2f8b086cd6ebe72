/-
  No cell of these rows narrows 'for every input' (looked for: loops, veiled, ifaces, maps, wideKeys, modest, calm, conditions, laid).
  DERIVED. THE GIVEN ROWS OF THIS SEAT. 8 by the template 'for every input the law returns true; each argument reads behind the call as it read before'; 0 by the template 'total and deterministic' (their statements: YtajidjlbgpaaoaaTotals.lean).
  GIVEN WITH THE SEED: the statements are not yours to turn. If you find one false, say at which input.
  Laid BY PROGRAM, IN A SANDBOX (cutbox-rows.mjs): the forced cells as the released guide's own fill.sh prints them over the translation a13a74192e131249… (all of the seat's roots in one cut). By AI agents, Wed Nov 11 2026. No macro, syntax, notation, axiom, sorry.
-/
import Derived.Test.YtajidjlbgpaaoaaChecked
import GoSem.Claim
import GoSem.ClaimJoined
import GoSem.ClaimMapViews
import Derived.JoinedTies
import Derived.KernelRfl
namespace Go.Proofs.Ytajidjlbgpaaoaa
/- THE CELL 'sum', in the pinned program and in every row, IS THE sha256 OF THE DUMP (.gsa) THAT YtajidjlbgpaaoaaProg.lean LOADS. Nothing in Lean hashes anything: it is a label: what it is worth is what the hold of that sum in a sandbox is worth. -/
noncomputable def Try.pinned : Pinned := { name := "ytajidjlbgpaaoaa", sum := "a13a74192e131249609b378f9862504da001d1d3ece52a6c5d36ceaf4f8c752d", checked := Try.checked }
namespace Rows
def none {H : Type} : Left H := { results := [], args := [] }

/-- 'laws.FnExactNewDevice': WHATEVER THE INPUT: true; the input reads as it did. -/
def fnExactNewDeviceSpec : ChangeSpec := { name := "fnExactNewDevice", fn := fun _ => fun
  | [d] => { results := [.lit (.bool true)], args := [d] }
  | _ => none }
def fnExactNewDeviceRow : OpenClaim := { program := "ytajidjlbgpaaoaa", sum := "a13a74192e131249609b378f9862504da001d1d3ece52a6c5d36ceaf4f8c752d", func := "loop.example/g00217/laws.FnExactNewDevice", spec := "fnExactNewDevice", apart := false }
def FnExactNewDeviceSaid : Prop := fnExactNewDeviceRow.holds Try.pinned (OpenSpec.ofChange fnExactNewDeviceSpec)

/-- ITS FALSE NEIGHBOUR: 'it returns false'. Refute it at one input. -/
def fnExactNewDeviceWrong : ChangeSpec := { name := "fnExactNewDevice", fn := fun _ => fun
  | [d] => { results := [.lit (.bool false)], args := [d] }
  | _ => none }
def FnExactNewDeviceWrongFalsely : Prop := fnExactNewDeviceRow.holds Try.pinned (OpenSpec.ofChange fnExactNewDeviceWrong)

/-- 'laws.FnExactDeviceOk': WHATEVER THE INPUT: true; the input reads as it did. -/
def fnExactDeviceOkSpec : ChangeSpec := { name := "fnExactDeviceOk", fn := fun _ => fun
  | [d] => { results := [.lit (.bool true)], args := [d] }
  | _ => none }
def fnExactDeviceOkRow : OpenClaim := { program := "ytajidjlbgpaaoaa", sum := "a13a74192e131249609b378f9862504da001d1d3ece52a6c5d36ceaf4f8c752d", func := "loop.example/g00217/laws.FnExactDeviceOk", spec := "fnExactDeviceOk", unfollowed := true, recurses := true, apart := false }
def FnExactDeviceOkSaid : Prop := fnExactDeviceOkRow.holds Try.pinned (OpenSpec.ofChange fnExactDeviceOkSpec)

/-- ITS FALSE NEIGHBOUR: 'it returns false'. Refute it at one input. -/
def fnExactDeviceOkWrong : ChangeSpec := { name := "fnExactDeviceOk", fn := fun _ => fun
  | [d] => { results := [.lit (.bool false)], args := [d] }
  | _ => none }
def FnExactDeviceOkWrongFalsely : Prop := fnExactDeviceOkRow.holds Try.pinned (OpenSpec.ofChange fnExactDeviceOkWrong)

/-- 'laws.FnExactLies': WHATEVER THE INPUT: true; the input reads as it did. -/
def fnExactLiesSpec : ChangeSpec := { name := "fnExactLies", fn := fun _ => fun
  | [d1, d2] => { results := [.lit (.bool true)], args := [d1, d2] }
  | _ => none }
def fnExactLiesRow : OpenClaim := { program := "ytajidjlbgpaaoaa", sum := "a13a74192e131249609b378f9862504da001d1d3ece52a6c5d36ceaf4f8c752d", func := "loop.example/g00217/laws.FnExactLies", spec := "fnExactLies", unfollowed := true, recurses := true, apart := false }
def FnExactLiesSaid : Prop := fnExactLiesRow.holds Try.pinned (OpenSpec.ofChange fnExactLiesSpec)

/-- ITS FALSE NEIGHBOUR: 'it returns false'. Refute it at one input. -/
def fnExactLiesWrong : ChangeSpec := { name := "fnExactLies", fn := fun _ => fun
  | [d1, d2] => { results := [.lit (.bool false)], args := [d1, d2] }
  | _ => none }
def FnExactLiesWrongFalsely : Prop := fnExactLiesRow.holds Try.pinned (OpenSpec.ofChange fnExactLiesWrong)

/-- 'laws.FnExactBarrier': WHATEVER THE INPUT: true; the input reads as it did. -/
def fnExactBarrierSpec : ChangeSpec := { name := "fnExactBarrier", fn := fun _ => fun
  | [d] => { results := [.lit (.bool true)], args := [d] }
  | _ => none }
def fnExactBarrierRow : OpenClaim := { program := "ytajidjlbgpaaoaa", sum := "a13a74192e131249609b378f9862504da001d1d3ece52a6c5d36ceaf4f8c752d", func := "loop.example/g00217/laws.FnExactBarrier", spec := "fnExactBarrier", unfollowed := true, recurses := true, apart := false }
def FnExactBarrierSaid : Prop := fnExactBarrierRow.holds Try.pinned (OpenSpec.ofChange fnExactBarrierSpec)

/-- ITS FALSE NEIGHBOUR: 'it returns false'. Refute it at one input. -/
def fnExactBarrierWrong : ChangeSpec := { name := "fnExactBarrier", fn := fun _ => fun
  | [d] => { results := [.lit (.bool false)], args := [d] }
  | _ => none }
def FnExactBarrierWrongFalsely : Prop := fnExactBarrierRow.holds Try.pinned (OpenSpec.ofChange fnExactBarrierWrong)

/-- 'laws.FnExactCut': WHATEVER THE INPUT: true; the input reads as it did. -/
def fnExactCutSpec : ChangeSpec := { name := "fnExactCut", fn := fun _ => fun
  | [d1, d2] => { results := [.lit (.bool true)], args := [d1, d2] }
  | _ => none }
def fnExactCutRow : OpenClaim := { program := "ytajidjlbgpaaoaa", sum := "a13a74192e131249609b378f9862504da001d1d3ece52a6c5d36ceaf4f8c752d", func := "loop.example/g00217/laws.FnExactCut", spec := "fnExactCut", unfollowed := true, recurses := true, apart := false }
def FnExactCutSaid : Prop := fnExactCutRow.holds Try.pinned (OpenSpec.ofChange fnExactCutSpec)

/-- ITS FALSE NEIGHBOUR: 'it returns false'. Refute it at one input. -/
def fnExactCutWrong : ChangeSpec := { name := "fnExactCut", fn := fun _ => fun
  | [d1, d2] => { results := [.lit (.bool false)], args := [d1, d2] }
  | _ => none }
def FnExactCutWrongFalsely : Prop := fnExactCutRow.holds Try.pinned (OpenSpec.ofChange fnExactCutWrong)

/-- 'laws.FnExactSeens': WHATEVER THE INPUT: true; the input reads as it did. -/
def fnExactSeensSpec : ChangeSpec := { name := "fnExactSeens", fn := fun _ => fun
  | [d1, d2] => { results := [.lit (.bool true)], args := [d1, d2] }
  | _ => none }
def fnExactSeensRow : OpenClaim := { program := "ytajidjlbgpaaoaa", sum := "a13a74192e131249609b378f9862504da001d1d3ece52a6c5d36ceaf4f8c752d", func := "loop.example/g00217/laws.FnExactSeens", spec := "fnExactSeens", unfollowed := true, recurses := true, apart := false }
def FnExactSeensSaid : Prop := fnExactSeensRow.holds Try.pinned (OpenSpec.ofChange fnExactSeensSpec)

/-- ITS FALSE NEIGHBOUR: 'it returns false'. Refute it at one input. -/
def fnExactSeensWrong : ChangeSpec := { name := "fnExactSeens", fn := fun _ => fun
  | [d1, d2] => { results := [.lit (.bool false)], args := [d1, d2] }
  | _ => none }
def FnExactSeensWrongFalsely : Prop := fnExactSeensRow.holds Try.pinned (OpenSpec.ofChange fnExactSeensWrong)

/-- 'laws.FnExactBottom': WHATEVER THE INPUT: true; the input reads as it did. -/
def fnExactBottomSpec : ChangeSpec := { name := "fnExactBottom", fn := fun _ => fun
  | [d1, d2] => { results := [.lit (.bool true)], args := [d1, d2] }
  | _ => none }
def fnExactBottomRow : OpenClaim := { program := "ytajidjlbgpaaoaa", sum := "a13a74192e131249609b378f9862504da001d1d3ece52a6c5d36ceaf4f8c752d", func := "loop.example/g00217/laws.FnExactBottom", spec := "fnExactBottom", unfollowed := true, recurses := true, apart := false }
def FnExactBottomSaid : Prop := fnExactBottomRow.holds Try.pinned (OpenSpec.ofChange fnExactBottomSpec)

/-- ITS FALSE NEIGHBOUR: 'it returns false'. Refute it at one input. -/
def fnExactBottomWrong : ChangeSpec := { name := "fnExactBottom", fn := fun _ => fun
  | [d1, d2] => { results := [.lit (.bool false)], args := [d1, d2] }
  | _ => none }
def FnExactBottomWrongFalsely : Prop := fnExactBottomRow.holds Try.pinned (OpenSpec.ofChange fnExactBottomWrong)

/-- 'laws.FnSeens': WHATEVER THE INPUT: true; the input reads as it did. -/
def fnSeensSpec : ChangeSpec := { name := "fnSeens", fn := fun _ => fun
  | [d] => { results := [.lit (.bool true)], args := [d] }
  | _ => none }
def fnSeensRow : OpenClaim := { program := "ytajidjlbgpaaoaa", sum := "a13a74192e131249609b378f9862504da001d1d3ece52a6c5d36ceaf4f8c752d", func := "loop.example/g00217/laws.FnSeens", spec := "fnSeens", unfollowed := true, recurses := true, apart := false }
def FnSeensSaid : Prop := fnSeensRow.holds Try.pinned (OpenSpec.ofChange fnSeensSpec)

/-- ITS FALSE NEIGHBOUR: 'it returns false'. Refute it at one input. -/
def fnSeensWrong : ChangeSpec := { name := "fnSeens", fn := fun _ => fun
  | [d] => { results := [.lit (.bool false)], args := [d] }
  | _ => none }
def FnSeensWrongFalsely : Prop := fnSeensRow.holds Try.pinned (OpenSpec.ofChange fnSeensWrong)

/- THE SECOND FORM. 'bulk': how many values and letters a reading holds, each counted each time it is reached (what is shared counts as often as it is met; a slice's spare places count too). A statement '..UptoSaid' is the law's where the arguments, and the package variables that the reading takes, are together of bulk at most 1048576: NARROWER than '..Said'. Prove '..Said' where nothing that the law and all that it calls make is longer than what came in: it says more and counts as full. Else prove '..UptoSaid'. A law counts once. -/
mutual
def uptoBulk {H : Type} : DataW H → Nat
  | .lit (.string bytes) => bytes.length + 1
  | .lit _ => 1
  | .nil => 1
  | .ptr d => uptoBulk d + 1
  | .slice elems spare => uptoBulkAll elems + uptoBulkAll spare + 1
  | .agg parts => uptoBulkAll parts + 1
  | .iface _ d => uptoBulk d + 1
  | .map entries => uptoBulkEntries entries + 1
  | .held _ => 1
def uptoBulkAll {H : Type} : List (DataW H) → Nat
  | [] => 0
  | d :: r => uptoBulk d + uptoBulkAll r
def uptoBulkEntries {H : Type} : List (Lit × DataW H) → Nat
  | [] => 0
  | x :: r => uptoBulkEntry x + uptoBulkEntries r
def uptoBulkEntry {H : Type} : Lit × DataW H → Nat
  | (.string bytes, d) => bytes.length + uptoBulk d + 1
  | (_, d) => uptoBulk d + 1
 end
def uptoSmall : (H : Type) → List (DataW H) → Bool := fun _ ds => decide (uptoBulkAll ds ≤ 1048576)
def OpenSpec.upto (s : _root_.Go.ChangeSpec) : _root_.Go.OpenSpec := { _root_.Go.OpenSpec.ofChange s with cond := some uptoSmall }

/-- 'laws.FnExactNewDevice', WHERE WHAT IT READS IS OF BULK AT MOST 1048576: true; the input reads as it did. -/
def fnExactNewDeviceUptoRow : OpenClaim := { program := "ytajidjlbgpaaoaa", sum := "a13a74192e131249609b378f9862504da001d1d3ece52a6c5d36ceaf4f8c752d", func := "loop.example/g00217/laws.FnExactNewDevice", spec := "fnExactNewDevice", apart := false, narrowed := true }
def FnExactNewDeviceUptoSaid : Prop := fnExactNewDeviceUptoRow.holds Try.pinned (OpenSpec.upto fnExactNewDeviceSpec)

/-- 'laws.FnExactDeviceOk', WHERE WHAT IT READS IS OF BULK AT MOST 1048576: true; the input reads as it did. -/
def fnExactDeviceOkUptoRow : OpenClaim := { program := "ytajidjlbgpaaoaa", sum := "a13a74192e131249609b378f9862504da001d1d3ece52a6c5d36ceaf4f8c752d", func := "loop.example/g00217/laws.FnExactDeviceOk", spec := "fnExactDeviceOk", unfollowed := true, recurses := true, apart := false, narrowed := true }
def FnExactDeviceOkUptoSaid : Prop := fnExactDeviceOkUptoRow.holds Try.pinned (OpenSpec.upto fnExactDeviceOkSpec)

/-- 'laws.FnExactLies', WHERE WHAT IT READS IS OF BULK AT MOST 1048576: true; the input reads as it did. -/
def fnExactLiesUptoRow : OpenClaim := { program := "ytajidjlbgpaaoaa", sum := "a13a74192e131249609b378f9862504da001d1d3ece52a6c5d36ceaf4f8c752d", func := "loop.example/g00217/laws.FnExactLies", spec := "fnExactLies", unfollowed := true, recurses := true, apart := false, narrowed := true }
def FnExactLiesUptoSaid : Prop := fnExactLiesUptoRow.holds Try.pinned (OpenSpec.upto fnExactLiesSpec)

/-- 'laws.FnExactBarrier', WHERE WHAT IT READS IS OF BULK AT MOST 1048576: true; the input reads as it did. -/
def fnExactBarrierUptoRow : OpenClaim := { program := "ytajidjlbgpaaoaa", sum := "a13a74192e131249609b378f9862504da001d1d3ece52a6c5d36ceaf4f8c752d", func := "loop.example/g00217/laws.FnExactBarrier", spec := "fnExactBarrier", unfollowed := true, recurses := true, apart := false, narrowed := true }
def FnExactBarrierUptoSaid : Prop := fnExactBarrierUptoRow.holds Try.pinned (OpenSpec.upto fnExactBarrierSpec)

/-- 'laws.FnExactCut', WHERE WHAT IT READS IS OF BULK AT MOST 1048576: true; the input reads as it did. -/
def fnExactCutUptoRow : OpenClaim := { program := "ytajidjlbgpaaoaa", sum := "a13a74192e131249609b378f9862504da001d1d3ece52a6c5d36ceaf4f8c752d", func := "loop.example/g00217/laws.FnExactCut", spec := "fnExactCut", unfollowed := true, recurses := true, apart := false, narrowed := true }
def FnExactCutUptoSaid : Prop := fnExactCutUptoRow.holds Try.pinned (OpenSpec.upto fnExactCutSpec)

/-- 'laws.FnExactSeens', WHERE WHAT IT READS IS OF BULK AT MOST 1048576: true; the input reads as it did. -/
def fnExactSeensUptoRow : OpenClaim := { program := "ytajidjlbgpaaoaa", sum := "a13a74192e131249609b378f9862504da001d1d3ece52a6c5d36ceaf4f8c752d", func := "loop.example/g00217/laws.FnExactSeens", spec := "fnExactSeens", unfollowed := true, recurses := true, apart := false, narrowed := true }
def FnExactSeensUptoSaid : Prop := fnExactSeensUptoRow.holds Try.pinned (OpenSpec.upto fnExactSeensSpec)

/-- 'laws.FnExactBottom', WHERE WHAT IT READS IS OF BULK AT MOST 1048576: true; the input reads as it did. -/
def fnExactBottomUptoRow : OpenClaim := { program := "ytajidjlbgpaaoaa", sum := "a13a74192e131249609b378f9862504da001d1d3ece52a6c5d36ceaf4f8c752d", func := "loop.example/g00217/laws.FnExactBottom", spec := "fnExactBottom", unfollowed := true, recurses := true, apart := false, narrowed := true }
def FnExactBottomUptoSaid : Prop := fnExactBottomUptoRow.holds Try.pinned (OpenSpec.upto fnExactBottomSpec)

/-- 'laws.FnSeens', WHERE WHAT IT READS IS OF BULK AT MOST 1048576: true; the input reads as it did. -/
def fnSeensUptoRow : OpenClaim := { program := "ytajidjlbgpaaoaa", sum := "a13a74192e131249609b378f9862504da001d1d3ece52a6c5d36ceaf4f8c752d", func := "loop.example/g00217/laws.FnSeens", spec := "fnSeens", unfollowed := true, recurses := true, apart := false, narrowed := true }
def FnSeensUptoSaid : Prop := fnSeensUptoRow.holds Try.pinned (OpenSpec.upto fnSeensSpec)

end Rows
end Go.Proofs.Ytajidjlbgpaaoaa
