/-
  No cell of these rows narrows 'for every input' (looked for: loops, veiled, ifaces, maps, wideKeys, modest, calm, conditions, laid).
  DERIVED. THE GIVEN ROWS OF THIS SEAT. 12 by the template 'for every input the law returns true; each argument reads behind the call as it read before'; 0 by the template 'total and deterministic' (their statements: YtpefeaiglkkkoaaTotals.lean).
  GIVEN WITH THE SEED: the statements are not yours to turn. If you find one false, say at which input.
  Laid BY PROGRAM, IN A SANDBOX (cutbox-rows.mjs): the forced cells as the released guide's own fill.sh prints them over the translation 9eac3e5edcd41c94… (all of the seat's roots in one cut). By AI agents, Wed Nov 11 2026. No macro, syntax, notation, axiom, sorry.
-/
import Derived.Test.YtpefeaiglkkkoaaChecked
import GoSem.Claim
import GoSem.ClaimJoined
import GoSem.ClaimMapViews
import Derived.JoinedTies
import Derived.KernelRfl
namespace Go.Proofs.Ytpefeaiglkkkoaa
/- THE CELL 'sum', in the pinned program and in every row, IS THE sha256 OF THE DUMP (.gsa) THAT YtpefeaiglkkkoaaProg.lean LOADS. Nothing in Lean hashes anything: it is a label: what it is worth is what the hold of that sum in a sandbox is worth. -/
noncomputable def Try.pinned : Pinned := { name := "ytpefeaiglkkkoaa", sum := "9eac3e5edcd41c943845395759161e9823618d6009278db4f9b67418a9097bfa", checked := Try.checked }
namespace Rows
def none {H : Type} : Left H := { results := [], args := [] }

/-- 'laws.FnViews': WHATEVER THE INPUT: true; the input reads as it did. -/
def fnViewsSpec : ChangeSpec := { name := "fnViews", fn := fun _ => fun
  | [d] => { results := [.lit (.bool true)], args := [d] }
  | _ => none }
def fnViewsRow : OpenClaim := { program := "ytpefeaiglkkkoaa", sum := "9eac3e5edcd41c943845395759161e9823618d6009278db4f9b67418a9097bfa", func := "loop.example/g00238/laws.FnViews", spec := "fnViews", apart := false }
def FnViewsSaid : Prop := fnViewsRow.holds Try.pinned (OpenSpec.ofChange fnViewsSpec)

/-- ITS FALSE NEIGHBOUR: 'it returns false'. Refute it at one input. -/
def fnViewsWrong : ChangeSpec := { name := "fnViews", fn := fun _ => fun
  | [d] => { results := [.lit (.bool false)], args := [d] }
  | _ => none }
def FnViewsWrongFalsely : Prop := fnViewsRow.holds Try.pinned (OpenSpec.ofChange fnViewsWrong)

/-- 'laws.FnChan': WHATEVER THE INPUT: true; the input reads as it did. -/
def fnChanSpec : ChangeSpec := { name := "fnChan", fn := fun _ => fun
  | [d] => { results := [.lit (.bool true)], args := [d] }
  | _ => none }
def fnChanRow : OpenClaim := { program := "ytpefeaiglkkkoaa", sum := "9eac3e5edcd41c943845395759161e9823618d6009278db4f9b67418a9097bfa", func := "loop.example/g00238/laws.FnChan", spec := "fnChan", apart := false }
def FnChanSaid : Prop := fnChanRow.holds Try.pinned (OpenSpec.ofChange fnChanSpec)

/-- ITS FALSE NEIGHBOUR: 'it returns false'. Refute it at one input. -/
def fnChanWrong : ChangeSpec := { name := "fnChan", fn := fun _ => fun
  | [d] => { results := [.lit (.bool false)], args := [d] }
  | _ => none }
def FnChanWrongFalsely : Prop := fnChanRow.holds Try.pinned (OpenSpec.ofChange fnChanWrong)

/-- 'laws.FnClosed': WHATEVER THE INPUT: true; the input reads as it did. -/
def fnClosedSpec : ChangeSpec := { name := "fnClosed", fn := fun _ => fun
  | [d] => { results := [.lit (.bool true)], args := [d] }
  | _ => none }
def fnClosedRow : OpenClaim := { program := "ytpefeaiglkkkoaa", sum := "9eac3e5edcd41c943845395759161e9823618d6009278db4f9b67418a9097bfa", func := "loop.example/g00238/laws.FnClosed", spec := "fnClosed", apart := false }
def FnClosedSaid : Prop := fnClosedRow.holds Try.pinned (OpenSpec.ofChange fnClosedSpec)

/-- ITS FALSE NEIGHBOUR: 'it returns false'. Refute it at one input. -/
def fnClosedWrong : ChangeSpec := { name := "fnClosed", fn := fun _ => fun
  | [d] => { results := [.lit (.bool false)], args := [d] }
  | _ => none }
def FnClosedWrongFalsely : Prop := fnClosedRow.holds Try.pinned (OpenSpec.ofChange fnClosedWrong)

/-- 'laws.FnExactWordStep': WHATEVER THE INPUT: true; the input reads as it did. -/
def fnExactWordStepSpec : ChangeSpec := { name := "fnExactWordStep", fn := fun _ => fun
  | [d] => { results := [.lit (.bool true)], args := [d] }
  | _ => none }
def fnExactWordStepRow : OpenClaim := { program := "ytpefeaiglkkkoaa", sum := "9eac3e5edcd41c943845395759161e9823618d6009278db4f9b67418a9097bfa", func := "loop.example/g00238/laws.FnExactWordStep", spec := "fnExactWordStep", apart := false }
def FnExactWordStepSaid : Prop := fnExactWordStepRow.holds Try.pinned (OpenSpec.ofChange fnExactWordStepSpec)

/-- ITS FALSE NEIGHBOUR: 'it returns false'. Refute it at one input. -/
def fnExactWordStepWrong : ChangeSpec := { name := "fnExactWordStep", fn := fun _ => fun
  | [d] => { results := [.lit (.bool false)], args := [d] }
  | _ => none }
def FnExactWordStepWrongFalsely : Prop := fnExactWordStepRow.holds Try.pinned (OpenSpec.ofChange fnExactWordStepWrong)

/-- 'laws.FnExactMemoryNew': WHATEVER THE INPUT: true; the input reads as it did. -/
def fnExactMemoryNewSpec : ChangeSpec := { name := "fnExactMemoryNew", fn := fun _ => fun
  | [] => { results := [.lit (.bool true)], args := [] }
  | _ => none }
def fnExactMemoryNewRow : OpenClaim := { program := "ytpefeaiglkkkoaa", sum := "9eac3e5edcd41c943845395759161e9823618d6009278db4f9b67418a9097bfa", func := "loop.example/g00238/laws.FnExactMemoryNew", spec := "fnExactMemoryNew", apart := false }
def FnExactMemoryNewSaid : Prop := fnExactMemoryNewRow.holds Try.pinned (OpenSpec.ofChange fnExactMemoryNewSpec)

/-- ITS FALSE NEIGHBOUR: 'it returns false'. Refute it at one input. -/
def fnExactMemoryNewWrong : ChangeSpec := { name := "fnExactMemoryNew", fn := fun _ => fun
  | [] => { results := [.lit (.bool false)], args := [] }
  | _ => none }
def FnExactMemoryNewWrongFalsely : Prop := fnExactMemoryNewRow.holds Try.pinned (OpenSpec.ofChange fnExactMemoryNewWrong)

/-- 'laws.FnSets': WHATEVER THE INPUT: true; the input reads as it did. -/
def fnSetsSpec : ChangeSpec := { name := "fnSets", fn := fun _ => fun
  | [d] => { results := [.lit (.bool true)], args := [d] }
  | _ => none }
def fnSetsRow : OpenClaim := { program := "ytpefeaiglkkkoaa", sum := "9eac3e5edcd41c943845395759161e9823618d6009278db4f9b67418a9097bfa", func := "loop.example/g00238/laws.FnSets", spec := "fnSets", apart := false }
def FnSetsSaid : Prop := fnSetsRow.holds Try.pinned (OpenSpec.ofChange fnSetsSpec)

/-- ITS FALSE NEIGHBOUR: 'it returns false'. Refute it at one input. -/
def fnSetsWrong : ChangeSpec := { name := "fnSets", fn := fun _ => fun
  | [d] => { results := [.lit (.bool false)], args := [d] }
  | _ => none }
def FnSetsWrongFalsely : Prop := fnSetsRow.holds Try.pinned (OpenSpec.ofChange fnSetsWrong)

/-- 'laws.FnExactBodyOk': WHATEVER THE INPUT: true; the input reads as it did. -/
def fnExactBodyOkSpec : ChangeSpec := { name := "fnExactBodyOk", fn := fun _ => fun
  | [d1, d2] => { results := [.lit (.bool true)], args := [d1, d2] }
  | _ => none }
def fnExactBodyOkRow : OpenClaim := { program := "ytpefeaiglkkkoaa", sum := "9eac3e5edcd41c943845395759161e9823618d6009278db4f9b67418a9097bfa", func := "loop.example/g00238/laws.FnExactBodyOk", spec := "fnExactBodyOk", apart := false }
def FnExactBodyOkSaid : Prop := fnExactBodyOkRow.holds Try.pinned (OpenSpec.ofChange fnExactBodyOkSpec)

/-- ITS FALSE NEIGHBOUR: 'it returns false'. Refute it at one input. -/
def fnExactBodyOkWrong : ChangeSpec := { name := "fnExactBodyOk", fn := fun _ => fun
  | [d1, d2] => { results := [.lit (.bool false)], args := [d1, d2] }
  | _ => none }
def FnExactBodyOkWrongFalsely : Prop := fnExactBodyOkRow.holds Try.pinned (OpenSpec.ofChange fnExactBodyOkWrong)

/-- 'laws.FnExactCodeOk': WHATEVER THE INPUT: true; the input reads as it did. -/
def fnExactCodeOkSpec : ChangeSpec := { name := "fnExactCodeOk", fn := fun _ => fun
  | [d] => { results := [.lit (.bool true)], args := [d] }
  | _ => none }
def fnExactCodeOkRow : OpenClaim := { program := "ytpefeaiglkkkoaa", sum := "9eac3e5edcd41c943845395759161e9823618d6009278db4f9b67418a9097bfa", func := "loop.example/g00238/laws.FnExactCodeOk", spec := "fnExactCodeOk", apart := false }
def FnExactCodeOkSaid : Prop := fnExactCodeOkRow.holds Try.pinned (OpenSpec.ofChange fnExactCodeOkSpec)

/-- ITS FALSE NEIGHBOUR: 'it returns false'. Refute it at one input. -/
def fnExactCodeOkWrong : ChangeSpec := { name := "fnExactCodeOk", fn := fun _ => fun
  | [d] => { results := [.lit (.bool false)], args := [d] }
  | _ => none }
def FnExactCodeOkWrongFalsely : Prop := fnExactCodeOkRow.holds Try.pinned (OpenSpec.ofChange fnExactCodeOkWrong)

/-- 'laws.FnExactViewOk': WHATEVER THE INPUT: true; the input reads as it did. -/
def fnExactViewOkSpec : ChangeSpec := { name := "fnExactViewOk", fn := fun _ => fun
  | [d1, d2] => { results := [.lit (.bool true)], args := [d1, d2] }
  | _ => none }
def fnExactViewOkRow : OpenClaim := { program := "ytpefeaiglkkkoaa", sum := "9eac3e5edcd41c943845395759161e9823618d6009278db4f9b67418a9097bfa", func := "loop.example/g00238/laws.FnExactViewOk", spec := "fnExactViewOk", apart := false }
def FnExactViewOkSaid : Prop := fnExactViewOkRow.holds Try.pinned (OpenSpec.ofChange fnExactViewOkSpec)

/-- ITS FALSE NEIGHBOUR: 'it returns false'. Refute it at one input. -/
def fnExactViewOkWrong : ChangeSpec := { name := "fnExactViewOk", fn := fun _ => fun
  | [d1, d2] => { results := [.lit (.bool false)], args := [d1, d2] }
  | _ => none }
def FnExactViewOkWrongFalsely : Prop := fnExactViewOkRow.holds Try.pinned (OpenSpec.ofChange fnExactViewOkWrong)

/-- 'laws.FnMessage': WHATEVER THE INPUT: true; the input reads as it did. -/
def fnMessageSpec : ChangeSpec := { name := "fnMessage", fn := fun _ => fun
  | [d] => { results := [.lit (.bool true)], args := [d] }
  | _ => none }
def fnMessageRow : OpenClaim := { program := "ytpefeaiglkkkoaa", sum := "9eac3e5edcd41c943845395759161e9823618d6009278db4f9b67418a9097bfa", func := "loop.example/g00238/laws.FnMessage", spec := "fnMessage", apart := false }
def FnMessageSaid : Prop := fnMessageRow.holds Try.pinned (OpenSpec.ofChange fnMessageSpec)

/-- ITS FALSE NEIGHBOUR: 'it returns false'. Refute it at one input. -/
def fnMessageWrong : ChangeSpec := { name := "fnMessage", fn := fun _ => fun
  | [d] => { results := [.lit (.bool false)], args := [d] }
  | _ => none }
def FnMessageWrongFalsely : Prop := fnMessageRow.holds Try.pinned (OpenSpec.ofChange fnMessageWrong)

/-- 'laws.FnExactMemoryOk': WHATEVER THE INPUT: true; the input reads as it did. -/
def fnExactMemoryOkSpec : ChangeSpec := { name := "fnExactMemoryOk", fn := fun _ => fun
  | [d] => { results := [.lit (.bool true)], args := [d] }
  | _ => none }
def fnExactMemoryOkRow : OpenClaim := { program := "ytpefeaiglkkkoaa", sum := "9eac3e5edcd41c943845395759161e9823618d6009278db4f9b67418a9097bfa", func := "loop.example/g00238/laws.FnExactMemoryOk", spec := "fnExactMemoryOk", apart := false }
def FnExactMemoryOkSaid : Prop := fnExactMemoryOkRow.holds Try.pinned (OpenSpec.ofChange fnExactMemoryOkSpec)

/-- ITS FALSE NEIGHBOUR: 'it returns false'. Refute it at one input. -/
def fnExactMemoryOkWrong : ChangeSpec := { name := "fnExactMemoryOk", fn := fun _ => fun
  | [d] => { results := [.lit (.bool false)], args := [d] }
  | _ => none }
def FnExactMemoryOkWrongFalsely : Prop := fnExactMemoryOkRow.holds Try.pinned (OpenSpec.ofChange fnExactMemoryOkWrong)

/-- 'laws.FnCode': WHATEVER THE INPUT: true; the input reads as it did. -/
def fnCodeSpec : ChangeSpec := { name := "fnCode", fn := fun _ => fun
  | [d] => { results := [.lit (.bool true)], args := [d] }
  | _ => none }
def fnCodeRow : OpenClaim := { program := "ytpefeaiglkkkoaa", sum := "9eac3e5edcd41c943845395759161e9823618d6009278db4f9b67418a9097bfa", func := "loop.example/g00238/laws.FnCode", spec := "fnCode", apart := false }
def FnCodeSaid : Prop := fnCodeRow.holds Try.pinned (OpenSpec.ofChange fnCodeSpec)

/-- ITS FALSE NEIGHBOUR: 'it returns false'. Refute it at one input. -/
def fnCodeWrong : ChangeSpec := { name := "fnCode", fn := fun _ => fun
  | [d] => { results := [.lit (.bool false)], args := [d] }
  | _ => none }
def FnCodeWrongFalsely : Prop := fnCodeRow.holds Try.pinned (OpenSpec.ofChange fnCodeWrong)

/- THE SECOND FORM. 'bulk': how many values and letters a reading holds, each counted each time it is reached (what is shared counts as often as it is met; a slice's spare places count too). A statement '..UptoSaid' is the law's where the arguments, and the package variables that the reading takes, are together of bulk at most 1048576: NARROWER than '..Said'. Prove '..Said' where nothing that the law and all that it calls make is longer than what came in: it says more and counts as full. Else prove '..UptoSaid'. A law counts once. -/
mutual
def uptoBulk {H : Type} : DataW H → Nat
  | .lit (.string bytes) => bytes.length + 1
  | .lit _ => 1
  | .nil => 1
  | .ptr d => uptoBulk d + 1
  | .slice elems spare => uptoBulkAll elems + uptoBulkAll spare + 1
  | .agg parts => uptoBulkAll parts + 1
  | .iface _ d => uptoBulk d + 1
  | .map entries => uptoBulkEntries entries + 1
  | .held _ => 1
def uptoBulkAll {H : Type} : List (DataW H) → Nat
  | [] => 0
  | d :: r => uptoBulk d + uptoBulkAll r
def uptoBulkEntries {H : Type} : List (Lit × DataW H) → Nat
  | [] => 0
  | x :: r => uptoBulkEntry x + uptoBulkEntries r
def uptoBulkEntry {H : Type} : Lit × DataW H → Nat
  | (.string bytes, d) => bytes.length + uptoBulk d + 1
  | (_, d) => uptoBulk d + 1
 end
def uptoSmall : (H : Type) → List (DataW H) → Bool := fun _ ds => decide (uptoBulkAll ds ≤ 1048576)
def OpenSpec.upto (s : _root_.Go.ChangeSpec) : _root_.Go.OpenSpec := { _root_.Go.OpenSpec.ofChange s with cond := some uptoSmall }

/-- 'laws.FnViews', WHERE WHAT IT READS IS OF BULK AT MOST 1048576: true; the input reads as it did. -/
def fnViewsUptoRow : OpenClaim := { program := "ytpefeaiglkkkoaa", sum := "9eac3e5edcd41c943845395759161e9823618d6009278db4f9b67418a9097bfa", func := "loop.example/g00238/laws.FnViews", spec := "fnViews", apart := false, narrowed := true }
def FnViewsUptoSaid : Prop := fnViewsUptoRow.holds Try.pinned (OpenSpec.upto fnViewsSpec)

/-- 'laws.FnChan', WHERE WHAT IT READS IS OF BULK AT MOST 1048576: true; the input reads as it did. -/
def fnChanUptoRow : OpenClaim := { program := "ytpefeaiglkkkoaa", sum := "9eac3e5edcd41c943845395759161e9823618d6009278db4f9b67418a9097bfa", func := "loop.example/g00238/laws.FnChan", spec := "fnChan", apart := false, narrowed := true }
def FnChanUptoSaid : Prop := fnChanUptoRow.holds Try.pinned (OpenSpec.upto fnChanSpec)

/-- 'laws.FnClosed', WHERE WHAT IT READS IS OF BULK AT MOST 1048576: true; the input reads as it did. -/
def fnClosedUptoRow : OpenClaim := { program := "ytpefeaiglkkkoaa", sum := "9eac3e5edcd41c943845395759161e9823618d6009278db4f9b67418a9097bfa", func := "loop.example/g00238/laws.FnClosed", spec := "fnClosed", apart := false, narrowed := true }
def FnClosedUptoSaid : Prop := fnClosedUptoRow.holds Try.pinned (OpenSpec.upto fnClosedSpec)

/-- 'laws.FnExactWordStep', WHERE WHAT IT READS IS OF BULK AT MOST 1048576: true; the input reads as it did. -/
def fnExactWordStepUptoRow : OpenClaim := { program := "ytpefeaiglkkkoaa", sum := "9eac3e5edcd41c943845395759161e9823618d6009278db4f9b67418a9097bfa", func := "loop.example/g00238/laws.FnExactWordStep", spec := "fnExactWordStep", apart := false, narrowed := true }
def FnExactWordStepUptoSaid : Prop := fnExactWordStepUptoRow.holds Try.pinned (OpenSpec.upto fnExactWordStepSpec)

/-- 'laws.FnExactMemoryNew', WHERE WHAT IT READS IS OF BULK AT MOST 1048576: true; the input reads as it did. -/
def fnExactMemoryNewUptoRow : OpenClaim := { program := "ytpefeaiglkkkoaa", sum := "9eac3e5edcd41c943845395759161e9823618d6009278db4f9b67418a9097bfa", func := "loop.example/g00238/laws.FnExactMemoryNew", spec := "fnExactMemoryNew", apart := false, narrowed := true }
def FnExactMemoryNewUptoSaid : Prop := fnExactMemoryNewUptoRow.holds Try.pinned (OpenSpec.upto fnExactMemoryNewSpec)

/-- 'laws.FnSets', WHERE WHAT IT READS IS OF BULK AT MOST 1048576: true; the input reads as it did. -/
def fnSetsUptoRow : OpenClaim := { program := "ytpefeaiglkkkoaa", sum := "9eac3e5edcd41c943845395759161e9823618d6009278db4f9b67418a9097bfa", func := "loop.example/g00238/laws.FnSets", spec := "fnSets", apart := false, narrowed := true }
def FnSetsUptoSaid : Prop := fnSetsUptoRow.holds Try.pinned (OpenSpec.upto fnSetsSpec)

/-- 'laws.FnExactBodyOk', WHERE WHAT IT READS IS OF BULK AT MOST 1048576: true; the input reads as it did. -/
def fnExactBodyOkUptoRow : OpenClaim := { program := "ytpefeaiglkkkoaa", sum := "9eac3e5edcd41c943845395759161e9823618d6009278db4f9b67418a9097bfa", func := "loop.example/g00238/laws.FnExactBodyOk", spec := "fnExactBodyOk", apart := false, narrowed := true }
def FnExactBodyOkUptoSaid : Prop := fnExactBodyOkUptoRow.holds Try.pinned (OpenSpec.upto fnExactBodyOkSpec)

/-- 'laws.FnExactCodeOk', WHERE WHAT IT READS IS OF BULK AT MOST 1048576: true; the input reads as it did. -/
def fnExactCodeOkUptoRow : OpenClaim := { program := "ytpefeaiglkkkoaa", sum := "9eac3e5edcd41c943845395759161e9823618d6009278db4f9b67418a9097bfa", func := "loop.example/g00238/laws.FnExactCodeOk", spec := "fnExactCodeOk", apart := false, narrowed := true }
def FnExactCodeOkUptoSaid : Prop := fnExactCodeOkUptoRow.holds Try.pinned (OpenSpec.upto fnExactCodeOkSpec)

/-- 'laws.FnExactViewOk', WHERE WHAT IT READS IS OF BULK AT MOST 1048576: true; the input reads as it did. -/
def fnExactViewOkUptoRow : OpenClaim := { program := "ytpefeaiglkkkoaa", sum := "9eac3e5edcd41c943845395759161e9823618d6009278db4f9b67418a9097bfa", func := "loop.example/g00238/laws.FnExactViewOk", spec := "fnExactViewOk", apart := false, narrowed := true }
def FnExactViewOkUptoSaid : Prop := fnExactViewOkUptoRow.holds Try.pinned (OpenSpec.upto fnExactViewOkSpec)

/-- 'laws.FnMessage', WHERE WHAT IT READS IS OF BULK AT MOST 1048576: true; the input reads as it did. -/
def fnMessageUptoRow : OpenClaim := { program := "ytpefeaiglkkkoaa", sum := "9eac3e5edcd41c943845395759161e9823618d6009278db4f9b67418a9097bfa", func := "loop.example/g00238/laws.FnMessage", spec := "fnMessage", apart := false, narrowed := true }
def FnMessageUptoSaid : Prop := fnMessageUptoRow.holds Try.pinned (OpenSpec.upto fnMessageSpec)

/-- 'laws.FnExactMemoryOk', WHERE WHAT IT READS IS OF BULK AT MOST 1048576: true; the input reads as it did. -/
def fnExactMemoryOkUptoRow : OpenClaim := { program := "ytpefeaiglkkkoaa", sum := "9eac3e5edcd41c943845395759161e9823618d6009278db4f9b67418a9097bfa", func := "loop.example/g00238/laws.FnExactMemoryOk", spec := "fnExactMemoryOk", apart := false, narrowed := true }
def FnExactMemoryOkUptoSaid : Prop := fnExactMemoryOkUptoRow.holds Try.pinned (OpenSpec.upto fnExactMemoryOkSpec)

/-- 'laws.FnCode', WHERE WHAT IT READS IS OF BULK AT MOST 1048576: true; the input reads as it did. -/
def fnCodeUptoRow : OpenClaim := { program := "ytpefeaiglkkkoaa", sum := "9eac3e5edcd41c943845395759161e9823618d6009278db4f9b67418a9097bfa", func := "loop.example/g00238/laws.FnCode", spec := "fnCode", apart := false, narrowed := true }
def FnCodeUptoSaid : Prop := fnCodeUptoRow.holds Try.pinned (OpenSpec.upto fnCodeSpec)

end Rows
end Go.Proofs.Ytpefeaiglkkkoaa
