/-
  No cell of these rows narrows 'for every input' (looked for: loops, veiled, ifaces, maps, wideKeys, modest, calm, conditions, laid).
  DERIVED. THE GIVEN ROWS OF THIS SEAT. 3 by the template 'for every input the law returns true; each argument reads behind the call as it read before'; 0 by the template 'total and deterministic' (their statements: YtfaoipojijhlbaaTotals.lean).
  GIVEN WITH THE SEED: the statements are not yours to turn. If you find one false, say at which input.
  Laid BY PROGRAM, IN A SANDBOX (cutbox-rows.mjs): the forced cells as the released guide's own fill.sh prints them over the translation cfcdc76224f7ff1e… (all of the seat's roots in one cut). By AI agents, Wed Nov 11 2026. No macro, syntax, notation, axiom, sorry.
-/
import Derived.Test.YtfaoipojijhlbaaChecked
import GoSem.Claim
import GoSem.ClaimJoined
import GoSem.ClaimMapViews
import Derived.JoinedTies
import Derived.KernelRfl
namespace Go.Proofs.Ytfaoipojijhlbaa
/- THE CELL 'sum', in the pinned program and in every row, IS THE sha256 OF THE DUMP (.gsa) THAT YtfaoipojijhlbaaProg.lean LOADS. Nothing in Lean hashes anything: it is a label: what it is worth is what the hold of that sum in a sandbox is worth. -/
noncomputable def Try.pinned : Pinned := { name := "ytfaoipojijhlbaa", sum := "cfcdc76224f7ff1e2a49adc230589c8068bafe97c164372f91b8ceacae7153d2", checked := Try.checked }
namespace Rows
def none {H : Type} : Left H := { results := [], args := [] }

/-- 'laws.FnExactLocked': WHATEVER THE INPUT: true; the input reads as it did. -/
def fnExactLockedSpec : ChangeSpec := { name := "fnExactLocked", fn := fun _ => fun
  | [d1, d2, d3] => { results := [.lit (.bool true)], args := [d1, d2, d3] }
  | _ => none }
def fnExactLockedRow : OpenClaim := { program := "ytfaoipojijhlbaa", sum := "cfcdc76224f7ff1e2a49adc230589c8068bafe97c164372f91b8ceacae7153d2", func := "loop.example/g00238/laws.FnExactLocked", spec := "fnExactLocked", apart := false }
def FnExactLockedSaid : Prop := fnExactLockedRow.holds Try.pinned (OpenSpec.ofChange fnExactLockedSpec)

/-- ITS FALSE NEIGHBOUR: 'it returns false'. Refute it at one input. -/
def fnExactLockedWrong : ChangeSpec := { name := "fnExactLocked", fn := fun _ => fun
  | [d1, d2, d3] => { results := [.lit (.bool false)], args := [d1, d2, d3] }
  | _ => none }
def FnExactLockedWrongFalsely : Prop := fnExactLockedRow.holds Try.pinned (OpenSpec.ofChange fnExactLockedWrong)

/-- 'laws.FnExactSourceOk': WHATEVER THE INPUT: true; the input reads as it did. -/
def fnExactSourceOkSpec : ChangeSpec := { name := "fnExactSourceOk", fn := fun _ => fun
  | [d1, d2] => { results := [.lit (.bool true)], args := [d1, d2] }
  | _ => none }
def fnExactSourceOkRow : OpenClaim := { program := "ytfaoipojijhlbaa", sum := "cfcdc76224f7ff1e2a49adc230589c8068bafe97c164372f91b8ceacae7153d2", func := "loop.example/g00238/laws.FnExactSourceOk", spec := "fnExactSourceOk", apart := false }
def FnExactSourceOkSaid : Prop := fnExactSourceOkRow.holds Try.pinned (OpenSpec.ofChange fnExactSourceOkSpec)

/-- ITS FALSE NEIGHBOUR: 'it returns false'. Refute it at one input. -/
def fnExactSourceOkWrong : ChangeSpec := { name := "fnExactSourceOk", fn := fun _ => fun
  | [d1, d2] => { results := [.lit (.bool false)], args := [d1, d2] }
  | _ => none }
def FnExactSourceOkWrongFalsely : Prop := fnExactSourceOkRow.holds Try.pinned (OpenSpec.ofChange fnExactSourceOkWrong)

/-- 'laws.FnExactMachineOk': WHATEVER THE INPUT: true; the input reads as it did. -/
def fnExactMachineOkSpec : ChangeSpec := { name := "fnExactMachineOk", fn := fun _ => fun
  | [d] => { results := [.lit (.bool true)], args := [d] }
  | _ => none }
def fnExactMachineOkRow : OpenClaim := { program := "ytfaoipojijhlbaa", sum := "cfcdc76224f7ff1e2a49adc230589c8068bafe97c164372f91b8ceacae7153d2", func := "loop.example/g00238/laws.FnExactMachineOk", spec := "fnExactMachineOk", apart := false }
def FnExactMachineOkSaid : Prop := fnExactMachineOkRow.holds Try.pinned (OpenSpec.ofChange fnExactMachineOkSpec)

/-- ITS FALSE NEIGHBOUR: 'it returns false'. Refute it at one input. -/
def fnExactMachineOkWrong : ChangeSpec := { name := "fnExactMachineOk", fn := fun _ => fun
  | [d] => { results := [.lit (.bool false)], args := [d] }
  | _ => none }
def FnExactMachineOkWrongFalsely : Prop := fnExactMachineOkRow.holds Try.pinned (OpenSpec.ofChange fnExactMachineOkWrong)

/- THE SECOND FORM. 'bulk': how many values and letters a reading holds, each counted each time it is reached (what is shared counts as often as it is met; a slice's spare places count too). A statement '..UptoSaid' is the law's where the arguments, and the package variables that the reading takes, are together of bulk at most 1048576: NARROWER than '..Said'. Prove '..Said' where nothing that the law and all that it calls make is longer than what came in: it says more and counts as full. Else prove '..UptoSaid'. A law counts once. -/
mutual
def uptoBulk {H : Type} : DataW H → Nat
  | .lit (.string bytes) => bytes.length + 1
  | .lit _ => 1
  | .nil => 1
  | .ptr d => uptoBulk d + 1
  | .slice elems spare => uptoBulkAll elems + uptoBulkAll spare + 1
  | .agg parts => uptoBulkAll parts + 1
  | .iface _ d => uptoBulk d + 1
  | .map entries => uptoBulkEntries entries + 1
  | .held _ => 1
def uptoBulkAll {H : Type} : List (DataW H) → Nat
  | [] => 0
  | d :: r => uptoBulk d + uptoBulkAll r
def uptoBulkEntries {H : Type} : List (Lit × DataW H) → Nat
  | [] => 0
  | x :: r => uptoBulkEntry x + uptoBulkEntries r
def uptoBulkEntry {H : Type} : Lit × DataW H → Nat
  | (.string bytes, d) => bytes.length + uptoBulk d + 1
  | (_, d) => uptoBulk d + 1
 end
def uptoSmall : (H : Type) → List (DataW H) → Bool := fun _ ds => decide (uptoBulkAll ds ≤ 1048576)
def OpenSpec.upto (s : _root_.Go.ChangeSpec) : _root_.Go.OpenSpec := { _root_.Go.OpenSpec.ofChange s with cond := some uptoSmall }

/-- 'laws.FnExactLocked', WHERE WHAT IT READS IS OF BULK AT MOST 1048576: true; the input reads as it did. -/
def fnExactLockedUptoRow : OpenClaim := { program := "ytfaoipojijhlbaa", sum := "cfcdc76224f7ff1e2a49adc230589c8068bafe97c164372f91b8ceacae7153d2", func := "loop.example/g00238/laws.FnExactLocked", spec := "fnExactLocked", apart := false, narrowed := true }
def FnExactLockedUptoSaid : Prop := fnExactLockedUptoRow.holds Try.pinned (OpenSpec.upto fnExactLockedSpec)

/-- 'laws.FnExactSourceOk', WHERE WHAT IT READS IS OF BULK AT MOST 1048576: true; the input reads as it did. -/
def fnExactSourceOkUptoRow : OpenClaim := { program := "ytfaoipojijhlbaa", sum := "cfcdc76224f7ff1e2a49adc230589c8068bafe97c164372f91b8ceacae7153d2", func := "loop.example/g00238/laws.FnExactSourceOk", spec := "fnExactSourceOk", apart := false, narrowed := true }
def FnExactSourceOkUptoSaid : Prop := fnExactSourceOkUptoRow.holds Try.pinned (OpenSpec.upto fnExactSourceOkSpec)

/-- 'laws.FnExactMachineOk', WHERE WHAT IT READS IS OF BULK AT MOST 1048576: true; the input reads as it did. -/
def fnExactMachineOkUptoRow : OpenClaim := { program := "ytfaoipojijhlbaa", sum := "cfcdc76224f7ff1e2a49adc230589c8068bafe97c164372f91b8ceacae7153d2", func := "loop.example/g00238/laws.FnExactMachineOk", spec := "fnExactMachineOk", apart := false, narrowed := true }
def FnExactMachineOkUptoSaid : Prop := fnExactMachineOkUptoRow.holds Try.pinned (OpenSpec.upto fnExactMachineOkSpec)

end Rows
end Go.Proofs.Ytfaoipojijhlbaa
