/-
  No cell of these rows narrows 'for every input' (looked for: loops, veiled, ifaces, maps, wideKeys, modest, calm, conditions, laid).
  DERIVED. THE GIVEN ROWS OF THIS SEAT. 7 by the template 'for every input the law returns true; each argument reads behind the call as it read before'; 0 by the template 'total and deterministic' (their statements: YtobachfngmpeiaaTotals.lean).
  GIVEN WITH THE SEED: the statements are not yours to turn. If you find one false, say at which input.
  Laid BY PROGRAM, IN A SANDBOX (cutbox-rows.mjs): the forced cells as the released guide's own fill.sh prints them over the translation 923939d14c7f91dc… (all of the seat's roots in one cut). By AI agents, Wed Nov 11 2026. No macro, syntax, notation, axiom, sorry.
-/
import Derived.Test.YtobachfngmpeiaaChecked
import GoSem.Claim
import GoSem.ClaimJoined
import GoSem.ClaimMapViews
import Derived.JoinedTies
import Derived.KernelRfl
namespace Go.Proofs.Ytobachfngmpeiaa
/- THE CELL 'sum', in the pinned program and in every row, IS THE sha256 OF THE DUMP (.gsa) THAT YtobachfngmpeiaaProg.lean LOADS. Nothing in Lean hashes anything: it is a label: what it is worth is what the hold of that sum in a sandbox is worth. -/
noncomputable def Try.pinned : Pinned := { name := "ytobachfngmpeiaa", sum := "923939d14c7f91dc8d0deb9111fd6169bdb2c7401b2e95f9777cfa8405e596fc", checked := Try.checked }
namespace Rows
def none {H : Type} : Left H := { results := [], args := [] }

/-- 'laws.FnSaid': WHATEVER THE INPUT: true; the input reads as it did. -/
def fnSaidSpec : ChangeSpec := { name := "fnSaid", fn := fun _ => fun
  | [d] => { results := [.lit (.bool true)], args := [d] }
  | _ => none }
def fnSaidRow : OpenClaim := { program := "ytobachfngmpeiaa", sum := "923939d14c7f91dc8d0deb9111fd6169bdb2c7401b2e95f9777cfa8405e596fc", func := "loop.example/g00238/laws.FnSaid", spec := "fnSaid", apart := false }
def FnSaidSaid : Prop := fnSaidRow.holds Try.pinned (OpenSpec.ofChange fnSaidSpec)

/-- ITS FALSE NEIGHBOUR: 'it returns false'. Refute it at one input. -/
def fnSaidWrong : ChangeSpec := { name := "fnSaid", fn := fun _ => fun
  | [d] => { results := [.lit (.bool false)], args := [d] }
  | _ => none }
def FnSaidWrongFalsely : Prop := fnSaidRow.holds Try.pinned (OpenSpec.ofChange fnSaidWrong)

/-- 'laws.FnExactSourceNew': WHATEVER THE INPUT: true; the input reads as it did. -/
def fnExactSourceNewSpec : ChangeSpec := { name := "fnExactSourceNew", fn := fun _ => fun
  | [d] => { results := [.lit (.bool true)], args := [d] }
  | _ => none }
def fnExactSourceNewRow : OpenClaim := { program := "ytobachfngmpeiaa", sum := "923939d14c7f91dc8d0deb9111fd6169bdb2c7401b2e95f9777cfa8405e596fc", func := "loop.example/g00238/laws.FnExactSourceNew", spec := "fnExactSourceNew", apart := false }
def FnExactSourceNewSaid : Prop := fnExactSourceNewRow.holds Try.pinned (OpenSpec.ofChange fnExactSourceNewSpec)

/-- ITS FALSE NEIGHBOUR: 'it returns false'. Refute it at one input. -/
def fnExactSourceNewWrong : ChangeSpec := { name := "fnExactSourceNew", fn := fun _ => fun
  | [d] => { results := [.lit (.bool false)], args := [d] }
  | _ => none }
def FnExactSourceNewWrongFalsely : Prop := fnExactSourceNewRow.holds Try.pinned (OpenSpec.ofChange fnExactSourceNewWrong)

/-- 'laws.FnExactMachineNew': WHATEVER THE INPUT: true; the input reads as it did. -/
def fnExactMachineNewSpec : ChangeSpec := { name := "fnExactMachineNew", fn := fun _ => fun
  | [d] => { results := [.lit (.bool true)], args := [d] }
  | _ => none }
def fnExactMachineNewRow : OpenClaim := { program := "ytobachfngmpeiaa", sum := "923939d14c7f91dc8d0deb9111fd6169bdb2c7401b2e95f9777cfa8405e596fc", func := "loop.example/g00238/laws.FnExactMachineNew", spec := "fnExactMachineNew", apart := false }
def FnExactMachineNewSaid : Prop := fnExactMachineNewRow.holds Try.pinned (OpenSpec.ofChange fnExactMachineNewSpec)

/-- ITS FALSE NEIGHBOUR: 'it returns false'. Refute it at one input. -/
def fnExactMachineNewWrong : ChangeSpec := { name := "fnExactMachineNew", fn := fun _ => fun
  | [d] => { results := [.lit (.bool false)], args := [d] }
  | _ => none }
def FnExactMachineNewWrongFalsely : Prop := fnExactMachineNewRow.holds Try.pinned (OpenSpec.ofChange fnExactMachineNewWrong)

/-- 'laws.FnExactStuck': WHATEVER THE INPUT: true; the input reads as it did. -/
def fnExactStuckSpec : ChangeSpec := { name := "fnExactStuck", fn := fun _ => fun
  | [d1, d2] => { results := [.lit (.bool true)], args := [d1, d2] }
  | _ => none }
def fnExactStuckRow : OpenClaim := { program := "ytobachfngmpeiaa", sum := "923939d14c7f91dc8d0deb9111fd6169bdb2c7401b2e95f9777cfa8405e596fc", func := "loop.example/g00238/laws.FnExactStuck", spec := "fnExactStuck", apart := false }
def FnExactStuckSaid : Prop := fnExactStuckRow.holds Try.pinned (OpenSpec.ofChange fnExactStuckSpec)

/-- ITS FALSE NEIGHBOUR: 'it returns false'. Refute it at one input. -/
def fnExactStuckWrong : ChangeSpec := { name := "fnExactStuck", fn := fun _ => fun
  | [d1, d2] => { results := [.lit (.bool false)], args := [d1, d2] }
  | _ => none }
def FnExactStuckWrongFalsely : Prop := fnExactStuckRow.holds Try.pinned (OpenSpec.ofChange fnExactStuckWrong)

/-- 'laws.FnExactAble': WHATEVER THE INPUT: true; the input reads as it did. -/
def fnExactAbleSpec : ChangeSpec := { name := "fnExactAble", fn := fun _ => fun
  | [d1, d2] => { results := [.lit (.bool true)], args := [d1, d2] }
  | _ => none }
def fnExactAbleRow : OpenClaim := { program := "ytobachfngmpeiaa", sum := "923939d14c7f91dc8d0deb9111fd6169bdb2c7401b2e95f9777cfa8405e596fc", func := "loop.example/g00238/laws.FnExactAble", spec := "fnExactAble", apart := false }
def FnExactAbleSaid : Prop := fnExactAbleRow.holds Try.pinned (OpenSpec.ofChange fnExactAbleSpec)

/-- ITS FALSE NEIGHBOUR: 'it returns false'. Refute it at one input. -/
def fnExactAbleWrong : ChangeSpec := { name := "fnExactAble", fn := fun _ => fun
  | [d1, d2] => { results := [.lit (.bool false)], args := [d1, d2] }
  | _ => none }
def FnExactAbleWrongFalsely : Prop := fnExactAbleRow.holds Try.pinned (OpenSpec.ofChange fnExactAbleWrong)

/-- 'laws.FnExactChanSame': WHATEVER THE INPUT: true; the input reads as it did. -/
def fnExactChanSameSpec : ChangeSpec := { name := "fnExactChanSame", fn := fun _ => fun
  | [d1, d2, d3, d4] => { results := [.lit (.bool true)], args := [d1, d2, d3, d4] }
  | _ => none }
def fnExactChanSameRow : OpenClaim := { program := "ytobachfngmpeiaa", sum := "923939d14c7f91dc8d0deb9111fd6169bdb2c7401b2e95f9777cfa8405e596fc", func := "loop.example/g00238/laws.FnExactChanSame", spec := "fnExactChanSame", apart := false }
def FnExactChanSameSaid : Prop := fnExactChanSameRow.holds Try.pinned (OpenSpec.ofChange fnExactChanSameSpec)

/-- ITS FALSE NEIGHBOUR: 'it returns false'. Refute it at one input. -/
def fnExactChanSameWrong : ChangeSpec := { name := "fnExactChanSame", fn := fun _ => fun
  | [d1, d2, d3, d4] => { results := [.lit (.bool false)], args := [d1, d2, d3, d4] }
  | _ => none }
def FnExactChanSameWrongFalsely : Prop := fnExactChanSameRow.holds Try.pinned (OpenSpec.ofChange fnExactChanSameWrong)

/-- 'laws.FnLaid': WHATEVER THE INPUT: true; the input reads as it did. -/
def fnLaidSpec : ChangeSpec := { name := "fnLaid", fn := fun _ => fun
  | [d] => { results := [.lit (.bool true)], args := [d] }
  | _ => none }
def fnLaidRow : OpenClaim := { program := "ytobachfngmpeiaa", sum := "923939d14c7f91dc8d0deb9111fd6169bdb2c7401b2e95f9777cfa8405e596fc", func := "loop.example/g00238/laws.FnLaid", spec := "fnLaid", apart := false }
def FnLaidSaid : Prop := fnLaidRow.holds Try.pinned (OpenSpec.ofChange fnLaidSpec)

/-- ITS FALSE NEIGHBOUR: 'it returns false'. Refute it at one input. -/
def fnLaidWrong : ChangeSpec := { name := "fnLaid", fn := fun _ => fun
  | [d] => { results := [.lit (.bool false)], args := [d] }
  | _ => none }
def FnLaidWrongFalsely : Prop := fnLaidRow.holds Try.pinned (OpenSpec.ofChange fnLaidWrong)

/- THE SECOND FORM. 'bulk': how many values and letters a reading holds, each counted each time it is reached (what is shared counts as often as it is met; a slice's spare places count too). A statement '..UptoSaid' is the law's where the arguments, and the package variables that the reading takes, are together of bulk at most 1048576: NARROWER than '..Said'. Prove '..Said' where nothing that the law and all that it calls make is longer than what came in: it says more and counts as full. Else prove '..UptoSaid'. A law counts once. -/
mutual
def uptoBulk {H : Type} : DataW H → Nat
  | .lit (.string bytes) => bytes.length + 1
  | .lit _ => 1
  | .nil => 1
  | .ptr d => uptoBulk d + 1
  | .slice elems spare => uptoBulkAll elems + uptoBulkAll spare + 1
  | .agg parts => uptoBulkAll parts + 1
  | .iface _ d => uptoBulk d + 1
  | .map entries => uptoBulkEntries entries + 1
  | .held _ => 1
def uptoBulkAll {H : Type} : List (DataW H) → Nat
  | [] => 0
  | d :: r => uptoBulk d + uptoBulkAll r
def uptoBulkEntries {H : Type} : List (Lit × DataW H) → Nat
  | [] => 0
  | x :: r => uptoBulkEntry x + uptoBulkEntries r
def uptoBulkEntry {H : Type} : Lit × DataW H → Nat
  | (.string bytes, d) => bytes.length + uptoBulk d + 1
  | (_, d) => uptoBulk d + 1
 end
def uptoSmall : (H : Type) → List (DataW H) → Bool := fun _ ds => decide (uptoBulkAll ds ≤ 1048576)
def OpenSpec.upto (s : _root_.Go.ChangeSpec) : _root_.Go.OpenSpec := { _root_.Go.OpenSpec.ofChange s with cond := some uptoSmall }

/-- 'laws.FnSaid', WHERE WHAT IT READS IS OF BULK AT MOST 1048576: true; the input reads as it did. -/
def fnSaidUptoRow : OpenClaim := { program := "ytobachfngmpeiaa", sum := "923939d14c7f91dc8d0deb9111fd6169bdb2c7401b2e95f9777cfa8405e596fc", func := "loop.example/g00238/laws.FnSaid", spec := "fnSaid", apart := false, narrowed := true }
def FnSaidUptoSaid : Prop := fnSaidUptoRow.holds Try.pinned (OpenSpec.upto fnSaidSpec)

/-- 'laws.FnExactSourceNew', WHERE WHAT IT READS IS OF BULK AT MOST 1048576: true; the input reads as it did. -/
def fnExactSourceNewUptoRow : OpenClaim := { program := "ytobachfngmpeiaa", sum := "923939d14c7f91dc8d0deb9111fd6169bdb2c7401b2e95f9777cfa8405e596fc", func := "loop.example/g00238/laws.FnExactSourceNew", spec := "fnExactSourceNew", apart := false, narrowed := true }
def FnExactSourceNewUptoSaid : Prop := fnExactSourceNewUptoRow.holds Try.pinned (OpenSpec.upto fnExactSourceNewSpec)

/-- 'laws.FnExactMachineNew', WHERE WHAT IT READS IS OF BULK AT MOST 1048576: true; the input reads as it did. -/
def fnExactMachineNewUptoRow : OpenClaim := { program := "ytobachfngmpeiaa", sum := "923939d14c7f91dc8d0deb9111fd6169bdb2c7401b2e95f9777cfa8405e596fc", func := "loop.example/g00238/laws.FnExactMachineNew", spec := "fnExactMachineNew", apart := false, narrowed := true }
def FnExactMachineNewUptoSaid : Prop := fnExactMachineNewUptoRow.holds Try.pinned (OpenSpec.upto fnExactMachineNewSpec)

/-- 'laws.FnExactStuck', WHERE WHAT IT READS IS OF BULK AT MOST 1048576: true; the input reads as it did. -/
def fnExactStuckUptoRow : OpenClaim := { program := "ytobachfngmpeiaa", sum := "923939d14c7f91dc8d0deb9111fd6169bdb2c7401b2e95f9777cfa8405e596fc", func := "loop.example/g00238/laws.FnExactStuck", spec := "fnExactStuck", apart := false, narrowed := true }
def FnExactStuckUptoSaid : Prop := fnExactStuckUptoRow.holds Try.pinned (OpenSpec.upto fnExactStuckSpec)

/-- 'laws.FnExactAble', WHERE WHAT IT READS IS OF BULK AT MOST 1048576: true; the input reads as it did. -/
def fnExactAbleUptoRow : OpenClaim := { program := "ytobachfngmpeiaa", sum := "923939d14c7f91dc8d0deb9111fd6169bdb2c7401b2e95f9777cfa8405e596fc", func := "loop.example/g00238/laws.FnExactAble", spec := "fnExactAble", apart := false, narrowed := true }
def FnExactAbleUptoSaid : Prop := fnExactAbleUptoRow.holds Try.pinned (OpenSpec.upto fnExactAbleSpec)

/-- 'laws.FnExactChanSame', WHERE WHAT IT READS IS OF BULK AT MOST 1048576: true; the input reads as it did. -/
def fnExactChanSameUptoRow : OpenClaim := { program := "ytobachfngmpeiaa", sum := "923939d14c7f91dc8d0deb9111fd6169bdb2c7401b2e95f9777cfa8405e596fc", func := "loop.example/g00238/laws.FnExactChanSame", spec := "fnExactChanSame", apart := false, narrowed := true }
def FnExactChanSameUptoSaid : Prop := fnExactChanSameUptoRow.holds Try.pinned (OpenSpec.upto fnExactChanSameSpec)

/-- 'laws.FnLaid', WHERE WHAT IT READS IS OF BULK AT MOST 1048576: true; the input reads as it did. -/
def fnLaidUptoRow : OpenClaim := { program := "ytobachfngmpeiaa", sum := "923939d14c7f91dc8d0deb9111fd6169bdb2c7401b2e95f9777cfa8405e596fc", func := "loop.example/g00238/laws.FnLaid", spec := "fnLaid", apart := false, narrowed := true }
def FnLaidUptoSaid : Prop := fnLaidUptoRow.holds Try.pinned (OpenSpec.upto fnLaidSpec)

end Rows
end Go.Proofs.Ytobachfngmpeiaa
