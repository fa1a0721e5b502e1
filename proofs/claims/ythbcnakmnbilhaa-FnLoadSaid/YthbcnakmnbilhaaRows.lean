/-
  No cell of these rows narrows 'for every input' (looked for: loops, veiled, ifaces, maps, wideKeys, modest, calm, conditions, laid).
  DERIVED. THE GIVEN ROWS OF THIS SEAT. 10 by the template 'for every input the law returns true; each argument reads behind the call as it read before'; 0 by the template 'total and deterministic' (their statements: YthbcnakmnbilhaaTotals.lean).
  GIVEN WITH THE SEED: the statements are not yours to turn. If you find one false, say at which input.
  Laid BY PROGRAM, IN A SANDBOX (cutbox-rows.mjs): the forced cells as the released guide's own fill.sh prints them over the translation 7656046a63dfe62b… (all of the seat's roots in one cut). By AI agents, Wed Nov 11 2026. No macro, syntax, notation, axiom, sorry.
-/
import Derived.Test.YthbcnakmnbilhaaChecked
import GoSem.Claim
import GoSem.ClaimJoined
import GoSem.ClaimMapViews
import Derived.JoinedTies
import Derived.KernelRfl
namespace Go.Proofs.Ythbcnakmnbilhaa
/- THE CELL 'sum', in the pinned program and in every row, IS THE sha256 OF THE DUMP (.gsa) THAT YthbcnakmnbilhaaProg.lean LOADS. Nothing in Lean hashes anything: it is a label: what it is worth is what the hold of that sum in a sandbox is worth. -/
noncomputable def Try.pinned : Pinned := { name := "ythbcnakmnbilhaa", sum := "7656046a63dfe62b9c9f148194ffdf0d12557c22deb271a5e6d2cb826c8b543d", checked := Try.checked }
namespace Rows
def none {H : Type} : Left H := { results := [], args := [] }

/-- 'laws.FnExactMemoryNew': WHATEVER THE INPUT: true; the input reads as it did. -/
def fnExactMemoryNewSpec : ChangeSpec := { name := "fnExactMemoryNew", fn := fun _ => fun
  | [] => { results := [.lit (.bool true)], args := [] }
  | _ => none }
def fnExactMemoryNewRow : OpenClaim := { program := "ythbcnakmnbilhaa", sum := "7656046a63dfe62b9c9f148194ffdf0d12557c22deb271a5e6d2cb826c8b543d", func := "loop.example/g00238/laws.FnExactMemoryNew", spec := "fnExactMemoryNew", apart := false }
def FnExactMemoryNewSaid : Prop := fnExactMemoryNewRow.holds Try.pinned (OpenSpec.ofChange fnExactMemoryNewSpec)

/-- ITS FALSE NEIGHBOUR: 'it returns false'. Refute it at one input. -/
def fnExactMemoryNewWrong : ChangeSpec := { name := "fnExactMemoryNew", fn := fun _ => fun
  | [] => { results := [.lit (.bool false)], args := [] }
  | _ => none }
def FnExactMemoryNewWrongFalsely : Prop := fnExactMemoryNewRow.holds Try.pinned (OpenSpec.ofChange fnExactMemoryNewWrong)

/-- 'laws.FnMessage': WHATEVER THE INPUT: true; the input reads as it did. -/
def fnMessageSpec : ChangeSpec := { name := "fnMessage", fn := fun _ => fun
  | [d] => { results := [.lit (.bool true)], args := [d] }
  | _ => none }
def fnMessageRow : OpenClaim := { program := "ythbcnakmnbilhaa", sum := "7656046a63dfe62b9c9f148194ffdf0d12557c22deb271a5e6d2cb826c8b543d", func := "loop.example/g00238/laws.FnMessage", spec := "fnMessage", apart := false }
def FnMessageSaid : Prop := fnMessageRow.holds Try.pinned (OpenSpec.ofChange fnMessageSpec)

/-- ITS FALSE NEIGHBOUR: 'it returns false'. Refute it at one input. -/
def fnMessageWrong : ChangeSpec := { name := "fnMessage", fn := fun _ => fun
  | [d] => { results := [.lit (.bool false)], args := [d] }
  | _ => none }
def FnMessageWrongFalsely : Prop := fnMessageRow.holds Try.pinned (OpenSpec.ofChange fnMessageWrong)

/-- 'laws.FnLoad': WHATEVER THE INPUT: true; the input reads as it did. -/
def fnLoadSpec : ChangeSpec := { name := "fnLoad", fn := fun _ => fun
  | [d] => { results := [.lit (.bool true)], args := [d] }
  | _ => none }
def fnLoadRow : OpenClaim := { program := "ythbcnakmnbilhaa", sum := "7656046a63dfe62b9c9f148194ffdf0d12557c22deb271a5e6d2cb826c8b543d", func := "loop.example/g00238/laws.FnLoad", spec := "fnLoad", apart := false }
def FnLoadSaid : Prop := fnLoadRow.holds Try.pinned (OpenSpec.ofChange fnLoadSpec)

/-- ITS FALSE NEIGHBOUR: 'it returns false'. Refute it at one input. -/
def fnLoadWrong : ChangeSpec := { name := "fnLoad", fn := fun _ => fun
  | [d] => { results := [.lit (.bool false)], args := [d] }
  | _ => none }
def FnLoadWrongFalsely : Prop := fnLoadRow.holds Try.pinned (OpenSpec.ofChange fnLoadWrong)

/-- 'laws.FnExactLoad': WHATEVER THE INPUT: true; the input reads as it did. -/
def fnExactLoadSpec : ChangeSpec := { name := "fnExactLoad", fn := fun _ => fun
  | [d1, d2, d3, d4, d5] => { results := [.lit (.bool true)], args := [d1, d2, d3, d4, d5] }
  | _ => none }
def fnExactLoadRow : OpenClaim := { program := "ythbcnakmnbilhaa", sum := "7656046a63dfe62b9c9f148194ffdf0d12557c22deb271a5e6d2cb826c8b543d", func := "loop.example/g00238/laws.FnExactLoad", spec := "fnExactLoad", apart := false }
def FnExactLoadSaid : Prop := fnExactLoadRow.holds Try.pinned (OpenSpec.ofChange fnExactLoadSpec)

/-- ITS FALSE NEIGHBOUR: 'it returns false'. Refute it at one input. -/
def fnExactLoadWrong : ChangeSpec := { name := "fnExactLoad", fn := fun _ => fun
  | [d1, d2, d3, d4, d5] => { results := [.lit (.bool false)], args := [d1, d2, d3, d4, d5] }
  | _ => none }
def FnExactLoadWrongFalsely : Prop := fnExactLoadRow.holds Try.pinned (OpenSpec.ofChange fnExactLoadWrong)

/-- 'laws.FnExactSaid': WHATEVER THE INPUT: true; the input reads as it did. -/
def fnExactSaidSpec : ChangeSpec := { name := "fnExactSaid", fn := fun _ => fun
  | [d1, d2] => { results := [.lit (.bool true)], args := [d1, d2] }
  | _ => none }
def fnExactSaidRow : OpenClaim := { program := "ythbcnakmnbilhaa", sum := "7656046a63dfe62b9c9f148194ffdf0d12557c22deb271a5e6d2cb826c8b543d", func := "loop.example/g00238/laws.FnExactSaid", spec := "fnExactSaid", apart := false }
def FnExactSaidSaid : Prop := fnExactSaidRow.holds Try.pinned (OpenSpec.ofChange fnExactSaidSpec)

/-- ITS FALSE NEIGHBOUR: 'it returns false'. Refute it at one input. -/
def fnExactSaidWrong : ChangeSpec := { name := "fnExactSaid", fn := fun _ => fun
  | [d1, d2] => { results := [.lit (.bool false)], args := [d1, d2] }
  | _ => none }
def FnExactSaidWrongFalsely : Prop := fnExactSaidRow.holds Try.pinned (OpenSpec.ofChange fnExactSaidWrong)

/-- 'laws.FnStore': WHATEVER THE INPUT: true; the input reads as it did. -/
def fnStoreSpec : ChangeSpec := { name := "fnStore", fn := fun _ => fun
  | [d] => { results := [.lit (.bool true)], args := [d] }
  | _ => none }
def fnStoreRow : OpenClaim := { program := "ythbcnakmnbilhaa", sum := "7656046a63dfe62b9c9f148194ffdf0d12557c22deb271a5e6d2cb826c8b543d", func := "loop.example/g00238/laws.FnStore", spec := "fnStore", apart := false }
def FnStoreSaid : Prop := fnStoreRow.holds Try.pinned (OpenSpec.ofChange fnStoreSpec)

/-- ITS FALSE NEIGHBOUR: 'it returns false'. Refute it at one input. -/
def fnStoreWrong : ChangeSpec := { name := "fnStore", fn := fun _ => fun
  | [d] => { results := [.lit (.bool false)], args := [d] }
  | _ => none }
def FnStoreWrongFalsely : Prop := fnStoreRow.holds Try.pinned (OpenSpec.ofChange fnStoreWrong)

/-- 'laws.FnSwap': WHATEVER THE INPUT: true; the input reads as it did. -/
def fnSwapSpec : ChangeSpec := { name := "fnSwap", fn := fun _ => fun
  | [d] => { results := [.lit (.bool true)], args := [d] }
  | _ => none }
def fnSwapRow : OpenClaim := { program := "ythbcnakmnbilhaa", sum := "7656046a63dfe62b9c9f148194ffdf0d12557c22deb271a5e6d2cb826c8b543d", func := "loop.example/g00238/laws.FnSwap", spec := "fnSwap", apart := false }
def FnSwapSaid : Prop := fnSwapRow.holds Try.pinned (OpenSpec.ofChange fnSwapSpec)

/-- ITS FALSE NEIGHBOUR: 'it returns false'. Refute it at one input. -/
def fnSwapWrong : ChangeSpec := { name := "fnSwap", fn := fun _ => fun
  | [d] => { results := [.lit (.bool false)], args := [d] }
  | _ => none }
def FnSwapWrongFalsely : Prop := fnSwapRow.holds Try.pinned (OpenSpec.ofChange fnSwapWrong)

/-- 'laws.FnExactStore': WHATEVER THE INPUT: true; the input reads as it did. -/
def fnExactStoreSpec : ChangeSpec := { name := "fnExactStore", fn := fun _ => fun
  | [d1, d2, d3, d4, d5] => { results := [.lit (.bool true)], args := [d1, d2, d3, d4, d5] }
  | _ => none }
def fnExactStoreRow : OpenClaim := { program := "ythbcnakmnbilhaa", sum := "7656046a63dfe62b9c9f148194ffdf0d12557c22deb271a5e6d2cb826c8b543d", func := "loop.example/g00238/laws.FnExactStore", spec := "fnExactStore", apart := false }
def FnExactStoreSaid : Prop := fnExactStoreRow.holds Try.pinned (OpenSpec.ofChange fnExactStoreSpec)

/-- ITS FALSE NEIGHBOUR: 'it returns false'. Refute it at one input. -/
def fnExactStoreWrong : ChangeSpec := { name := "fnExactStore", fn := fun _ => fun
  | [d1, d2, d3, d4, d5] => { results := [.lit (.bool false)], args := [d1, d2, d3, d4, d5] }
  | _ => none }
def FnExactStoreWrongFalsely : Prop := fnExactStoreRow.holds Try.pinned (OpenSpec.ofChange fnExactStoreWrong)

/-- 'laws.FnExactChanIn': WHATEVER THE INPUT: true; the input reads as it did. -/
def fnExactChanInSpec : ChangeSpec := { name := "fnExactChanIn", fn := fun _ => fun
  | [d1, d2, d3] => { results := [.lit (.bool true)], args := [d1, d2, d3] }
  | _ => none }
def fnExactChanInRow : OpenClaim := { program := "ythbcnakmnbilhaa", sum := "7656046a63dfe62b9c9f148194ffdf0d12557c22deb271a5e6d2cb826c8b543d", func := "loop.example/g00238/laws.FnExactChanIn", spec := "fnExactChanIn", apart := false }
def FnExactChanInSaid : Prop := fnExactChanInRow.holds Try.pinned (OpenSpec.ofChange fnExactChanInSpec)

/-- ITS FALSE NEIGHBOUR: 'it returns false'. Refute it at one input. -/
def fnExactChanInWrong : ChangeSpec := { name := "fnExactChanIn", fn := fun _ => fun
  | [d1, d2, d3] => { results := [.lit (.bool false)], args := [d1, d2, d3] }
  | _ => none }
def FnExactChanInWrongFalsely : Prop := fnExactChanInRow.holds Try.pinned (OpenSpec.ofChange fnExactChanInWrong)

/-- 'laws.FnExactSwap': WHATEVER THE INPUT: true; the input reads as it did. -/
def fnExactSwapSpec : ChangeSpec := { name := "fnExactSwap", fn := fun _ => fun
  | [d1, d2, d3, d4] => { results := [.lit (.bool true)], args := [d1, d2, d3, d4] }
  | _ => none }
def fnExactSwapRow : OpenClaim := { program := "ythbcnakmnbilhaa", sum := "7656046a63dfe62b9c9f148194ffdf0d12557c22deb271a5e6d2cb826c8b543d", func := "loop.example/g00238/laws.FnExactSwap", spec := "fnExactSwap", apart := false }
def FnExactSwapSaid : Prop := fnExactSwapRow.holds Try.pinned (OpenSpec.ofChange fnExactSwapSpec)

/-- ITS FALSE NEIGHBOUR: 'it returns false'. Refute it at one input. -/
def fnExactSwapWrong : ChangeSpec := { name := "fnExactSwap", fn := fun _ => fun
  | [d1, d2, d3, d4] => { results := [.lit (.bool false)], args := [d1, d2, d3, d4] }
  | _ => none }
def FnExactSwapWrongFalsely : Prop := fnExactSwapRow.holds Try.pinned (OpenSpec.ofChange fnExactSwapWrong)

/- THE SECOND FORM. 'bulk': how many values and letters a reading holds, each counted each time it is reached (what is shared counts as often as it is met; a slice's spare places count too). A statement '..UptoSaid' is the law's where the arguments, and the package variables that the reading takes, are together of bulk at most 1048576: NARROWER than '..Said'. Prove '..Said' where nothing that the law and all that it calls make is longer than what came in: it says more and counts as full. Else prove '..UptoSaid'. A law counts once. -/
mutual
def uptoBulk {H : Type} : DataW H → Nat
  | .lit (.string bytes) => bytes.length + 1
  | .lit _ => 1
  | .nil => 1
  | .ptr d => uptoBulk d + 1
  | .slice elems spare => uptoBulkAll elems + uptoBulkAll spare + 1
  | .agg parts => uptoBulkAll parts + 1
  | .iface _ d => uptoBulk d + 1
  | .map entries => uptoBulkEntries entries + 1
  | .held _ => 1
def uptoBulkAll {H : Type} : List (DataW H) → Nat
  | [] => 0
  | d :: r => uptoBulk d + uptoBulkAll r
def uptoBulkEntries {H : Type} : List (Lit × DataW H) → Nat
  | [] => 0
  | x :: r => uptoBulkEntry x + uptoBulkEntries r
def uptoBulkEntry {H : Type} : Lit × DataW H → Nat
  | (.string bytes, d) => bytes.length + uptoBulk d + 1
  | (_, d) => uptoBulk d + 1
 end
def uptoSmall : (H : Type) → List (DataW H) → Bool := fun _ ds => decide (uptoBulkAll ds ≤ 1048576)
def OpenSpec.upto (s : _root_.Go.ChangeSpec) : _root_.Go.OpenSpec := { _root_.Go.OpenSpec.ofChange s with cond := some uptoSmall }

/-- 'laws.FnExactMemoryNew', WHERE WHAT IT READS IS OF BULK AT MOST 1048576: true; the input reads as it did. -/
def fnExactMemoryNewUptoRow : OpenClaim := { program := "ythbcnakmnbilhaa", sum := "7656046a63dfe62b9c9f148194ffdf0d12557c22deb271a5e6d2cb826c8b543d", func := "loop.example/g00238/laws.FnExactMemoryNew", spec := "fnExactMemoryNew", apart := false, narrowed := true }
def FnExactMemoryNewUptoSaid : Prop := fnExactMemoryNewUptoRow.holds Try.pinned (OpenSpec.upto fnExactMemoryNewSpec)

/-- 'laws.FnMessage', WHERE WHAT IT READS IS OF BULK AT MOST 1048576: true; the input reads as it did. -/
def fnMessageUptoRow : OpenClaim := { program := "ythbcnakmnbilhaa", sum := "7656046a63dfe62b9c9f148194ffdf0d12557c22deb271a5e6d2cb826c8b543d", func := "loop.example/g00238/laws.FnMessage", spec := "fnMessage", apart := false, narrowed := true }
def FnMessageUptoSaid : Prop := fnMessageUptoRow.holds Try.pinned (OpenSpec.upto fnMessageSpec)

/-- 'laws.FnLoad', WHERE WHAT IT READS IS OF BULK AT MOST 1048576: true; the input reads as it did. -/
def fnLoadUptoRow : OpenClaim := { program := "ythbcnakmnbilhaa", sum := "7656046a63dfe62b9c9f148194ffdf0d12557c22deb271a5e6d2cb826c8b543d", func := "loop.example/g00238/laws.FnLoad", spec := "fnLoad", apart := false, narrowed := true }
def FnLoadUptoSaid : Prop := fnLoadUptoRow.holds Try.pinned (OpenSpec.upto fnLoadSpec)

/-- 'laws.FnExactLoad', WHERE WHAT IT READS IS OF BULK AT MOST 1048576: true; the input reads as it did. -/
def fnExactLoadUptoRow : OpenClaim := { program := "ythbcnakmnbilhaa", sum := "7656046a63dfe62b9c9f148194ffdf0d12557c22deb271a5e6d2cb826c8b543d", func := "loop.example/g00238/laws.FnExactLoad", spec := "fnExactLoad", apart := false, narrowed := true }
def FnExactLoadUptoSaid : Prop := fnExactLoadUptoRow.holds Try.pinned (OpenSpec.upto fnExactLoadSpec)

/-- 'laws.FnExactSaid', WHERE WHAT IT READS IS OF BULK AT MOST 1048576: true; the input reads as it did. -/
def fnExactSaidUptoRow : OpenClaim := { program := "ythbcnakmnbilhaa", sum := "7656046a63dfe62b9c9f148194ffdf0d12557c22deb271a5e6d2cb826c8b543d", func := "loop.example/g00238/laws.FnExactSaid", spec := "fnExactSaid", apart := false, narrowed := true }
def FnExactSaidUptoSaid : Prop := fnExactSaidUptoRow.holds Try.pinned (OpenSpec.upto fnExactSaidSpec)

/-- 'laws.FnStore', WHERE WHAT IT READS IS OF BULK AT MOST 1048576: true; the input reads as it did. -/
def fnStoreUptoRow : OpenClaim := { program := "ythbcnakmnbilhaa", sum := "7656046a63dfe62b9c9f148194ffdf0d12557c22deb271a5e6d2cb826c8b543d", func := "loop.example/g00238/laws.FnStore", spec := "fnStore", apart := false, narrowed := true }
def FnStoreUptoSaid : Prop := fnStoreUptoRow.holds Try.pinned (OpenSpec.upto fnStoreSpec)

/-- 'laws.FnSwap', WHERE WHAT IT READS IS OF BULK AT MOST 1048576: true; the input reads as it did. -/
def fnSwapUptoRow : OpenClaim := { program := "ythbcnakmnbilhaa", sum := "7656046a63dfe62b9c9f148194ffdf0d12557c22deb271a5e6d2cb826c8b543d", func := "loop.example/g00238/laws.FnSwap", spec := "fnSwap", apart := false, narrowed := true }
def FnSwapUptoSaid : Prop := fnSwapUptoRow.holds Try.pinned (OpenSpec.upto fnSwapSpec)

/-- 'laws.FnExactStore', WHERE WHAT IT READS IS OF BULK AT MOST 1048576: true; the input reads as it did. -/
def fnExactStoreUptoRow : OpenClaim := { program := "ythbcnakmnbilhaa", sum := "7656046a63dfe62b9c9f148194ffdf0d12557c22deb271a5e6d2cb826c8b543d", func := "loop.example/g00238/laws.FnExactStore", spec := "fnExactStore", apart := false, narrowed := true }
def FnExactStoreUptoSaid : Prop := fnExactStoreUptoRow.holds Try.pinned (OpenSpec.upto fnExactStoreSpec)

/-- 'laws.FnExactChanIn', WHERE WHAT IT READS IS OF BULK AT MOST 1048576: true; the input reads as it did. -/
def fnExactChanInUptoRow : OpenClaim := { program := "ythbcnakmnbilhaa", sum := "7656046a63dfe62b9c9f148194ffdf0d12557c22deb271a5e6d2cb826c8b543d", func := "loop.example/g00238/laws.FnExactChanIn", spec := "fnExactChanIn", apart := false, narrowed := true }
def FnExactChanInUptoSaid : Prop := fnExactChanInUptoRow.holds Try.pinned (OpenSpec.upto fnExactChanInSpec)

/-- 'laws.FnExactSwap', WHERE WHAT IT READS IS OF BULK AT MOST 1048576: true; the input reads as it did. -/
def fnExactSwapUptoRow : OpenClaim := { program := "ythbcnakmnbilhaa", sum := "7656046a63dfe62b9c9f148194ffdf0d12557c22deb271a5e6d2cb826c8b543d", func := "loop.example/g00238/laws.FnExactSwap", spec := "fnExactSwap", apart := false, narrowed := true }
def FnExactSwapUptoSaid : Prop := fnExactSwapUptoRow.holds Try.pinned (OpenSpec.upto fnExactSwapSpec)

end Rows
end Go.Proofs.Ythbcnakmnbilhaa
