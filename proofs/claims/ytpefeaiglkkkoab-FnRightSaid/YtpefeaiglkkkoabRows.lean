/-
  No cell of these rows narrows 'for every input' (looked for: loops, veiled, ifaces, maps, wideKeys, modest, calm, conditions, laid).
  DERIVED. THE GIVEN ROWS OF THIS SEAT. 12 by the template 'for every input the law returns true; each argument reads behind the call as it read before'; 0 by the template 'total and deterministic' (their statements: YtpefeaiglkkkoabTotals.lean).
  GIVEN WITH THE SEED: the statements are not yours to turn. If you find one false, say at which input.
  Laid BY PROGRAM, IN A SANDBOX (cutbox-rows.mjs): the forced cells as the released guide's own fill.sh prints them over the translation fb9d3a012a354222… (all of the seat's roots in one cut). By AI agents, Wed Nov 11 2026. No macro, syntax, notation, axiom, sorry.
-/
import Derived.Test.YtpefeaiglkkkoabChecked
import GoSem.Claim
import GoSem.ClaimJoined
import GoSem.ClaimMapViews
import Derived.JoinedTies
import Derived.KernelRfl
namespace Go.Proofs.Ytpefeaiglkkkoab
/- THE CELL 'sum', in the pinned program and in every row, IS THE sha256 OF THE DUMP (.gsa) THAT YtpefeaiglkkkoabProg.lean LOADS. Nothing in Lean hashes anything: it is a label: what it is worth is what the hold of that sum in a sandbox is worth. -/
noncomputable def Try.pinned : Pinned := { name := "ytpefeaiglkkkoab", sum := "fb9d3a012a354222010bd7a6980a825bde9e836f4634ae36149c6e58f5854c6c", checked := Try.checked }
namespace Rows
def none {H : Type} : Left H := { results := [], args := [] }

/-- 'laws.FnWords': WHATEVER THE INPUT: true; the input reads as it did. -/
def fnWordsSpec : ChangeSpec := { name := "fnWords", fn := fun _ => fun
  | [d] => { results := [.lit (.bool true)], args := [d] }
  | _ => none }
def fnWordsRow : OpenClaim := { program := "ytpefeaiglkkkoab", sum := "fb9d3a012a354222010bd7a6980a825bde9e836f4634ae36149c6e58f5854c6c", func := "loop.example/g00238/laws.FnWords", spec := "fnWords", apart := false }
def FnWordsSaid : Prop := fnWordsRow.holds Try.pinned (OpenSpec.ofChange fnWordsSpec)

/-- ITS FALSE NEIGHBOUR: 'it returns false'. Refute it at one input. -/
def fnWordsWrong : ChangeSpec := { name := "fnWords", fn := fun _ => fun
  | [d] => { results := [.lit (.bool false)], args := [d] }
  | _ => none }
def FnWordsWrongFalsely : Prop := fnWordsRow.holds Try.pinned (OpenSpec.ofChange fnWordsWrong)

/-- 'laws.FnExactLocked': WHATEVER THE INPUT: true; the input reads as it did. -/
def fnExactLockedSpec : ChangeSpec := { name := "fnExactLocked", fn := fun _ => fun
  | [d1, d2, d3] => { results := [.lit (.bool true)], args := [d1, d2, d3] }
  | _ => none }
def fnExactLockedRow : OpenClaim := { program := "ytpefeaiglkkkoab", sum := "fb9d3a012a354222010bd7a6980a825bde9e836f4634ae36149c6e58f5854c6c", func := "loop.example/g00238/laws.FnExactLocked", spec := "fnExactLocked", apart := false }
def FnExactLockedSaid : Prop := fnExactLockedRow.holds Try.pinned (OpenSpec.ofChange fnExactLockedSpec)

/-- ITS FALSE NEIGHBOUR: 'it returns false'. Refute it at one input. -/
def fnExactLockedWrong : ChangeSpec := { name := "fnExactLocked", fn := fun _ => fun
  | [d1, d2, d3] => { results := [.lit (.bool false)], args := [d1, d2, d3] }
  | _ => none }
def FnExactLockedWrongFalsely : Prop := fnExactLockedRow.holds Try.pinned (OpenSpec.ofChange fnExactLockedWrong)

/-- 'laws.FnExactProgOk': WHATEVER THE INPUT: true; the input reads as it did. -/
def fnExactProgOkSpec : ChangeSpec := { name := "fnExactProgOk", fn := fun _ => fun
  | [d] => { results := [.lit (.bool true)], args := [d] }
  | _ => none }
def fnExactProgOkRow : OpenClaim := { program := "ytpefeaiglkkkoab", sum := "fb9d3a012a354222010bd7a6980a825bde9e836f4634ae36149c6e58f5854c6c", func := "loop.example/g00238/laws.FnExactProgOk", spec := "fnExactProgOk", apart := false }
def FnExactProgOkSaid : Prop := fnExactProgOkRow.holds Try.pinned (OpenSpec.ofChange fnExactProgOkSpec)

/-- ITS FALSE NEIGHBOUR: 'it returns false'. Refute it at one input. -/
def fnExactProgOkWrong : ChangeSpec := { name := "fnExactProgOk", fn := fun _ => fun
  | [d] => { results := [.lit (.bool false)], args := [d] }
  | _ => none }
def FnExactProgOkWrongFalsely : Prop := fnExactProgOkRow.holds Try.pinned (OpenSpec.ofChange fnExactProgOkWrong)

/-- 'laws.FnLoad': WHATEVER THE INPUT: true; the input reads as it did. -/
def fnLoadSpec : ChangeSpec := { name := "fnLoad", fn := fun _ => fun
  | [d] => { results := [.lit (.bool true)], args := [d] }
  | _ => none }
def fnLoadRow : OpenClaim := { program := "ytpefeaiglkkkoab", sum := "fb9d3a012a354222010bd7a6980a825bde9e836f4634ae36149c6e58f5854c6c", func := "loop.example/g00238/laws.FnLoad", spec := "fnLoad", apart := false }
def FnLoadSaid : Prop := fnLoadRow.holds Try.pinned (OpenSpec.ofChange fnLoadSpec)

/-- ITS FALSE NEIGHBOUR: 'it returns false'. Refute it at one input. -/
def fnLoadWrong : ChangeSpec := { name := "fnLoad", fn := fun _ => fun
  | [d] => { results := [.lit (.bool false)], args := [d] }
  | _ => none }
def FnLoadWrongFalsely : Prop := fnLoadRow.holds Try.pinned (OpenSpec.ofChange fnLoadWrong)

/-- 'laws.FnRight': WHATEVER THE INPUT: true; the input reads as it did. -/
def fnRightSpec : ChangeSpec := { name := "fnRight", fn := fun _ => fun
  | [d] => { results := [.lit (.bool true)], args := [d] }
  | _ => none }
def fnRightRow : OpenClaim := { program := "ytpefeaiglkkkoab", sum := "fb9d3a012a354222010bd7a6980a825bde9e836f4634ae36149c6e58f5854c6c", func := "loop.example/g00238/laws.FnRight", spec := "fnRight", apart := false }
def FnRightSaid : Prop := fnRightRow.holds Try.pinned (OpenSpec.ofChange fnRightSpec)

/-- ITS FALSE NEIGHBOUR: 'it returns false'. Refute it at one input. -/
def fnRightWrong : ChangeSpec := { name := "fnRight", fn := fun _ => fun
  | [d] => { results := [.lit (.bool false)], args := [d] }
  | _ => none }
def FnRightWrongFalsely : Prop := fnRightRow.holds Try.pinned (OpenSpec.ofChange fnRightWrong)

/-- 'laws.FnExactLoad': WHATEVER THE INPUT: true; the input reads as it did. -/
def fnExactLoadSpec : ChangeSpec := { name := "fnExactLoad", fn := fun _ => fun
  | [d1, d2, d3, d4, d5] => { results := [.lit (.bool true)], args := [d1, d2, d3, d4, d5] }
  | _ => none }
def fnExactLoadRow : OpenClaim := { program := "ytpefeaiglkkkoab", sum := "fb9d3a012a354222010bd7a6980a825bde9e836f4634ae36149c6e58f5854c6c", func := "loop.example/g00238/laws.FnExactLoad", spec := "fnExactLoad", apart := false }
def FnExactLoadSaid : Prop := fnExactLoadRow.holds Try.pinned (OpenSpec.ofChange fnExactLoadSpec)

/-- ITS FALSE NEIGHBOUR: 'it returns false'. Refute it at one input. -/
def fnExactLoadWrong : ChangeSpec := { name := "fnExactLoad", fn := fun _ => fun
  | [d1, d2, d3, d4, d5] => { results := [.lit (.bool false)], args := [d1, d2, d3, d4, d5] }
  | _ => none }
def FnExactLoadWrongFalsely : Prop := fnExactLoadRow.holds Try.pinned (OpenSpec.ofChange fnExactLoadWrong)

/-- 'laws.FnExactSaid': WHATEVER THE INPUT: true; the input reads as it did. -/
def fnExactSaidSpec : ChangeSpec := { name := "fnExactSaid", fn := fun _ => fun
  | [d1, d2] => { results := [.lit (.bool true)], args := [d1, d2] }
  | _ => none }
def fnExactSaidRow : OpenClaim := { program := "ytpefeaiglkkkoab", sum := "fb9d3a012a354222010bd7a6980a825bde9e836f4634ae36149c6e58f5854c6c", func := "loop.example/g00238/laws.FnExactSaid", spec := "fnExactSaid", apart := false }
def FnExactSaidSaid : Prop := fnExactSaidRow.holds Try.pinned (OpenSpec.ofChange fnExactSaidSpec)

/-- ITS FALSE NEIGHBOUR: 'it returns false'. Refute it at one input. -/
def fnExactSaidWrong : ChangeSpec := { name := "fnExactSaid", fn := fun _ => fun
  | [d1, d2] => { results := [.lit (.bool false)], args := [d1, d2] }
  | _ => none }
def FnExactSaidWrongFalsely : Prop := fnExactSaidRow.holds Try.pinned (OpenSpec.ofChange fnExactSaidWrong)

/-- 'laws.FnStore': WHATEVER THE INPUT: true; the input reads as it did. -/
def fnStoreSpec : ChangeSpec := { name := "fnStore", fn := fun _ => fun
  | [d] => { results := [.lit (.bool true)], args := [d] }
  | _ => none }
def fnStoreRow : OpenClaim := { program := "ytpefeaiglkkkoab", sum := "fb9d3a012a354222010bd7a6980a825bde9e836f4634ae36149c6e58f5854c6c", func := "loop.example/g00238/laws.FnStore", spec := "fnStore", apart := false }
def FnStoreSaid : Prop := fnStoreRow.holds Try.pinned (OpenSpec.ofChange fnStoreSpec)

/-- ITS FALSE NEIGHBOUR: 'it returns false'. Refute it at one input. -/
def fnStoreWrong : ChangeSpec := { name := "fnStore", fn := fun _ => fun
  | [d] => { results := [.lit (.bool false)], args := [d] }
  | _ => none }
def FnStoreWrongFalsely : Prop := fnStoreRow.holds Try.pinned (OpenSpec.ofChange fnStoreWrong)

/-- 'laws.FnSwap': WHATEVER THE INPUT: true; the input reads as it did. -/
def fnSwapSpec : ChangeSpec := { name := "fnSwap", fn := fun _ => fun
  | [d] => { results := [.lit (.bool true)], args := [d] }
  | _ => none }
def fnSwapRow : OpenClaim := { program := "ytpefeaiglkkkoab", sum := "fb9d3a012a354222010bd7a6980a825bde9e836f4634ae36149c6e58f5854c6c", func := "loop.example/g00238/laws.FnSwap", spec := "fnSwap", apart := false }
def FnSwapSaid : Prop := fnSwapRow.holds Try.pinned (OpenSpec.ofChange fnSwapSpec)

/-- ITS FALSE NEIGHBOUR: 'it returns false'. Refute it at one input. -/
def fnSwapWrong : ChangeSpec := { name := "fnSwap", fn := fun _ => fun
  | [d] => { results := [.lit (.bool false)], args := [d] }
  | _ => none }
def FnSwapWrongFalsely : Prop := fnSwapRow.holds Try.pinned (OpenSpec.ofChange fnSwapWrong)

/-- 'laws.FnExactStore': WHATEVER THE INPUT: true; the input reads as it did. -/
def fnExactStoreSpec : ChangeSpec := { name := "fnExactStore", fn := fun _ => fun
  | [d1, d2, d3, d4, d5] => { results := [.lit (.bool true)], args := [d1, d2, d3, d4, d5] }
  | _ => none }
def fnExactStoreRow : OpenClaim := { program := "ytpefeaiglkkkoab", sum := "fb9d3a012a354222010bd7a6980a825bde9e836f4634ae36149c6e58f5854c6c", func := "loop.example/g00238/laws.FnExactStore", spec := "fnExactStore", apart := false }
def FnExactStoreSaid : Prop := fnExactStoreRow.holds Try.pinned (OpenSpec.ofChange fnExactStoreSpec)

/-- ITS FALSE NEIGHBOUR: 'it returns false'. Refute it at one input. -/
def fnExactStoreWrong : ChangeSpec := { name := "fnExactStore", fn := fun _ => fun
  | [d1, d2, d3, d4, d5] => { results := [.lit (.bool false)], args := [d1, d2, d3, d4, d5] }
  | _ => none }
def FnExactStoreWrongFalsely : Prop := fnExactStoreRow.holds Try.pinned (OpenSpec.ofChange fnExactStoreWrong)

/-- 'laws.FnExactChanIn': WHATEVER THE INPUT: true; the input reads as it did. -/
def fnExactChanInSpec : ChangeSpec := { name := "fnExactChanIn", fn := fun _ => fun
  | [d1, d2, d3] => { results := [.lit (.bool true)], args := [d1, d2, d3] }
  | _ => none }
def fnExactChanInRow : OpenClaim := { program := "ytpefeaiglkkkoab", sum := "fb9d3a012a354222010bd7a6980a825bde9e836f4634ae36149c6e58f5854c6c", func := "loop.example/g00238/laws.FnExactChanIn", spec := "fnExactChanIn", apart := false }
def FnExactChanInSaid : Prop := fnExactChanInRow.holds Try.pinned (OpenSpec.ofChange fnExactChanInSpec)

/-- ITS FALSE NEIGHBOUR: 'it returns false'. Refute it at one input. -/
def fnExactChanInWrong : ChangeSpec := { name := "fnExactChanIn", fn := fun _ => fun
  | [d1, d2, d3] => { results := [.lit (.bool false)], args := [d1, d2, d3] }
  | _ => none }
def FnExactChanInWrongFalsely : Prop := fnExactChanInRow.holds Try.pinned (OpenSpec.ofChange fnExactChanInWrong)

/-- 'laws.FnExactSwap': WHATEVER THE INPUT: true; the input reads as it did. -/
def fnExactSwapSpec : ChangeSpec := { name := "fnExactSwap", fn := fun _ => fun
  | [d1, d2, d3, d4] => { results := [.lit (.bool true)], args := [d1, d2, d3, d4] }
  | _ => none }
def fnExactSwapRow : OpenClaim := { program := "ytpefeaiglkkkoab", sum := "fb9d3a012a354222010bd7a6980a825bde9e836f4634ae36149c6e58f5854c6c", func := "loop.example/g00238/laws.FnExactSwap", spec := "fnExactSwap", apart := false }
def FnExactSwapSaid : Prop := fnExactSwapRow.holds Try.pinned (OpenSpec.ofChange fnExactSwapSpec)

/-- ITS FALSE NEIGHBOUR: 'it returns false'. Refute it at one input. -/
def fnExactSwapWrong : ChangeSpec := { name := "fnExactSwap", fn := fun _ => fun
  | [d1, d2, d3, d4] => { results := [.lit (.bool false)], args := [d1, d2, d3, d4] }
  | _ => none }
def FnExactSwapWrongFalsely : Prop := fnExactSwapRow.holds Try.pinned (OpenSpec.ofChange fnExactSwapWrong)

/- THE SECOND FORM. 'bulk': how many values and letters a reading holds, each counted each time it is reached (what is shared counts as often as it is met; a slice's spare places count too). A statement '..UptoSaid' is the law's where the arguments, and the package variables that the reading takes, are together of bulk at most 1048576: NARROWER than '..Said'. Prove '..Said' where nothing that the law and all that it calls make is longer than what came in: it says more and counts as full. Else prove '..UptoSaid'. A law counts once. -/
mutual
def uptoBulk {H : Type} : DataW H → Nat
  | .lit (.string bytes) => bytes.length + 1
  | .lit _ => 1
  | .nil => 1
  | .ptr d => uptoBulk d + 1
  | .slice elems spare => uptoBulkAll elems + uptoBulkAll spare + 1
  | .agg parts => uptoBulkAll parts + 1
  | .iface _ d => uptoBulk d + 1
  | .map entries => uptoBulkEntries entries + 1
  | .held _ => 1
def uptoBulkAll {H : Type} : List (DataW H) → Nat
  | [] => 0
  | d :: r => uptoBulk d + uptoBulkAll r
def uptoBulkEntries {H : Type} : List (Lit × DataW H) → Nat
  | [] => 0
  | x :: r => uptoBulkEntry x + uptoBulkEntries r
def uptoBulkEntry {H : Type} : Lit × DataW H → Nat
  | (.string bytes, d) => bytes.length + uptoBulk d + 1
  | (_, d) => uptoBulk d + 1
 end
def uptoSmall : (H : Type) → List (DataW H) → Bool := fun _ ds => decide (uptoBulkAll ds ≤ 1048576)
def OpenSpec.upto (s : _root_.Go.ChangeSpec) : _root_.Go.OpenSpec := { _root_.Go.OpenSpec.ofChange s with cond := some uptoSmall }

/-- 'laws.FnWords', WHERE WHAT IT READS IS OF BULK AT MOST 1048576: true; the input reads as it did. -/
def fnWordsUptoRow : OpenClaim := { program := "ytpefeaiglkkkoab", sum := "fb9d3a012a354222010bd7a6980a825bde9e836f4634ae36149c6e58f5854c6c", func := "loop.example/g00238/laws.FnWords", spec := "fnWords", apart := false, narrowed := true }
def FnWordsUptoSaid : Prop := fnWordsUptoRow.holds Try.pinned (OpenSpec.upto fnWordsSpec)

/-- 'laws.FnExactLocked', WHERE WHAT IT READS IS OF BULK AT MOST 1048576: true; the input reads as it did. -/
def fnExactLockedUptoRow : OpenClaim := { program := "ytpefeaiglkkkoab", sum := "fb9d3a012a354222010bd7a6980a825bde9e836f4634ae36149c6e58f5854c6c", func := "loop.example/g00238/laws.FnExactLocked", spec := "fnExactLocked", apart := false, narrowed := true }
def FnExactLockedUptoSaid : Prop := fnExactLockedUptoRow.holds Try.pinned (OpenSpec.upto fnExactLockedSpec)

/-- 'laws.FnExactProgOk', WHERE WHAT IT READS IS OF BULK AT MOST 1048576: true; the input reads as it did. -/
def fnExactProgOkUptoRow : OpenClaim := { program := "ytpefeaiglkkkoab", sum := "fb9d3a012a354222010bd7a6980a825bde9e836f4634ae36149c6e58f5854c6c", func := "loop.example/g00238/laws.FnExactProgOk", spec := "fnExactProgOk", apart := false, narrowed := true }
def FnExactProgOkUptoSaid : Prop := fnExactProgOkUptoRow.holds Try.pinned (OpenSpec.upto fnExactProgOkSpec)

/-- 'laws.FnLoad', WHERE WHAT IT READS IS OF BULK AT MOST 1048576: true; the input reads as it did. -/
def fnLoadUptoRow : OpenClaim := { program := "ytpefeaiglkkkoab", sum := "fb9d3a012a354222010bd7a6980a825bde9e836f4634ae36149c6e58f5854c6c", func := "loop.example/g00238/laws.FnLoad", spec := "fnLoad", apart := false, narrowed := true }
def FnLoadUptoSaid : Prop := fnLoadUptoRow.holds Try.pinned (OpenSpec.upto fnLoadSpec)

/-- 'laws.FnRight', WHERE WHAT IT READS IS OF BULK AT MOST 1048576: true; the input reads as it did. -/
def fnRightUptoRow : OpenClaim := { program := "ytpefeaiglkkkoab", sum := "fb9d3a012a354222010bd7a6980a825bde9e836f4634ae36149c6e58f5854c6c", func := "loop.example/g00238/laws.FnRight", spec := "fnRight", apart := false, narrowed := true }
def FnRightUptoSaid : Prop := fnRightUptoRow.holds Try.pinned (OpenSpec.upto fnRightSpec)

/-- 'laws.FnExactLoad', WHERE WHAT IT READS IS OF BULK AT MOST 1048576: true; the input reads as it did. -/
def fnExactLoadUptoRow : OpenClaim := { program := "ytpefeaiglkkkoab", sum := "fb9d3a012a354222010bd7a6980a825bde9e836f4634ae36149c6e58f5854c6c", func := "loop.example/g00238/laws.FnExactLoad", spec := "fnExactLoad", apart := false, narrowed := true }
def FnExactLoadUptoSaid : Prop := fnExactLoadUptoRow.holds Try.pinned (OpenSpec.upto fnExactLoadSpec)

/-- 'laws.FnExactSaid', WHERE WHAT IT READS IS OF BULK AT MOST 1048576: true; the input reads as it did. -/
def fnExactSaidUptoRow : OpenClaim := { program := "ytpefeaiglkkkoab", sum := "fb9d3a012a354222010bd7a6980a825bde9e836f4634ae36149c6e58f5854c6c", func := "loop.example/g00238/laws.FnExactSaid", spec := "fnExactSaid", apart := false, narrowed := true }
def FnExactSaidUptoSaid : Prop := fnExactSaidUptoRow.holds Try.pinned (OpenSpec.upto fnExactSaidSpec)

/-- 'laws.FnStore', WHERE WHAT IT READS IS OF BULK AT MOST 1048576: true; the input reads as it did. -/
def fnStoreUptoRow : OpenClaim := { program := "ytpefeaiglkkkoab", sum := "fb9d3a012a354222010bd7a6980a825bde9e836f4634ae36149c6e58f5854c6c", func := "loop.example/g00238/laws.FnStore", spec := "fnStore", apart := false, narrowed := true }
def FnStoreUptoSaid : Prop := fnStoreUptoRow.holds Try.pinned (OpenSpec.upto fnStoreSpec)

/-- 'laws.FnSwap', WHERE WHAT IT READS IS OF BULK AT MOST 1048576: true; the input reads as it did. -/
def fnSwapUptoRow : OpenClaim := { program := "ytpefeaiglkkkoab", sum := "fb9d3a012a354222010bd7a6980a825bde9e836f4634ae36149c6e58f5854c6c", func := "loop.example/g00238/laws.FnSwap", spec := "fnSwap", apart := false, narrowed := true }
def FnSwapUptoSaid : Prop := fnSwapUptoRow.holds Try.pinned (OpenSpec.upto fnSwapSpec)

/-- 'laws.FnExactStore', WHERE WHAT IT READS IS OF BULK AT MOST 1048576: true; the input reads as it did. -/
def fnExactStoreUptoRow : OpenClaim := { program := "ytpefeaiglkkkoab", sum := "fb9d3a012a354222010bd7a6980a825bde9e836f4634ae36149c6e58f5854c6c", func := "loop.example/g00238/laws.FnExactStore", spec := "fnExactStore", apart := false, narrowed := true }
def FnExactStoreUptoSaid : Prop := fnExactStoreUptoRow.holds Try.pinned (OpenSpec.upto fnExactStoreSpec)

/-- 'laws.FnExactChanIn', WHERE WHAT IT READS IS OF BULK AT MOST 1048576: true; the input reads as it did. -/
def fnExactChanInUptoRow : OpenClaim := { program := "ytpefeaiglkkkoab", sum := "fb9d3a012a354222010bd7a6980a825bde9e836f4634ae36149c6e58f5854c6c", func := "loop.example/g00238/laws.FnExactChanIn", spec := "fnExactChanIn", apart := false, narrowed := true }
def FnExactChanInUptoSaid : Prop := fnExactChanInUptoRow.holds Try.pinned (OpenSpec.upto fnExactChanInSpec)

/-- 'laws.FnExactSwap', WHERE WHAT IT READS IS OF BULK AT MOST 1048576: true; the input reads as it did. -/
def fnExactSwapUptoRow : OpenClaim := { program := "ytpefeaiglkkkoab", sum := "fb9d3a012a354222010bd7a6980a825bde9e836f4634ae36149c6e58f5854c6c", func := "loop.example/g00238/laws.FnExactSwap", spec := "fnExactSwap", apart := false, narrowed := true }
def FnExactSwapUptoSaid : Prop := fnExactSwapUptoRow.holds Try.pinned (OpenSpec.upto fnExactSwapSpec)

end Rows
end Go.Proofs.Ytpefeaiglkkkoab
