/-
  No cell of these rows narrows 'for every input' (looked for: loops, veiled, ifaces, maps, wideKeys, modest, calm, conditions, laid).
  DERIVED. THE GIVEN ROWS OF THIS SEAT. 5 by the template 'for every input the law returns true; each argument reads behind the call as it read before'; 0 by the template 'total and deterministic' (their statements: YtbonbflbgopjlaaTotals.lean).
  GIVEN WITH THE SEED: the statements are not yours to turn. If you find one false, say at which input.
  Laid BY PROGRAM, IN A SANDBOX (cutbox-rows.mjs): the forced cells as the released guide's own fill.sh prints them over the translation 05490f6924b8a086… (all of the seat's roots in one cut). By AI agents, Wed Nov 11 2026. No macro, syntax, notation, axiom, sorry.
-/
import Derived.Test.YtbonbflbgopjlaaChecked
import GoSem.Claim
import GoSem.ClaimJoined
import GoSem.ClaimMapViews
import Derived.JoinedTies
import Derived.KernelRfl
namespace Go.Proofs.Ytbonbflbgopjlaa
/- THE CELL 'sum', in the pinned program and in every row, IS THE sha256 OF THE DUMP (.gsa) THAT YtbonbflbgopjlaaProg.lean LOADS. Nothing in Lean hashes anything: it is a label: what it is worth is what the hold of that sum in a sandbox is worth. -/
noncomputable def Try.pinned : Pinned := { name := "ytbonbflbgopjlaa", sum := "05490f6924b8a086e9ff5ba83c5c5b0c0aa3c20a3c2e0853444075e3253e00ab", checked := Try.checked }
namespace Rows
def none {H : Type} : Left H := { results := [], args := [] }

/-- 'laws.FnClosed': WHATEVER THE INPUT: true; the input reads as it did. -/
def fnClosedSpec : ChangeSpec := { name := "fnClosed", fn := fun _ => fun
  | [d] => { results := [.lit (.bool true)], args := [d] }
  | _ => none }
def fnClosedRow : OpenClaim := { program := "ytbonbflbgopjlaa", sum := "05490f6924b8a086e9ff5ba83c5c5b0c0aa3c20a3c2e0853444075e3253e00ab", func := "loop.example/g00238/laws.FnClosed", spec := "fnClosed", apart := false }
def FnClosedSaid : Prop := fnClosedRow.holds Try.pinned (OpenSpec.ofChange fnClosedSpec)

/-- ITS FALSE NEIGHBOUR: 'it returns false'. Refute it at one input. -/
def fnClosedWrong : ChangeSpec := { name := "fnClosed", fn := fun _ => fun
  | [d] => { results := [.lit (.bool false)], args := [d] }
  | _ => none }
def FnClosedWrongFalsely : Prop := fnClosedRow.holds Try.pinned (OpenSpec.ofChange fnClosedWrong)

/-- 'laws.FnExactChanTake': WHATEVER THE INPUT: true; the input reads as it did. -/
def fnExactChanTakeSpec : ChangeSpec := { name := "fnExactChanTake", fn := fun _ => fun
  | [d] => { results := [.lit (.bool true)], args := [d] }
  | _ => none }
def fnExactChanTakeRow : OpenClaim := { program := "ytbonbflbgopjlaa", sum := "05490f6924b8a086e9ff5ba83c5c5b0c0aa3c20a3c2e0853444075e3253e00ab", func := "loop.example/g00238/laws.FnExactChanTake", spec := "fnExactChanTake", apart := false }
def FnExactChanTakeSaid : Prop := fnExactChanTakeRow.holds Try.pinned (OpenSpec.ofChange fnExactChanTakeSpec)

/-- ITS FALSE NEIGHBOUR: 'it returns false'. Refute it at one input. -/
def fnExactChanTakeWrong : ChangeSpec := { name := "fnExactChanTake", fn := fun _ => fun
  | [d] => { results := [.lit (.bool false)], args := [d] }
  | _ => none }
def FnExactChanTakeWrongFalsely : Prop := fnExactChanTakeRow.holds Try.pinned (OpenSpec.ofChange fnExactChanTakeWrong)

/-- 'laws.FnExactLoopsAt': WHATEVER THE INPUT: true; the input reads as it did. -/
def fnExactLoopsAtSpec : ChangeSpec := { name := "fnExactLoopsAt", fn := fun _ => fun
  | [d1, d2] => { results := [.lit (.bool true)], args := [d1, d2] }
  | _ => none }
def fnExactLoopsAtRow : OpenClaim := { program := "ytbonbflbgopjlaa", sum := "05490f6924b8a086e9ff5ba83c5c5b0c0aa3c20a3c2e0853444075e3253e00ab", func := "loop.example/g00238/laws.FnExactLoopsAt", spec := "fnExactLoopsAt", recurses := true, apart := false }
def FnExactLoopsAtSaid : Prop := fnExactLoopsAtRow.holds Try.pinned (OpenSpec.ofChange fnExactLoopsAtSpec)

/-- ITS FALSE NEIGHBOUR: 'it returns false'. Refute it at one input. -/
def fnExactLoopsAtWrong : ChangeSpec := { name := "fnExactLoopsAt", fn := fun _ => fun
  | [d1, d2] => { results := [.lit (.bool false)], args := [d1, d2] }
  | _ => none }
def FnExactLoopsAtWrongFalsely : Prop := fnExactLoopsAtRow.holds Try.pinned (OpenSpec.ofChange fnExactLoopsAtWrong)

/-- 'laws.FnExactNextOf': WHATEVER THE INPUT: true; the input reads as it did. -/
def fnExactNextOfSpec : ChangeSpec := { name := "fnExactNextOf", fn := fun _ => fun
  | [d1, d2] => { results := [.lit (.bool true)], args := [d1, d2] }
  | _ => none }
def fnExactNextOfRow : OpenClaim := { program := "ytbonbflbgopjlaa", sum := "05490f6924b8a086e9ff5ba83c5c5b0c0aa3c20a3c2e0853444075e3253e00ab", func := "loop.example/g00238/laws.FnExactNextOf", spec := "fnExactNextOf", recurses := true, apart := false }
def FnExactNextOfSaid : Prop := fnExactNextOfRow.holds Try.pinned (OpenSpec.ofChange fnExactNextOfSpec)

/-- ITS FALSE NEIGHBOUR: 'it returns false'. Refute it at one input. -/
def fnExactNextOfWrong : ChangeSpec := { name := "fnExactNextOf", fn := fun _ => fun
  | [d1, d2] => { results := [.lit (.bool false)], args := [d1, d2] }
  | _ => none }
def FnExactNextOfWrongFalsely : Prop := fnExactNextOfRow.holds Try.pinned (OpenSpec.ofChange fnExactNextOfWrong)

/-- 'laws.FnExactUnreached': WHATEVER THE INPUT: true; the input reads as it did. -/
def fnExactUnreachedSpec : ChangeSpec := { name := "fnExactUnreached", fn := fun _ => fun
  | [d] => { results := [.lit (.bool true)], args := [d] }
  | _ => none }
def fnExactUnreachedRow : OpenClaim := { program := "ytbonbflbgopjlaa", sum := "05490f6924b8a086e9ff5ba83c5c5b0c0aa3c20a3c2e0853444075e3253e00ab", func := "loop.example/g00238/laws.FnExactUnreached", spec := "fnExactUnreached", recurses := true, apart := false }
def FnExactUnreachedSaid : Prop := fnExactUnreachedRow.holds Try.pinned (OpenSpec.ofChange fnExactUnreachedSpec)

/-- ITS FALSE NEIGHBOUR: 'it returns false'. Refute it at one input. -/
def fnExactUnreachedWrong : ChangeSpec := { name := "fnExactUnreached", fn := fun _ => fun
  | [d] => { results := [.lit (.bool false)], args := [d] }
  | _ => none }
def FnExactUnreachedWrongFalsely : Prop := fnExactUnreachedRow.holds Try.pinned (OpenSpec.ofChange fnExactUnreachedWrong)

/- THE SECOND FORM. 'bulk': how many values and letters a reading holds, each counted each time it is reached (what is shared counts as often as it is met; a slice's spare places count too). A statement '..UptoSaid' is the law's where the arguments, and the package variables that the reading takes, are together of bulk at most 1048576: NARROWER than '..Said'. Prove '..Said' where nothing that the law and all that it calls make is longer than what came in: it says more and counts as full. Else prove '..UptoSaid'. A law counts once. -/
mutual
def uptoBulk {H : Type} : DataW H → Nat
  | .lit (.string bytes) => bytes.length + 1
  | .lit _ => 1
  | .nil => 1
  | .ptr d => uptoBulk d + 1
  | .slice elems spare => uptoBulkAll elems + uptoBulkAll spare + 1
  | .agg parts => uptoBulkAll parts + 1
  | .iface _ d => uptoBulk d + 1
  | .map entries => uptoBulkEntries entries + 1
  | .held _ => 1
def uptoBulkAll {H : Type} : List (DataW H) → Nat
  | [] => 0
  | d :: r => uptoBulk d + uptoBulkAll r
def uptoBulkEntries {H : Type} : List (Lit × DataW H) → Nat
  | [] => 0
  | x :: r => uptoBulkEntry x + uptoBulkEntries r
def uptoBulkEntry {H : Type} : Lit × DataW H → Nat
  | (.string bytes, d) => bytes.length + uptoBulk d + 1
  | (_, d) => uptoBulk d + 1
 end
def uptoSmall : (H : Type) → List (DataW H) → Bool := fun _ ds => decide (uptoBulkAll ds ≤ 1048576)
def OpenSpec.upto (s : _root_.Go.ChangeSpec) : _root_.Go.OpenSpec := { _root_.Go.OpenSpec.ofChange s with cond := some uptoSmall }

/-- 'laws.FnClosed', WHERE WHAT IT READS IS OF BULK AT MOST 1048576: true; the input reads as it did. -/
def fnClosedUptoRow : OpenClaim := { program := "ytbonbflbgopjlaa", sum := "05490f6924b8a086e9ff5ba83c5c5b0c0aa3c20a3c2e0853444075e3253e00ab", func := "loop.example/g00238/laws.FnClosed", spec := "fnClosed", apart := false, narrowed := true }
def FnClosedUptoSaid : Prop := fnClosedUptoRow.holds Try.pinned (OpenSpec.upto fnClosedSpec)

/-- 'laws.FnExactChanTake', WHERE WHAT IT READS IS OF BULK AT MOST 1048576: true; the input reads as it did. -/
def fnExactChanTakeUptoRow : OpenClaim := { program := "ytbonbflbgopjlaa", sum := "05490f6924b8a086e9ff5ba83c5c5b0c0aa3c20a3c2e0853444075e3253e00ab", func := "loop.example/g00238/laws.FnExactChanTake", spec := "fnExactChanTake", apart := false, narrowed := true }
def FnExactChanTakeUptoSaid : Prop := fnExactChanTakeUptoRow.holds Try.pinned (OpenSpec.upto fnExactChanTakeSpec)

/-- 'laws.FnExactLoopsAt', WHERE WHAT IT READS IS OF BULK AT MOST 1048576: true; the input reads as it did. -/
def fnExactLoopsAtUptoRow : OpenClaim := { program := "ytbonbflbgopjlaa", sum := "05490f6924b8a086e9ff5ba83c5c5b0c0aa3c20a3c2e0853444075e3253e00ab", func := "loop.example/g00238/laws.FnExactLoopsAt", spec := "fnExactLoopsAt", recurses := true, apart := false, narrowed := true }
def FnExactLoopsAtUptoSaid : Prop := fnExactLoopsAtUptoRow.holds Try.pinned (OpenSpec.upto fnExactLoopsAtSpec)

/-- 'laws.FnExactNextOf', WHERE WHAT IT READS IS OF BULK AT MOST 1048576: true; the input reads as it did. -/
def fnExactNextOfUptoRow : OpenClaim := { program := "ytbonbflbgopjlaa", sum := "05490f6924b8a086e9ff5ba83c5c5b0c0aa3c20a3c2e0853444075e3253e00ab", func := "loop.example/g00238/laws.FnExactNextOf", spec := "fnExactNextOf", recurses := true, apart := false, narrowed := true }
def FnExactNextOfUptoSaid : Prop := fnExactNextOfUptoRow.holds Try.pinned (OpenSpec.upto fnExactNextOfSpec)

/-- 'laws.FnExactUnreached', WHERE WHAT IT READS IS OF BULK AT MOST 1048576: true; the input reads as it did. -/
def fnExactUnreachedUptoRow : OpenClaim := { program := "ytbonbflbgopjlaa", sum := "05490f6924b8a086e9ff5ba83c5c5b0c0aa3c20a3c2e0853444075e3253e00ab", func := "loop.example/g00238/laws.FnExactUnreached", spec := "fnExactUnreached", recurses := true, apart := false, narrowed := true }
def FnExactUnreachedUptoSaid : Prop := fnExactUnreachedUptoRow.holds Try.pinned (OpenSpec.upto fnExactUnreachedSpec)

end Rows
end Go.Proofs.Ytbonbflbgopjlaa
