/-
  No cell of these rows narrows 'for every input' (looked for: loops, veiled, ifaces, maps, wideKeys, modest, calm, conditions, laid).
  DERIVED. THE GIVEN ROWS OF THIS SEAT. 12 by the template 'for every input the law returns true; each argument reads behind the call as it read before'; 0 by the template 'total and deterministic' (their statements: YtdognghekkpmoaaTotals.lean).
  GIVEN WITH THE SEED: the statements are not yours to turn. If you find one false, say at which input.
  Laid BY PROGRAM, IN A SANDBOX (cutbox-rows.mjs): the forced cells as the released guide's own fill.sh prints them over the translation b61ae09aafd71e0f… (all of the seat's roots in one cut). By AI agents, Wed Nov 11 2026. No macro, syntax, notation, axiom, sorry.
-/
import Derived.Test.YtdognghekkpmoaaChecked
import GoSem.Claim
import GoSem.ClaimJoined
import GoSem.ClaimMapViews
import Derived.JoinedTies
import Derived.KernelRfl
namespace Go.Proofs.Ytdognghekkpmoaa
/- THE CELL 'sum', in the pinned program and in every row, IS THE sha256 OF THE DUMP (.gsa) THAT YtdognghekkpmoaaProg.lean LOADS. Nothing in Lean hashes anything: it is a label: what it is worth is what the hold of that sum in a sandbox is worth. -/
noncomputable def Try.pinned : Pinned := { name := "ytdognghekkpmoaa", sum := "b61ae09aafd71e0f5b1f109c3c7f72a0787621c17567eda9ad5871ff68deb2d3", checked := Try.checked }
namespace Rows
def none {H : Type} : Left H := { results := [], args := [] }

/-- 'laws.FnExactConstants': WHATEVER THE INPUT: true; the input reads as it did. -/
def fnExactConstantsSpec : ChangeSpec := { name := "fnExactConstants", fn := fun _ => fun
  | [] => { results := [.lit (.bool true)], args := [] }
  | _ => none }
def fnExactConstantsRow : OpenClaim := { program := "ytdognghekkpmoaa", sum := "b61ae09aafd71e0f5b1f109c3c7f72a0787621c17567eda9ad5871ff68deb2d3", func := "loop.example/g00238/laws.FnExactConstants", spec := "fnExactConstants", apart := false }
def FnExactConstantsSaid : Prop := fnExactConstantsRow.holds Try.pinned (OpenSpec.ofChange fnExactConstantsSpec)

/-- ITS FALSE NEIGHBOUR: 'it returns false'. Refute it at one input. -/
def fnExactConstantsWrong : ChangeSpec := { name := "fnExactConstants", fn := fun _ => fun
  | [] => { results := [.lit (.bool false)], args := [] }
  | _ => none }
def FnExactConstantsWrongFalsely : Prop := fnExactConstantsRow.holds Try.pinned (OpenSpec.ofChange fnExactConstantsWrong)

/-- 'laws.FnExactKnows': WHATEVER THE INPUT: true; the input reads as it did. -/
def fnExactKnowsSpec : ChangeSpec := { name := "fnExactKnows", fn := fun _ => fun
  | [d1, d2] => { results := [.lit (.bool true)], args := [d1, d2] }
  | _ => none }
def fnExactKnowsRow : OpenClaim := { program := "ytdognghekkpmoaa", sum := "b61ae09aafd71e0f5b1f109c3c7f72a0787621c17567eda9ad5871ff68deb2d3", func := "loop.example/g00238/laws.FnExactKnows", spec := "fnExactKnows", apart := false }
def FnExactKnowsSaid : Prop := fnExactKnowsRow.holds Try.pinned (OpenSpec.ofChange fnExactKnowsSpec)

/-- ITS FALSE NEIGHBOUR: 'it returns false'. Refute it at one input. -/
def fnExactKnowsWrong : ChangeSpec := { name := "fnExactKnows", fn := fun _ => fun
  | [d1, d2] => { results := [.lit (.bool false)], args := [d1, d2] }
  | _ => none }
def FnExactKnowsWrongFalsely : Prop := fnExactKnowsRow.holds Try.pinned (OpenSpec.ofChange fnExactKnowsWrong)

/-- 'laws.FnExactReads': WHATEVER THE INPUT: true; the input reads as it did. -/
def fnExactReadsSpec : ChangeSpec := { name := "fnExactReads", fn := fun _ => fun
  | [d] => { results := [.lit (.bool true)], args := [d] }
  | _ => none }
def fnExactReadsRow : OpenClaim := { program := "ytdognghekkpmoaa", sum := "b61ae09aafd71e0f5b1f109c3c7f72a0787621c17567eda9ad5871ff68deb2d3", func := "loop.example/g00238/laws.FnExactReads", spec := "fnExactReads", apart := false }
def FnExactReadsSaid : Prop := fnExactReadsRow.holds Try.pinned (OpenSpec.ofChange fnExactReadsSpec)

/-- ITS FALSE NEIGHBOUR: 'it returns false'. Refute it at one input. -/
def fnExactReadsWrong : ChangeSpec := { name := "fnExactReads", fn := fun _ => fun
  | [d] => { results := [.lit (.bool false)], args := [d] }
  | _ => none }
def FnExactReadsWrongFalsely : Prop := fnExactReadsRow.holds Try.pinned (OpenSpec.ofChange fnExactReadsWrong)

/-- 'laws.FnExactSets': WHATEVER THE INPUT: true; the input reads as it did. -/
def fnExactSetsSpec : ChangeSpec := { name := "fnExactSets", fn := fun _ => fun
  | [d] => { results := [.lit (.bool true)], args := [d] }
  | _ => none }
def fnExactSetsRow : OpenClaim := { program := "ytdognghekkpmoaa", sum := "b61ae09aafd71e0f5b1f109c3c7f72a0787621c17567eda9ad5871ff68deb2d3", func := "loop.example/g00238/laws.FnExactSets", spec := "fnExactSets", apart := false }
def FnExactSetsSaid : Prop := fnExactSetsRow.holds Try.pinned (OpenSpec.ofChange fnExactSetsSpec)

/-- ITS FALSE NEIGHBOUR: 'it returns false'. Refute it at one input. -/
def fnExactSetsWrong : ChangeSpec := { name := "fnExactSets", fn := fun _ => fun
  | [d] => { results := [.lit (.bool false)], args := [d] }
  | _ => none }
def FnExactSetsWrongFalsely : Prop := fnExactSetsRow.holds Try.pinned (OpenSpec.ofChange fnExactSetsWrong)

/-- 'laws.FnExactJoin': WHATEVER THE INPUT: true; the input reads as it did. -/
def fnExactJoinSpec : ChangeSpec := { name := "fnExactJoin", fn := fun _ => fun
  | [d1, d2] => { results := [.lit (.bool true)], args := [d1, d2] }
  | _ => none }
def fnExactJoinRow : OpenClaim := { program := "ytdognghekkpmoaa", sum := "b61ae09aafd71e0f5b1f109c3c7f72a0787621c17567eda9ad5871ff68deb2d3", func := "loop.example/g00238/laws.FnExactJoin", spec := "fnExactJoin", apart := false }
def FnExactJoinSaid : Prop := fnExactJoinRow.holds Try.pinned (OpenSpec.ofChange fnExactJoinSpec)

/-- ITS FALSE NEIGHBOUR: 'it returns false'. Refute it at one input. -/
def fnExactJoinWrong : ChangeSpec := { name := "fnExactJoin", fn := fun _ => fun
  | [d1, d2] => { results := [.lit (.bool false)], args := [d1, d2] }
  | _ => none }
def FnExactJoinWrongFalsely : Prop := fnExactJoinRow.holds Try.pinned (OpenSpec.ofChange fnExactJoinWrong)

/-- 'laws.FnExactChanOk': WHATEVER THE INPUT: true; the input reads as it did. -/
def fnExactChanOkSpec : ChangeSpec := { name := "fnExactChanOk", fn := fun _ => fun
  | [d] => { results := [.lit (.bool true)], args := [d] }
  | _ => none }
def fnExactChanOkRow : OpenClaim := { program := "ytdognghekkpmoaa", sum := "b61ae09aafd71e0f5b1f109c3c7f72a0787621c17567eda9ad5871ff68deb2d3", func := "loop.example/g00238/laws.FnExactChanOk", spec := "fnExactChanOk", apart := false }
def FnExactChanOkSaid : Prop := fnExactChanOkRow.holds Try.pinned (OpenSpec.ofChange fnExactChanOkSpec)

/-- ITS FALSE NEIGHBOUR: 'it returns false'. Refute it at one input. -/
def fnExactChanOkWrong : ChangeSpec := { name := "fnExactChanOk", fn := fun _ => fun
  | [d] => { results := [.lit (.bool false)], args := [d] }
  | _ => none }
def FnExactChanOkWrongFalsely : Prop := fnExactChanOkRow.holds Try.pinned (OpenSpec.ofChange fnExactChanOkWrong)

/-- 'laws.FnExactBase': WHATEVER THE INPUT: true; the input reads as it did. -/
def fnExactBaseSpec : ChangeSpec := { name := "fnExactBase", fn := fun _ => fun
  | [d1, d2] => { results := [.lit (.bool true)], args := [d1, d2] }
  | _ => none }
def fnExactBaseRow : OpenClaim := { program := "ytdognghekkpmoaa", sum := "b61ae09aafd71e0f5b1f109c3c7f72a0787621c17567eda9ad5871ff68deb2d3", func := "loop.example/g00238/laws.FnExactBase", spec := "fnExactBase", apart := false }
def FnExactBaseSaid : Prop := fnExactBaseRow.holds Try.pinned (OpenSpec.ofChange fnExactBaseSpec)

/-- ITS FALSE NEIGHBOUR: 'it returns false'. Refute it at one input. -/
def fnExactBaseWrong : ChangeSpec := { name := "fnExactBase", fn := fun _ => fun
  | [d1, d2] => { results := [.lit (.bool false)], args := [d1, d2] }
  | _ => none }
def FnExactBaseWrongFalsely : Prop := fnExactBaseRow.holds Try.pinned (OpenSpec.ofChange fnExactBaseWrong)

/-- 'laws.FnExactStepOk': WHATEVER THE INPUT: true; the input reads as it did. -/
def fnExactStepOkSpec : ChangeSpec := { name := "fnExactStepOk", fn := fun _ => fun
  | [d1, d2] => { results := [.lit (.bool true)], args := [d1, d2] }
  | _ => none }
def fnExactStepOkRow : OpenClaim := { program := "ytdognghekkpmoaa", sum := "b61ae09aafd71e0f5b1f109c3c7f72a0787621c17567eda9ad5871ff68deb2d3", func := "loop.example/g00238/laws.FnExactStepOk", spec := "fnExactStepOk", apart := false }
def FnExactStepOkSaid : Prop := fnExactStepOkRow.holds Try.pinned (OpenSpec.ofChange fnExactStepOkSpec)

/-- ITS FALSE NEIGHBOUR: 'it returns false'. Refute it at one input. -/
def fnExactStepOkWrong : ChangeSpec := { name := "fnExactStepOk", fn := fun _ => fun
  | [d1, d2] => { results := [.lit (.bool false)], args := [d1, d2] }
  | _ => none }
def FnExactStepOkWrongFalsely : Prop := fnExactStepOkRow.holds Try.pinned (OpenSpec.ofChange fnExactStepOkWrong)

/-- 'laws.FnExactStepWord': WHATEVER THE INPUT: true; the input reads as it did. -/
def fnExactStepWordSpec : ChangeSpec := { name := "fnExactStepWord", fn := fun _ => fun
  | [d] => { results := [.lit (.bool true)], args := [d] }
  | _ => none }
def fnExactStepWordRow : OpenClaim := { program := "ytdognghekkpmoaa", sum := "b61ae09aafd71e0f5b1f109c3c7f72a0787621c17567eda9ad5871ff68deb2d3", func := "loop.example/g00238/laws.FnExactStepWord", spec := "fnExactStepWord", apart := false }
def FnExactStepWordSaid : Prop := fnExactStepWordRow.holds Try.pinned (OpenSpec.ofChange fnExactStepWordSpec)

/-- ITS FALSE NEIGHBOUR: 'it returns false'. Refute it at one input. -/
def fnExactStepWordWrong : ChangeSpec := { name := "fnExactStepWord", fn := fun _ => fun
  | [d] => { results := [.lit (.bool false)], args := [d] }
  | _ => none }
def FnExactStepWordWrongFalsely : Prop := fnExactStepWordRow.holds Try.pinned (OpenSpec.ofChange fnExactStepWordWrong)

/-- 'laws.FnExactChanClose': WHATEVER THE INPUT: true; the input reads as it did. -/
def fnExactChanCloseSpec : ChangeSpec := { name := "fnExactChanClose", fn := fun _ => fun
  | [d] => { results := [.lit (.bool true)], args := [d] }
  | _ => none }
def fnExactChanCloseRow : OpenClaim := { program := "ytdognghekkpmoaa", sum := "b61ae09aafd71e0f5b1f109c3c7f72a0787621c17567eda9ad5871ff68deb2d3", func := "loop.example/g00238/laws.FnExactChanClose", spec := "fnExactChanClose", apart := false }
def FnExactChanCloseSaid : Prop := fnExactChanCloseRow.holds Try.pinned (OpenSpec.ofChange fnExactChanCloseSpec)

/-- ITS FALSE NEIGHBOUR: 'it returns false'. Refute it at one input. -/
def fnExactChanCloseWrong : ChangeSpec := { name := "fnExactChanClose", fn := fun _ => fun
  | [d] => { results := [.lit (.bool false)], args := [d] }
  | _ => none }
def FnExactChanCloseWrongFalsely : Prop := fnExactChanCloseRow.holds Try.pinned (OpenSpec.ofChange fnExactChanCloseWrong)

/-- 'laws.FnExactChanSend': WHATEVER THE INPUT: true; the input reads as it did. -/
def fnExactChanSendSpec : ChangeSpec := { name := "fnExactChanSend", fn := fun _ => fun
  | [d1, d2] => { results := [.lit (.bool true)], args := [d1, d2] }
  | _ => none }
def fnExactChanSendRow : OpenClaim := { program := "ytdognghekkpmoaa", sum := "b61ae09aafd71e0f5b1f109c3c7f72a0787621c17567eda9ad5871ff68deb2d3", func := "loop.example/g00238/laws.FnExactChanSend", spec := "fnExactChanSend", apart := false }
def FnExactChanSendSaid : Prop := fnExactChanSendRow.holds Try.pinned (OpenSpec.ofChange fnExactChanSendSpec)

/-- ITS FALSE NEIGHBOUR: 'it returns false'. Refute it at one input. -/
def fnExactChanSendWrong : ChangeSpec := { name := "fnExactChanSend", fn := fun _ => fun
  | [d1, d2] => { results := [.lit (.bool false)], args := [d1, d2] }
  | _ => none }
def FnExactChanSendWrongFalsely : Prop := fnExactChanSendRow.holds Try.pinned (OpenSpec.ofChange fnExactChanSendWrong)

/-- 'laws.FnExactChanTake': WHATEVER THE INPUT: true; the input reads as it did. -/
def fnExactChanTakeSpec : ChangeSpec := { name := "fnExactChanTake", fn := fun _ => fun
  | [d] => { results := [.lit (.bool true)], args := [d] }
  | _ => none }
def fnExactChanTakeRow : OpenClaim := { program := "ytdognghekkpmoaa", sum := "b61ae09aafd71e0f5b1f109c3c7f72a0787621c17567eda9ad5871ff68deb2d3", func := "loop.example/g00238/laws.FnExactChanTake", spec := "fnExactChanTake", apart := false }
def FnExactChanTakeSaid : Prop := fnExactChanTakeRow.holds Try.pinned (OpenSpec.ofChange fnExactChanTakeSpec)

/-- ITS FALSE NEIGHBOUR: 'it returns false'. Refute it at one input. -/
def fnExactChanTakeWrong : ChangeSpec := { name := "fnExactChanTake", fn := fun _ => fun
  | [d] => { results := [.lit (.bool false)], args := [d] }
  | _ => none }
def FnExactChanTakeWrongFalsely : Prop := fnExactChanTakeRow.holds Try.pinned (OpenSpec.ofChange fnExactChanTakeWrong)

/- THE SECOND FORM. 'bulk': how many values and letters a reading holds, each counted each time it is reached (what is shared counts as often as it is met; a slice's spare places count too). A statement '..UptoSaid' is the law's where the arguments, and the package variables that the reading takes, are together of bulk at most 1048576: NARROWER than '..Said'. Prove '..Said' where nothing that the law and all that it calls make is longer than what came in: it says more and counts as full. Else prove '..UptoSaid'. A law counts once. -/
mutual
def uptoBulk {H : Type} : DataW H → Nat
  | .lit (.string bytes) => bytes.length + 1
  | .lit _ => 1
  | .nil => 1
  | .ptr d => uptoBulk d + 1
  | .slice elems spare => uptoBulkAll elems + uptoBulkAll spare + 1
  | .agg parts => uptoBulkAll parts + 1
  | .iface _ d => uptoBulk d + 1
  | .map entries => uptoBulkEntries entries + 1
  | .held _ => 1
def uptoBulkAll {H : Type} : List (DataW H) → Nat
  | [] => 0
  | d :: r => uptoBulk d + uptoBulkAll r
def uptoBulkEntries {H : Type} : List (Lit × DataW H) → Nat
  | [] => 0
  | x :: r => uptoBulkEntry x + uptoBulkEntries r
def uptoBulkEntry {H : Type} : Lit × DataW H → Nat
  | (.string bytes, d) => bytes.length + uptoBulk d + 1
  | (_, d) => uptoBulk d + 1
 end
def uptoSmall : (H : Type) → List (DataW H) → Bool := fun _ ds => decide (uptoBulkAll ds ≤ 1048576)
def OpenSpec.upto (s : _root_.Go.ChangeSpec) : _root_.Go.OpenSpec := { _root_.Go.OpenSpec.ofChange s with cond := some uptoSmall }

/-- 'laws.FnExactConstants', WHERE WHAT IT READS IS OF BULK AT MOST 1048576: true; the input reads as it did. -/
def fnExactConstantsUptoRow : OpenClaim := { program := "ytdognghekkpmoaa", sum := "b61ae09aafd71e0f5b1f109c3c7f72a0787621c17567eda9ad5871ff68deb2d3", func := "loop.example/g00238/laws.FnExactConstants", spec := "fnExactConstants", apart := false, narrowed := true }
def FnExactConstantsUptoSaid : Prop := fnExactConstantsUptoRow.holds Try.pinned (OpenSpec.upto fnExactConstantsSpec)

/-- 'laws.FnExactKnows', WHERE WHAT IT READS IS OF BULK AT MOST 1048576: true; the input reads as it did. -/
def fnExactKnowsUptoRow : OpenClaim := { program := "ytdognghekkpmoaa", sum := "b61ae09aafd71e0f5b1f109c3c7f72a0787621c17567eda9ad5871ff68deb2d3", func := "loop.example/g00238/laws.FnExactKnows", spec := "fnExactKnows", apart := false, narrowed := true }
def FnExactKnowsUptoSaid : Prop := fnExactKnowsUptoRow.holds Try.pinned (OpenSpec.upto fnExactKnowsSpec)

/-- 'laws.FnExactReads', WHERE WHAT IT READS IS OF BULK AT MOST 1048576: true; the input reads as it did. -/
def fnExactReadsUptoRow : OpenClaim := { program := "ytdognghekkpmoaa", sum := "b61ae09aafd71e0f5b1f109c3c7f72a0787621c17567eda9ad5871ff68deb2d3", func := "loop.example/g00238/laws.FnExactReads", spec := "fnExactReads", apart := false, narrowed := true }
def FnExactReadsUptoSaid : Prop := fnExactReadsUptoRow.holds Try.pinned (OpenSpec.upto fnExactReadsSpec)

/-- 'laws.FnExactSets', WHERE WHAT IT READS IS OF BULK AT MOST 1048576: true; the input reads as it did. -/
def fnExactSetsUptoRow : OpenClaim := { program := "ytdognghekkpmoaa", sum := "b61ae09aafd71e0f5b1f109c3c7f72a0787621c17567eda9ad5871ff68deb2d3", func := "loop.example/g00238/laws.FnExactSets", spec := "fnExactSets", apart := false, narrowed := true }
def FnExactSetsUptoSaid : Prop := fnExactSetsUptoRow.holds Try.pinned (OpenSpec.upto fnExactSetsSpec)

/-- 'laws.FnExactJoin', WHERE WHAT IT READS IS OF BULK AT MOST 1048576: true; the input reads as it did. -/
def fnExactJoinUptoRow : OpenClaim := { program := "ytdognghekkpmoaa", sum := "b61ae09aafd71e0f5b1f109c3c7f72a0787621c17567eda9ad5871ff68deb2d3", func := "loop.example/g00238/laws.FnExactJoin", spec := "fnExactJoin", apart := false, narrowed := true }
def FnExactJoinUptoSaid : Prop := fnExactJoinUptoRow.holds Try.pinned (OpenSpec.upto fnExactJoinSpec)

/-- 'laws.FnExactChanOk', WHERE WHAT IT READS IS OF BULK AT MOST 1048576: true; the input reads as it did. -/
def fnExactChanOkUptoRow : OpenClaim := { program := "ytdognghekkpmoaa", sum := "b61ae09aafd71e0f5b1f109c3c7f72a0787621c17567eda9ad5871ff68deb2d3", func := "loop.example/g00238/laws.FnExactChanOk", spec := "fnExactChanOk", apart := false, narrowed := true }
def FnExactChanOkUptoSaid : Prop := fnExactChanOkUptoRow.holds Try.pinned (OpenSpec.upto fnExactChanOkSpec)

/-- 'laws.FnExactBase', WHERE WHAT IT READS IS OF BULK AT MOST 1048576: true; the input reads as it did. -/
def fnExactBaseUptoRow : OpenClaim := { program := "ytdognghekkpmoaa", sum := "b61ae09aafd71e0f5b1f109c3c7f72a0787621c17567eda9ad5871ff68deb2d3", func := "loop.example/g00238/laws.FnExactBase", spec := "fnExactBase", apart := false, narrowed := true }
def FnExactBaseUptoSaid : Prop := fnExactBaseUptoRow.holds Try.pinned (OpenSpec.upto fnExactBaseSpec)

/-- 'laws.FnExactStepOk', WHERE WHAT IT READS IS OF BULK AT MOST 1048576: true; the input reads as it did. -/
def fnExactStepOkUptoRow : OpenClaim := { program := "ytdognghekkpmoaa", sum := "b61ae09aafd71e0f5b1f109c3c7f72a0787621c17567eda9ad5871ff68deb2d3", func := "loop.example/g00238/laws.FnExactStepOk", spec := "fnExactStepOk", apart := false, narrowed := true }
def FnExactStepOkUptoSaid : Prop := fnExactStepOkUptoRow.holds Try.pinned (OpenSpec.upto fnExactStepOkSpec)

/-- 'laws.FnExactStepWord', WHERE WHAT IT READS IS OF BULK AT MOST 1048576: true; the input reads as it did. -/
def fnExactStepWordUptoRow : OpenClaim := { program := "ytdognghekkpmoaa", sum := "b61ae09aafd71e0f5b1f109c3c7f72a0787621c17567eda9ad5871ff68deb2d3", func := "loop.example/g00238/laws.FnExactStepWord", spec := "fnExactStepWord", apart := false, narrowed := true }
def FnExactStepWordUptoSaid : Prop := fnExactStepWordUptoRow.holds Try.pinned (OpenSpec.upto fnExactStepWordSpec)

/-- 'laws.FnExactChanClose', WHERE WHAT IT READS IS OF BULK AT MOST 1048576: true; the input reads as it did. -/
def fnExactChanCloseUptoRow : OpenClaim := { program := "ytdognghekkpmoaa", sum := "b61ae09aafd71e0f5b1f109c3c7f72a0787621c17567eda9ad5871ff68deb2d3", func := "loop.example/g00238/laws.FnExactChanClose", spec := "fnExactChanClose", apart := false, narrowed := true }
def FnExactChanCloseUptoSaid : Prop := fnExactChanCloseUptoRow.holds Try.pinned (OpenSpec.upto fnExactChanCloseSpec)

/-- 'laws.FnExactChanSend', WHERE WHAT IT READS IS OF BULK AT MOST 1048576: true; the input reads as it did. -/
def fnExactChanSendUptoRow : OpenClaim := { program := "ytdognghekkpmoaa", sum := "b61ae09aafd71e0f5b1f109c3c7f72a0787621c17567eda9ad5871ff68deb2d3", func := "loop.example/g00238/laws.FnExactChanSend", spec := "fnExactChanSend", apart := false, narrowed := true }
def FnExactChanSendUptoSaid : Prop := fnExactChanSendUptoRow.holds Try.pinned (OpenSpec.upto fnExactChanSendSpec)

/-- 'laws.FnExactChanTake', WHERE WHAT IT READS IS OF BULK AT MOST 1048576: true; the input reads as it did. -/
def fnExactChanTakeUptoRow : OpenClaim := { program := "ytdognghekkpmoaa", sum := "b61ae09aafd71e0f5b1f109c3c7f72a0787621c17567eda9ad5871ff68deb2d3", func := "loop.example/g00238/laws.FnExactChanTake", spec := "fnExactChanTake", apart := false, narrowed := true }
def FnExactChanTakeUptoSaid : Prop := fnExactChanTakeUptoRow.holds Try.pinned (OpenSpec.upto fnExactChanTakeSpec)

end Rows
end Go.Proofs.Ytdognghekkpmoaa
