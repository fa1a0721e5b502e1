import Derived.Test.YtpefeaiglkkkoaaProg
import Derived.Below
import Derived.Deep.Draws
import Derived.Deep.AppendLies
import Derived.Maps.AppendAt
import Derived.OwnWalk
import Derived.Laws.BytesArg
import Derived.Laws.MakeOwn
import Derived.Laws.OwnMore
import Derived.Deep.OwnRows
import Derived.Tactics
import Derived.Lib.ConvBytes
import Derived.Laws.Slices
import Derived.WalkKit
import Derived.KernelRfl
import Derived.RowKit3
import Derived.Deep.LoopGhost
import Derived.Deep.QuietTactic
import Derived.BigQuiet
import Derived.WideLaws
import Derived.Deep.DeepCutAuto
import Derived.Deep.CutBlock
import Derived.Deep.RegionHeld3
import Derived.Laws.Rows
import Derived.Lib.AppendStr
import Derived.ArgAppend
import Derived.Laws.IdiomCopy
import Derived.OrdersHeld
import Derived.Laws.BitsLemmas
import Derived.RowKit
import Derived.Test.YtpefeaiglkkkoaaWWords
import Derived.Test.YtpefeaiglkkkoaaWLast
import Derived.Test.YtpefeaiglkkkoaaWTab
import Derived.Test.YtpefeaiglkkkoaaWFour
import Derived.Test.YtpefeaiglkkkoaaWQPut
import Derived.Test.YtpefeaiglkkkoaaWApart
import Derived.Test.YtpefeaiglkkkoaaWArr
import Derived.Test.YtpefeaiglkkkoaaWZeros
import Derived.Test.YtpefeaiglkkkoaaWFoot
import Derived.Test.YtpefeaiglkkkoaaWKept
import Derived.Test.YtpefeaiglkkkoaaWShare
import Derived.Test.YtpefeaiglkkkoaaWN
import Derived.Test.YtpefeaiglkkkoaaWFootNe
import Derived.Test.YtpefeaiglkkkoaaWAt
import Derived.Test.YtpefeaiglkkkoaaWEqStruct
import Derived.Test.YtpefeaiglkkkoaaWRepsOne
import Derived.Test.YtpefeaiglkkkoaaWInv
import Derived.Test.YtpefeaiglkkkoaaWInvWords
import Derived.Test.YtpefeaiglkkkoaaWGuard
import Derived.Test.YtpefeaiglkkkoaaWNEv
import Derived.Test.YtpefeaiglkkkoaaWMore
namespace Go.Proofs.Ytpefeaiglkkkoaa.PFnChan
open Go.RowKit Go.Proofs.YtpefeaiglkkkoaaW.PrintWords Go.Proofs.YtpefeaiglkkkoaaW.PrintLast Go.Proofs.YtpefeaiglkkkoaaW.PrintMore
attribute [local go_sem] max2_int min2_int max_two min_two max_three min_three max_four min_four   -- for this text's walks alone
set_option linter.unusedVariables false
set_option linter.unusedSimpArgs false



def errW : Option Int → Value
  | none => .nilIface
  | some c => .iface 0 (.int .i64 c)
theorem errW_none : errW none = .nilIface := rfl
theorem errW_some (c : Int) : errW (some c) = .iface 0 (.int .i64 c) := rfl

theorem info3 : (Try.prog.info? 3).map (fun i => (i.zero, i.size, i.bytes)) = some (some (.int .i64 0), 1, 8) := by kernel_rfl
-- the values' own types

end Go.Proofs.Ytpefeaiglkkkoaa.PFnChan
