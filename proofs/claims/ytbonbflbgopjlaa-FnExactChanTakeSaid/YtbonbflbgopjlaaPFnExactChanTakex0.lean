import Derived.Test.YtbonbflbgopjlaaProg
import Derived.Below
import Derived.Deep.Draws
import Derived.Deep.AppendLies
import Derived.Maps.AppendAt
import Derived.OwnWalk
import Derived.Laws.BytesArg
import Derived.Laws.MakeOwn
import Derived.Laws.OwnMore
import Derived.Deep.OwnRows
import Derived.Tactics
import Derived.Lib.ConvBytes
import Derived.Laws.Slices
import Derived.WalkKit
import Derived.KernelRfl
import Derived.RowKit3
import Derived.Deep.LoopGhost
import Derived.Deep.QuietTactic
import Derived.BigQuiet
import Derived.WideLaws
import Derived.Deep.DeepCutAuto
import Derived.Deep.CutBlock
import Derived.Deep.RegionHeld3
import Derived.Laws.Rows
import Derived.Lib.AppendStr
import Derived.ArgAppend
import Derived.Laws.IdiomCopy
import Derived.OrdersHeld
import Derived.Laws.BitsLemmas
import Derived.RowKit
import Derived.Test.YtbonbflbgopjlaaWWords
import Derived.Test.YtbonbflbgopjlaaWLast
import Derived.Test.YtbonbflbgopjlaaWTab
import Derived.Test.YtbonbflbgopjlaaWFour
import Derived.Test.YtbonbflbgopjlaaWQPut
import Derived.Test.YtbonbflbgopjlaaWApart
import Derived.Test.YtbonbflbgopjlaaWArr
import Derived.Test.YtbonbflbgopjlaaWZeros
import Derived.Test.YtbonbflbgopjlaaWFoot
import Derived.Test.YtbonbflbgopjlaaWKept
import Derived.Test.YtbonbflbgopjlaaWShare
import Derived.Test.YtbonbflbgopjlaaWN
import Derived.Test.YtbonbflbgopjlaaWFootNe
import Derived.Test.YtbonbflbgopjlaaWAt
import Derived.Test.YtbonbflbgopjlaaWEqStruct
import Derived.Test.YtbonbflbgopjlaaWRepsOne
import Derived.Test.YtbonbflbgopjlaaWInv
import Derived.Test.YtbonbflbgopjlaaWInvWords
import Derived.Test.YtbonbflbgopjlaaWGuard
import Derived.Test.YtbonbflbgopjlaaWNEv
import Derived.Test.YtbonbflbgopjlaaWMore
namespace Go.Proofs.Ytbonbflbgopjlaa.PFnExactChanTake
open Go.RowKit Go.Proofs.YtbonbflbgopjlaaW.PrintWords Go.Proofs.YtbonbflbgopjlaaW.PrintLast Go.Proofs.YtbonbflbgopjlaaW.PrintMore
attribute [local go_sem] max2_int min2_int max_two min_two max_three min_three max_four min_four   -- for this text's walks alone
set_option linter.unusedVariables false
set_option linter.unusedSimpArgs false



def errW : Option Int → Value
  | none => .nilIface
  | some c => .iface 0 (.int .i64 c)
theorem errW_none : errW none = .nilIface := rfl
theorem errW_some (c : Int) : errW (some c) = .iface 0 (.int .i64 c) := rfl

theorem info3 : (Try.prog.info? 3).map (fun i => (i.zero, i.size, i.bytes)) = some (some (.int .i64 0), 1, 8) := by kernel_rfl
-- the values' own types

end Go.Proofs.Ytbonbflbgopjlaa.PFnExactChanTake
