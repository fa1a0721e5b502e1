/- Every exported constant has the value that the document gives: the printed law has one answer, true; no condition. -/
import Derived.Test.YtdognghekkpmoaaPFnExactConstantsx1
namespace Go.Proofs.Ytdognghekkpmoaa.Pure
open Go.RowKit Go.Proofs.Ytdognghekkpmoaa.PFnExactConstants Go.Proofs.YtdognghekkpmoaaW.PrintWords Go.Proofs.YtdognghekkpmoaaW.PrintLast

/-- YOURS: laws_FnExactConstants.f  = some true
What it reaches (each with k first where it has rounds; `.mono`: more rounds tell the same; `.l0`, ..: its loops, with `.mono_l`): laws_FnExactConstants.f -/
theorem FnExactConstants : laws_FnExactConstants.Pure := by
  first | rfl | (unfold laws_FnExactConstants.Pure laws_FnExactConstants.f; simp)

end Go.Proofs.Ytdognghekkpmoaa.Pure
