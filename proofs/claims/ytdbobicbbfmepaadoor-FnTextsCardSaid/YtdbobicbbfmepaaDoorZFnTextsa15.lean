/- A part of the proof that the law FnTexts holds for every input: the words, functions and walks that its row needs, without a condition of their own. -/
import Derived.Test.YtdbobicbbfmepaaDoorZFnTextsa4
import Derived.Test.YtdbobicbbfmepaaDoorZFnTextsa13
import Derived.Test.YtdbobicbbfmepaaDoorZFnTextsa14
import Derived.Test.YtdbobicbbfmepaaDoorZFnTextss
namespace Go.Proofs.YtdbobicbbfmepaaDoor.PFnTexts
open Go.RowKit Go.Proofs.YtdbobicbbfmepaaDoorW.PrintWords Go.Proofs.YtdbobicbbfmepaaDoorW.PrintLast Go.Proofs.YtdbobicbbfmepaaDoorW.PrintMore
attribute [local go_sem] max2_int min2_int max_two min_two max_three min_three max_four min_four   -- for this text's walks alone
set_option linter.unusedVariables false
set_option linter.unusedSimpArgs false
def spec_StepText.f (k : Nat) (a0_0 : Int) (a0_1 : Int) (a0_2 : Int) (a0_3 : Int) (a0_4 : Int) : Option (ByteArray) := (spec_StepOk.f k a0_0 a0_1 a0_2 a0_3 a0_4 800).bind fun t474 => (if t474 = true then ((spec_l16R.f k a0_1).bind fun t475 => ((spec_l16R.f k a0_2).bind fun t476 => ((spec_l16R.f k a0_3).bind fun t477 => ((spec_l2Digits.f k a0_4).bind fun t478 => (if 1 + t478.size ≤ 9223372036854775807 then (if a0_0 = 1 then (if 3 + t475.size ≤ 9223372036854775807 then (if ((⟨#[115, 101, 116]⟩ : ByteArray) ++ t475).size + ((⟨#[32]⟩ : ByteArray) ++ t478).size ≤ 9223372036854775807 then (some (((⟨#[115, 101, 116]⟩ : ByteArray) ++ t475) ++ ((⟨#[32]⟩ : ByteArray) ++ t478))) else (none)) else (none)) else (if a0_0 = 2 then (if 3 + t475.size ≤ 9223372036854775807 then (if ((⟨#[97, 100, 100]⟩ : ByteArray) ++ t475).size + t476.size ≤ 9223372036854775807 then (if (((⟨#[97, 100, 100]⟩ : ByteArray) ++ t475) ++ t476).size + t477.size ≤ 9223372036854775807 then (some ((((⟨#[97, 100, 100]⟩ : ByteArray) ++ t475) ++ t476) ++ t477)) else (none)) else (none)) else (none)) else (if a0_0 = 3 then (if 3 + t475.size ≤ 9223372036854775807 then (if ((⟨#[115, 117, 98]⟩ : ByteArray) ++ t475).size + t476.size ≤ 9223372036854775807 then (if (((⟨#[115, 117, 98]⟩ : ByteArray) ++ t475) ++ t476).size + t477.size ≤ 9223372036854775807 then (some ((((⟨#[115, 117, 98]⟩ : ByteArray) ++ t475) ++ t476) ++ t477)) else (none)) else (none)) else (none)) else (if a0_0 = 4 then (if 4 + t475.size ≤ 9223372036854775807 then (if ((⟨#[108, 101, 115, 115]⟩ : ByteArray) ++ t475).size + t476.size ≤ 9223372036854775807 then (if (((⟨#[108, 101, 115, 115]⟩ : ByteArray) ++ t475) ++ t476).size + t477.size ≤ 9223372036854775807 then (some ((((⟨#[108, 101, 115, 115]⟩ : ByteArray) ++ t475) ++ t476) ++ t477)) else (none)) else (none)) else (none)) else (if a0_0 = 5 then (if 4 + t475.size ≤ 9223372036854775807 then ((spec_l16Cell.f k a0_0 a0_1 a0_2 a0_3 a0_4).bind fun t479 => (if ((⟨#[108, 111, 97, 100]⟩ : ByteArray) ++ t475).size + t479.size ≤ 9223372036854775807 then (some (((⟨#[108, 111, 97, 100]⟩ : ByteArray) ++ t475) ++ t479)) else (none))) else (none)) else (if a0_0 = 6 then ((spec_l16Cell.f k a0_0 a0_1 a0_2 a0_3 a0_4).bind fun t480 => (if 5 + t480.size ≤ 9223372036854775807 then (if ((⟨#[115, 116, 111, 114, 101]⟩ : ByteArray) ++ t480).size + t477.size ≤ 9223372036854775807 then (some (((⟨#[115, 116, 111, 114, 101]⟩ : ByteArray) ++ t480) ++ t477)) else (none)) else (none))) else (if a0_0 = 7 then ((spec_l16Cell.f k a0_0 a0_1 a0_2 a0_3 a0_4).bind fun t481 => (if 3 + t481.size ≤ 9223372036854775807 then (if ((⟨#[108, 101, 116]⟩ : ByteArray) ++ t481).size + t477.size ≤ 9223372036854775807 then (some (((⟨#[108, 101, 116]⟩ : ByteArray) ++ t481) ++ t477)) else (none)) else (none))) else (if a0_0 = 8 then (if 4 + t475.size ≤ 9223372036854775807 then ((spec_l16Cell.f k a0_0 a0_1 a0_2 a0_3 a0_4).bind fun t482 => (if ((⟨#[115, 119, 97, 112]⟩ : ByteArray) ++ t475).size + t482.size ≤ 9223372036854775807 then (if (((⟨#[115, 119, 97, 112]⟩ : ByteArray) ++ t475) ++ t482).size + t477.size ≤ 9223372036854775807 then (some ((((⟨#[115, 119, 97, 112]⟩ : ByteArray) ++ t475) ++ t482) ++ t477)) else (none)) else (none))) else (none)) else (if a0_0 = 9 then (if 5 + t476.size ≤ 9223372036854775807 then (some ((⟨#[112, 114, 105, 110, 116]⟩ : ByteArray) ++ t476)) else (none)) else (if a0_0 = 10 then (if 4 + ((⟨#[32]⟩ : ByteArray) ++ t478).size ≤ 9223372036854775807 then (some ((⟨#[106, 117, 109, 112]⟩ : ByteArray) ++ ((⟨#[32]⟩ : ByteArray) ++ t478))) else (none)) else (if a0_0 = 11 then (if 4 + t476.size ≤ 9223372036854775807 then (if ((⟨#[122, 101, 114, 111]⟩ : ByteArray) ++ t476).size + ((⟨#[32]⟩ : ByteArray) ++ t478).size ≤ 9223372036854775807 then (some (((⟨#[122, 101, 114, 111]⟩ : ByteArray) ++ t476) ++ ((⟨#[32]⟩ : ByteArray) ++ t478))) else (none)) else (none)) else (if a0_0 = 12 then (some (⟨#[101, 110, 100]⟩ : ByteArray)) else (some (⟨#[102, 97, 117, 108, 116]⟩ : ByteArray)))))))))))))) else (none)))))) else (some (⟨#[]⟩ : ByteArray)))
def spec_StepText.T3 : Bool × List (List Nat × List Nat) := (true, [([], []), ([0], [0]), ([1], [1]), ([], []), ([3], [3]), ([4, 2], [4]), ([], []), ([6], [6]), ([7, 5], [7]), ([], []), ([9], [9]), ([10, 8], [10]), ([11], [11]), ([2, 11, 0, 1, 2], [2]), ([5, 13, 0, 1, 2, 3, 4, 5, 13], [5]), ([8, 14, 0, 1, 2, 3, 4, 5, 6, 7, 8, 13, 14], [8]), ([12, 15, 0, 1, 2, 3, 4, 5, 6, 7, 8, 9, 10, 11, 12, 13, 14, 15], [12])])
def spec_StepText.B3 : List Nat := [0, 1, 3, 0, 8, 31, 0, 64, 255, 0, 512, 2047, 4095, 4095, 12287, 28671, 65535]
theorem spec_StepText.tab3 : rtab .any (opsOf Tryd.f15 3) = spec_StepText.T3 := by kernel_rfl
theorem spec_StepText.bits3 : waitsOk spec_StepText.T3.2 spec_StepText.B3 = true := by kernel_rfl
set_option maxHeartbeats 8000000 in
set_option maxRecDepth 100000 in
theorem spec_StepText.calls (k : Nat) (a0_0 : Int) (a0_1 : Int) (a0_2 : Int) (a0_3 : Int) (a0_4 : Int) (r : ByteArray) (w : World) (h : spec_StepText.f k a0_0 a0_1 a0_2 a0_3 a0_4 = some r) :
  Calls Tryd.prog 15 #[.agg #[.int .i64 a0_0, .int .i64 a0_1, .int .i64 a0_2, .int .i64 a0_3, .int .i64 a0_4]] w fun e w' => e = .returned (.string r) ∧ Below w.heap.size w w' := by
 have hu25 := Tryd.underlying25
 have HB := aM_ (Below.refl w.heap.size w)
 have H : ((spec_StepOk.f k a0_0 a0_1 a0_2 a0_3 a0_4 800).bind fun t474 => (if t474 = true then ((spec_l16R.f k a0_1).bind fun t475 => ((spec_l16R.f k a0_2).bind fun t476 => ((spec_l16R.f k a0_3).bind fun t477 => ((spec_l2Digits.f k a0_4).bind fun t478 => (if 1 + t478.size ≤ 9223372036854775807 then (if a0_0 = 1 then (if 3 + t475.size ≤ 9223372036854775807 then (if ((⟨#[115, 101, 116]⟩ : ByteArray) ++ t475).size + ((⟨#[32]⟩ : ByteArray) ++ t478).size ≤ 9223372036854775807 then (some (((⟨#[115, 101, 116]⟩ : ByteArray) ++ t475) ++ ((⟨#[32]⟩ : ByteArray) ++ t478))) else (none)) else (none)) else (if a0_0 = 2 then (if 3 + t475.size ≤ 9223372036854775807 then (if ((⟨#[97, 100, 100]⟩ : ByteArray) ++ t475).size + t476.size ≤ 9223372036854775807 then (if (((⟨#[97, 100, 100]⟩ : ByteArray) ++ t475) ++ t476).size + t477.size ≤ 9223372036854775807 then (some ((((⟨#[97, 100, 100]⟩ : ByteArray) ++ t475) ++ t476) ++ t477)) else (none)) else (none)) else (none)) else (if a0_0 = 3 then (if 3 + t475.size ≤ 9223372036854775807 then (if ((⟨#[115, 117, 98]⟩ : ByteArray) ++ t475).size + t476.size ≤ 9223372036854775807 then (if (((⟨#[115, 117, 98]⟩ : ByteArray) ++ t475) ++ t476).size + t477.size ≤ 9223372036854775807 then (some ((((⟨#[115, 117, 98]⟩ : ByteArray) ++ t475) ++ t476) ++ t477)) else (none)) else (none)) else (none)) else (if a0_0 = 4 then (if 4 + t475.size ≤ 9223372036854775807 then (if ((⟨#[108, 101, 115, 115]⟩ : ByteArray) ++ t475).size + t476.size ≤ 9223372036854775807 then (if (((⟨#[108, 101, 115, 115]⟩ : ByteArray) ++ t475) ++ t476).size + t477.size ≤ 9223372036854775807 then (some ((((⟨#[108, 101, 115, 115]⟩ : ByteArray) ++ t475) ++ t476) ++ t477)) else (none)) else (none)) else (none)) else (if a0_0 = 5 then (if 4 + t475.size ≤ 9223372036854775807 then ((spec_l16Cell.f k a0_0 a0_1 a0_2 a0_3 a0_4).bind fun t479 => (if ((⟨#[108, 111, 97, 100]⟩ : ByteArray) ++ t475).size + t479.size ≤ 9223372036854775807 then (some (((⟨#[108, 111, 97, 100]⟩ : ByteArray) ++ t475) ++ t479)) else (none))) else (none)) else (if a0_0 = 6 then ((spec_l16Cell.f k a0_0 a0_1 a0_2 a0_3 a0_4).bind fun t480 => (if 5 + t480.size ≤ 9223372036854775807 then (if ((⟨#[115, 116, 111, 114, 101]⟩ : ByteArray) ++ t480).size + t477.size ≤ 9223372036854775807 then (some (((⟨#[115, 116, 111, 114, 101]⟩ : ByteArray) ++ t480) ++ t477)) else (none)) else (none))) else (if a0_0 = 7 then ((spec_l16Cell.f k a0_0 a0_1 a0_2 a0_3 a0_4).bind fun t481 => (if 3 + t481.size ≤ 9223372036854775807 then (if ((⟨#[108, 101, 116]⟩ : ByteArray) ++ t481).size + t477.size ≤ 9223372036854775807 then (some (((⟨#[108, 101, 116]⟩ : ByteArray) ++ t481) ++ t477)) else (none)) else (none))) else (if a0_0 = 8 then (if 4 + t475.size ≤ 9223372036854775807 then ((spec_l16Cell.f k a0_0 a0_1 a0_2 a0_3 a0_4).bind fun t482 => (if ((⟨#[115, 119, 97, 112]⟩ : ByteArray) ++ t475).size + t482.size ≤ 9223372036854775807 then (if (((⟨#[115, 119, 97, 112]⟩ : ByteArray) ++ t475) ++ t482).size + t477.size ≤ 9223372036854775807 then (some ((((⟨#[115, 119, 97, 112]⟩ : ByteArray) ++ t475) ++ t482) ++ t477)) else (none)) else (none))) else (none)) else (if a0_0 = 9 then (if 5 + t476.size ≤ 9223372036854775807 then (some ((⟨#[112, 114, 105, 110, 116]⟩ : ByteArray) ++ t476)) else (none)) else (if a0_0 = 10 then (if 4 + ((⟨#[32]⟩ : ByteArray) ++ t478).size ≤ 9223372036854775807 then (some ((⟨#[106, 117, 109, 112]⟩ : ByteArray) ++ ((⟨#[32]⟩ : ByteArray) ++ t478))) else (none)) else (if a0_0 = 11 then (if 4 + t476.size ≤ 9223372036854775807 then (if ((⟨#[122, 101, 114, 111]⟩ : ByteArray) ++ t476).size + ((⟨#[32]⟩ : ByteArray) ++ t478).size ≤ 9223372036854775807 then (some (((⟨#[122, 101, 114, 111]⟩ : ByteArray) ++ t476) ++ ((⟨#[32]⟩ : ByteArray) ++ t478))) else (none)) else (none)) else (if a0_0 = 12 then (some (⟨#[101, 110, 100]⟩ : ByteArray)) else (some (⟨#[102, 97, 117, 108, 116]⟩ : ByteArray)))))))))))))) else (none)))))) else (some (⟨#[]⟩ : ByteArray)))) = some r := h
 clear h
 replace H := Option.bind_eq_some_iff.mp H
 obtain ⟨t474, A20, H⟩ := H
 replace H : (if t474 = true then ((spec_l16R.f k a0_1).bind fun t475 => ((spec_l16R.f k a0_2).bind fun t476 => ((spec_l16R.f k a0_3).bind fun t477 => ((spec_l2Digits.f k a0_4).bind fun t478 => (if 1 + t478.size ≤ 9223372036854775807 then (if a0_0 = 1 then (if 3 + t475.size ≤ 9223372036854775807 then (if ((⟨#[115, 101, 116]⟩ : ByteArray) ++ t475).size + ((⟨#[32]⟩ : ByteArray) ++ t478).size ≤ 9223372036854775807 then (some (((⟨#[115, 101, 116]⟩ : ByteArray) ++ t475) ++ ((⟨#[32]⟩ : ByteArray) ++ t478))) else (none)) else (none)) else (if a0_0 = 2 then (if 3 + t475.size ≤ 9223372036854775807 then (if ((⟨#[97, 100, 100]⟩ : ByteArray) ++ t475).size + t476.size ≤ 9223372036854775807 then (if (((⟨#[97, 100, 100]⟩ : ByteArray) ++ t475) ++ t476).size + t477.size ≤ 9223372036854775807 then (some ((((⟨#[97, 100, 100]⟩ : ByteArray) ++ t475) ++ t476) ++ t477)) else (none)) else (none)) else (none)) else (if a0_0 = 3 then (if 3 + t475.size ≤ 9223372036854775807 then (if ((⟨#[115, 117, 98]⟩ : ByteArray) ++ t475).size + t476.size ≤ 9223372036854775807 then (if (((⟨#[115, 117, 98]⟩ : ByteArray) ++ t475) ++ t476).size + t477.size ≤ 9223372036854775807 then (some ((((⟨#[115, 117, 98]⟩ : ByteArray) ++ t475) ++ t476) ++ t477)) else (none)) else (none)) else (none)) else (if a0_0 = 4 then (if 4 + t475.size ≤ 9223372036854775807 then (if ((⟨#[108, 101, 115, 115]⟩ : ByteArray) ++ t475).size + t476.size ≤ 9223372036854775807 then (if (((⟨#[108, 101, 115, 115]⟩ : ByteArray) ++ t475) ++ t476).size + t477.size ≤ 9223372036854775807 then (some ((((⟨#[108, 101, 115, 115]⟩ : ByteArray) ++ t475) ++ t476) ++ t477)) else (none)) else (none)) else (none)) else (if a0_0 = 5 then (if 4 + t475.size ≤ 9223372036854775807 then ((spec_l16Cell.f k a0_0 a0_1 a0_2 a0_3 a0_4).bind fun t479 => (if ((⟨#[108, 111, 97, 100]⟩ : ByteArray) ++ t475).size + t479.size ≤ 9223372036854775807 then (some (((⟨#[108, 111, 97, 100]⟩ : ByteArray) ++ t475) ++ t479)) else (none))) else (none)) else (if a0_0 = 6 then ((spec_l16Cell.f k a0_0 a0_1 a0_2 a0_3 a0_4).bind fun t480 => (if 5 + t480.size ≤ 9223372036854775807 then (if ((⟨#[115, 116, 111, 114, 101]⟩ : ByteArray) ++ t480).size + t477.size ≤ 9223372036854775807 then (some (((⟨#[115, 116, 111, 114, 101]⟩ : ByteArray) ++ t480) ++ t477)) else (none)) else (none))) else (if a0_0 = 7 then ((spec_l16Cell.f k a0_0 a0_1 a0_2 a0_3 a0_4).bind fun t481 => (if 3 + t481.size ≤ 9223372036854775807 then (if ((⟨#[108, 101, 116]⟩ : ByteArray) ++ t481).size + t477.size ≤ 9223372036854775807 then (some (((⟨#[108, 101, 116]⟩ : ByteArray) ++ t481) ++ t477)) else (none)) else (none))) else (if a0_0 = 8 then (if 4 + t475.size ≤ 9223372036854775807 then ((spec_l16Cell.f k a0_0 a0_1 a0_2 a0_3 a0_4).bind fun t482 => (if ((⟨#[115, 119, 97, 112]⟩ : ByteArray) ++ t475).size + t482.size ≤ 9223372036854775807 then (if (((⟨#[115, 119, 97, 112]⟩ : ByteArray) ++ t475) ++ t482).size + t477.size ≤ 9223372036854775807 then (some ((((⟨#[115, 119, 97, 112]⟩ : ByteArray) ++ t475) ++ t482) ++ t477)) else (none)) else (none))) else (none)) else (if a0_0 = 9 then (if 5 + t476.size ≤ 9223372036854775807 then (some ((⟨#[112, 114, 105, 110, 116]⟩ : ByteArray) ++ t476)) else (none)) else (if a0_0 = 10 then (if 4 + ((⟨#[32]⟩ : ByteArray) ++ t478).size ≤ 9223372036854775807 then (some ((⟨#[106, 117, 109, 112]⟩ : ByteArray) ++ ((⟨#[32]⟩ : ByteArray) ++ t478))) else (none)) else (if a0_0 = 11 then (if 4 + t476.size ≤ 9223372036854775807 then (if ((⟨#[122, 101, 114, 111]⟩ : ByteArray) ++ t476).size + ((⟨#[32]⟩ : ByteArray) ++ t478).size ≤ 9223372036854775807 then (some (((⟨#[122, 101, 114, 111]⟩ : ByteArray) ++ t476) ++ ((⟨#[32]⟩ : ByteArray) ++ t478))) else (none)) else (none)) else (if a0_0 = 12 then (some (⟨#[101, 110, 100]⟩ : ByteArray)) else (some (⟨#[102, 97, 117, 108, 116]⟩ : ByteArray)))))))))))))) else (none)))))) else (some (⟨#[]⟩ : ByteArray))) = some r := H
 have A2 := aM_ A20
 clear A20
 by_cases c3 : t474 = true
 ·subst c3
  have H1 : ((spec_l16R.f k a0_1).bind fun t475 => ((spec_l16R.f k a0_2).bind fun t476 => ((spec_l16R.f k a0_3).bind fun t477 => ((spec_l2Digits.f k a0_4).bind fun t478 => (if 1 + t478.size ≤ 9223372036854775807 then (if a0_0 = 1 then (if 3 + t475.size ≤ 9223372036854775807 then (if ((⟨#[115, 101, 116]⟩ : ByteArray) ++ t475).size + ((⟨#[32]⟩ : ByteArray) ++ t478).size ≤ 9223372036854775807 then (some (((⟨#[115, 101, 116]⟩ : ByteArray) ++ t475) ++ ((⟨#[32]⟩ : ByteArray) ++ t478))) else (none)) else (none)) else (if a0_0 = 2 then (if 3 + t475.size ≤ 9223372036854775807 then (if ((⟨#[97, 100, 100]⟩ : ByteArray) ++ t475).size + t476.size ≤ 9223372036854775807 then (if (((⟨#[97, 100, 100]⟩ : ByteArray) ++ t475) ++ t476).size + t477.size ≤ 9223372036854775807 then (some ((((⟨#[97, 100, 100]⟩ : ByteArray) ++ t475) ++ t476) ++ t477)) else (none)) else (none)) else (none)) else (if a0_0 = 3 then (if 3 + t475.size ≤ 9223372036854775807 then (if ((⟨#[115, 117, 98]⟩ : ByteArray) ++ t475).size + t476.size ≤ 9223372036854775807 then (if (((⟨#[115, 117, 98]⟩ : ByteArray) ++ t475) ++ t476).size + t477.size ≤ 9223372036854775807 then (some ((((⟨#[115, 117, 98]⟩ : ByteArray) ++ t475) ++ t476) ++ t477)) else (none)) else (none)) else (none)) else (if a0_0 = 4 then (if 4 + t475.size ≤ 9223372036854775807 then (if ((⟨#[108, 101, 115, 115]⟩ : ByteArray) ++ t475).size + t476.size ≤ 9223372036854775807 then (if (((⟨#[108, 101, 115, 115]⟩ : ByteArray) ++ t475) ++ t476).size + t477.size ≤ 9223372036854775807 then (some ((((⟨#[108, 101, 115, 115]⟩ : ByteArray) ++ t475) ++ t476) ++ t477)) else (none)) else (none)) else (none)) else (if a0_0 = 5 then (if 4 + t475.size ≤ 9223372036854775807 then ((spec_l16Cell.f k a0_0 a0_1 a0_2 a0_3 a0_4).bind fun t479 => (if ((⟨#[108, 111, 97, 100]⟩ : ByteArray) ++ t475).size + t479.size ≤ 9223372036854775807 then (some (((⟨#[108, 111, 97, 100]⟩ : ByteArray) ++ t475) ++ t479)) else (none))) else (none)) else (if a0_0 = 6 then ((spec_l16Cell.f k a0_0 a0_1 a0_2 a0_3 a0_4).bind fun t480 => (if 5 + t480.size ≤ 9223372036854775807 then (if ((⟨#[115, 116, 111, 114, 101]⟩ : ByteArray) ++ t480).size + t477.size ≤ 9223372036854775807 then (some (((⟨#[115, 116, 111, 114, 101]⟩ : ByteArray) ++ t480) ++ t477)) else (none)) else (none))) else (if a0_0 = 7 then ((spec_l16Cell.f k a0_0 a0_1 a0_2 a0_3 a0_4).bind fun t481 => (if 3 + t481.size ≤ 9223372036854775807 then (if ((⟨#[108, 101, 116]⟩ : ByteArray) ++ t481).size + t477.size ≤ 9223372036854775807 then (some (((⟨#[108, 101, 116]⟩ : ByteArray) ++ t481) ++ t477)) else (none)) else (none))) else (if a0_0 = 8 then (if 4 + t475.size ≤ 9223372036854775807 then ((spec_l16Cell.f k a0_0 a0_1 a0_2 a0_3 a0_4).bind fun t482 => (if ((⟨#[115, 119, 97, 112]⟩ : ByteArray) ++ t475).size + t482.size ≤ 9223372036854775807 then (if (((⟨#[115, 119, 97, 112]⟩ : ByteArray) ++ t475) ++ t482).size + t477.size ≤ 9223372036854775807 then (some ((((⟨#[115, 119, 97, 112]⟩ : ByteArray) ++ t475) ++ t482) ++ t477)) else (none)) else (none))) else (none)) else (if a0_0 = 9 then (if 5 + t476.size ≤ 9223372036854775807 then (some ((⟨#[112, 114, 105, 110, 116]⟩ : ByteArray) ++ t476)) else (none)) else (if a0_0 = 10 then (if 4 + ((⟨#[32]⟩ : ByteArray) ++ t478).size ≤ 9223372036854775807 then (some ((⟨#[106, 117, 109, 112]⟩ : ByteArray) ++ ((⟨#[32]⟩ : ByteArray) ++ t478))) else (none)) else (if a0_0 = 11 then (if 4 + t476.size ≤ 9223372036854775807 then (if ((⟨#[122, 101, 114, 111]⟩ : ByteArray) ++ t476).size + ((⟨#[32]⟩ : ByteArray) ++ t478).size ≤ 9223372036854775807 then (some (((⟨#[122, 101, 114, 111]⟩ : ByteArray) ++ t476) ++ ((⟨#[32]⟩ : ByteArray) ++ t478))) else (none)) else (none)) else (if a0_0 = 12 then (some (⟨#[101, 110, 100]⟩ : ByteArray)) else (some (⟨#[102, 97, 117, 108, 116]⟩ : ByteArray)))))))))))))) else (none)))))) = some r := by rw [if_pos rfl] at H; exact H
  clear H
  have H := H1
  clear H1
  replace H := Option.bind_eq_some_iff.mp H
  obtain ⟨t475, A40, H⟩ := H
  replace H : ((spec_l16R.f k a0_2).bind fun t476 => ((spec_l16R.f k a0_3).bind fun t477 => ((spec_l2Digits.f k a0_4).bind fun t478 => (if 1 + t478.size ≤ 9223372036854775807 then (if a0_0 = 1 then (if 3 + t475.size ≤ 9223372036854775807 then (if ((⟨#[115, 101, 116]⟩ : ByteArray) ++ t475).size + ((⟨#[32]⟩ : ByteArray) ++ t478).size ≤ 9223372036854775807 then (some (((⟨#[115, 101, 116]⟩ : ByteArray) ++ t475) ++ ((⟨#[32]⟩ : ByteArray) ++ t478))) else (none)) else (none)) else (if a0_0 = 2 then (if 3 + t475.size ≤ 9223372036854775807 then (if ((⟨#[97, 100, 100]⟩ : ByteArray) ++ t475).size + t476.size ≤ 9223372036854775807 then (if (((⟨#[97, 100, 100]⟩ : ByteArray) ++ t475) ++ t476).size + t477.size ≤ 9223372036854775807 then (some ((((⟨#[97, 100, 100]⟩ : ByteArray) ++ t475) ++ t476) ++ t477)) else (none)) else (none)) else (none)) else (if a0_0 = 3 then (if 3 + t475.size ≤ 9223372036854775807 then (if ((⟨#[115, 117, 98]⟩ : ByteArray) ++ t475).size + t476.size ≤ 9223372036854775807 then (if (((⟨#[115, 117, 98]⟩ : ByteArray) ++ t475) ++ t476).size + t477.size ≤ 9223372036854775807 then (some ((((⟨#[115, 117, 98]⟩ : ByteArray) ++ t475) ++ t476) ++ t477)) else (none)) else (none)) else (none)) else (if a0_0 = 4 then (if 4 + t475.size ≤ 9223372036854775807 then (if ((⟨#[108, 101, 115, 115]⟩ : ByteArray) ++ t475).size + t476.size ≤ 9223372036854775807 then (if (((⟨#[108, 101, 115, 115]⟩ : ByteArray) ++ t475) ++ t476).size + t477.size ≤ 9223372036854775807 then (some ((((⟨#[108, 101, 115, 115]⟩ : ByteArray) ++ t475) ++ t476) ++ t477)) else (none)) else (none)) else (none)) else (if a0_0 = 5 then (if 4 + t475.size ≤ 9223372036854775807 then ((spec_l16Cell.f k a0_0 a0_1 a0_2 a0_3 a0_4).bind fun t479 => (if ((⟨#[108, 111, 97, 100]⟩ : ByteArray) ++ t475).size + t479.size ≤ 9223372036854775807 then (some (((⟨#[108, 111, 97, 100]⟩ : ByteArray) ++ t475) ++ t479)) else (none))) else (none)) else (if a0_0 = 6 then ((spec_l16Cell.f k a0_0 a0_1 a0_2 a0_3 a0_4).bind fun t480 => (if 5 + t480.size ≤ 9223372036854775807 then (if ((⟨#[115, 116, 111, 114, 101]⟩ : ByteArray) ++ t480).size + t477.size ≤ 9223372036854775807 then (some (((⟨#[115, 116, 111, 114, 101]⟩ : ByteArray) ++ t480) ++ t477)) else (none)) else (none))) else (if a0_0 = 7 then ((spec_l16Cell.f k a0_0 a0_1 a0_2 a0_3 a0_4).bind fun t481 => (if 3 + t481.size ≤ 9223372036854775807 then (if ((⟨#[108, 101, 116]⟩ : ByteArray) ++ t481).size + t477.size ≤ 9223372036854775807 then (some (((⟨#[108, 101, 116]⟩ : ByteArray) ++ t481) ++ t477)) else (none)) else (none))) else (if a0_0 = 8 then (if 4 + t475.size ≤ 9223372036854775807 then ((spec_l16Cell.f k a0_0 a0_1 a0_2 a0_3 a0_4).bind fun t482 => (if ((⟨#[115, 119, 97, 112]⟩ : ByteArray) ++ t475).size + t482.size ≤ 9223372036854775807 then (if (((⟨#[115, 119, 97, 112]⟩ : ByteArray) ++ t475) ++ t482).size + t477.size ≤ 9223372036854775807 then (some ((((⟨#[115, 119, 97, 112]⟩ : ByteArray) ++ t475) ++ t482) ++ t477)) else (none)) else (none))) else (none)) else (if a0_0 = 9 then (if 5 + t476.size ≤ 9223372036854775807 then (some ((⟨#[112, 114, 105, 110, 116]⟩ : ByteArray) ++ t476)) else (none)) else (if a0_0 = 10 then (if 4 + ((⟨#[32]⟩ : ByteArray) ++ t478).size ≤ 9223372036854775807 then (some ((⟨#[106, 117, 109, 112]⟩ : ByteArray) ++ ((⟨#[32]⟩ : ByteArray) ++ t478))) else (none)) else (if a0_0 = 11 then (if 4 + t476.size ≤ 9223372036854775807 then (if ((⟨#[122, 101, 114, 111]⟩ : ByteArray) ++ t476).size + ((⟨#[32]⟩ : ByteArray) ++ t478).size ≤ 9223372036854775807 then (some (((⟨#[122, 101, 114, 111]⟩ : ByteArray) ++ t476) ++ ((⟨#[32]⟩ : ByteArray) ++ t478))) else (none)) else (none)) else (if a0_0 = 12 then (some (⟨#[101, 110, 100]⟩ : ByteArray)) else (some (⟨#[102, 97, 117, 108, 116]⟩ : ByteArray)))))))))))))) else (none))))) = some r := H
  have A4 := aM_ A40
  clear A40
  replace H := Option.bind_eq_some_iff.mp H
  obtain ⟨t476, A50, H⟩ := H
  replace H : ((spec_l16R.f k a0_3).bind fun t477 => ((spec_l2Digits.f k a0_4).bind fun t478 => (if 1 + t478.size ≤ 9223372036854775807 then (if a0_0 = 1 then (if 3 + t475.size ≤ 9223372036854775807 then (if ((⟨#[115, 101, 116]⟩ : ByteArray) ++ t475).size + ((⟨#[32]⟩ : ByteArray) ++ t478).size ≤ 9223372036854775807 then (some (((⟨#[115, 101, 116]⟩ : ByteArray) ++ t475) ++ ((⟨#[32]⟩ : ByteArray) ++ t478))) else (none)) else (none)) else (if a0_0 = 2 then (if 3 + t475.size ≤ 9223372036854775807 then (if ((⟨#[97, 100, 100]⟩ : ByteArray) ++ t475).size + t476.size ≤ 9223372036854775807 then (if (((⟨#[97, 100, 100]⟩ : ByteArray) ++ t475) ++ t476).size + t477.size ≤ 9223372036854775807 then (some ((((⟨#[97, 100, 100]⟩ : ByteArray) ++ t475) ++ t476) ++ t477)) else (none)) else (none)) else (none)) else (if a0_0 = 3 then (if 3 + t475.size ≤ 9223372036854775807 then (if ((⟨#[115, 117, 98]⟩ : ByteArray) ++ t475).size + t476.size ≤ 9223372036854775807 then (if (((⟨#[115, 117, 98]⟩ : ByteArray) ++ t475) ++ t476).size + t477.size ≤ 9223372036854775807 then (some ((((⟨#[115, 117, 98]⟩ : ByteArray) ++ t475) ++ t476) ++ t477)) else (none)) else (none)) else (none)) else (if a0_0 = 4 then (if 4 + t475.size ≤ 9223372036854775807 then (if ((⟨#[108, 101, 115, 115]⟩ : ByteArray) ++ t475).size + t476.size ≤ 9223372036854775807 then (if (((⟨#[108, 101, 115, 115]⟩ : ByteArray) ++ t475) ++ t476).size + t477.size ≤ 9223372036854775807 then (some ((((⟨#[108, 101, 115, 115]⟩ : ByteArray) ++ t475) ++ t476) ++ t477)) else (none)) else (none)) else (none)) else (if a0_0 = 5 then (if 4 + t475.size ≤ 9223372036854775807 then ((spec_l16Cell.f k a0_0 a0_1 a0_2 a0_3 a0_4).bind fun t479 => (if ((⟨#[108, 111, 97, 100]⟩ : ByteArray) ++ t475).size + t479.size ≤ 9223372036854775807 then (some (((⟨#[108, 111, 97, 100]⟩ : ByteArray) ++ t475) ++ t479)) else (none))) else (none)) else (if a0_0 = 6 then ((spec_l16Cell.f k a0_0 a0_1 a0_2 a0_3 a0_4).bind fun t480 => (if 5 + t480.size ≤ 9223372036854775807 then (if ((⟨#[115, 116, 111, 114, 101]⟩ : ByteArray) ++ t480).size + t477.size ≤ 9223372036854775807 then (some (((⟨#[115, 116, 111, 114, 101]⟩ : ByteArray) ++ t480) ++ t477)) else (none)) else (none))) else (if a0_0 = 7 then ((spec_l16Cell.f k a0_0 a0_1 a0_2 a0_3 a0_4).bind fun t481 => (if 3 + t481.size ≤ 9223372036854775807 then (if ((⟨#[108, 101, 116]⟩ : ByteArray) ++ t481).size + t477.size ≤ 9223372036854775807 then (some (((⟨#[108, 101, 116]⟩ : ByteArray) ++ t481) ++ t477)) else (none)) else (none))) else (if a0_0 = 8 then (if 4 + t475.size ≤ 9223372036854775807 then ((spec_l16Cell.f k a0_0 a0_1 a0_2 a0_3 a0_4).bind fun t482 => (if ((⟨#[115, 119, 97, 112]⟩ : ByteArray) ++ t475).size + t482.size ≤ 9223372036854775807 then (if (((⟨#[115, 119, 97, 112]⟩ : ByteArray) ++ t475) ++ t482).size + t477.size ≤ 9223372036854775807 then (some ((((⟨#[115, 119, 97, 112]⟩ : ByteArray) ++ t475) ++ t482) ++ t477)) else (none)) else (none))) else (none)) else (if a0_0 = 9 then (if 5 + t476.size ≤ 9223372036854775807 then (some ((⟨#[112, 114, 105, 110, 116]⟩ : ByteArray) ++ t476)) else (none)) else (if a0_0 = 10 then (if 4 + ((⟨#[32]⟩ : ByteArray) ++ t478).size ≤ 9223372036854775807 then (some ((⟨#[106, 117, 109, 112]⟩ : ByteArray) ++ ((⟨#[32]⟩ : ByteArray) ++ t478))) else (none)) else (if a0_0 = 11 then (if 4 + t476.size ≤ 9223372036854775807 then (if ((⟨#[122, 101, 114, 111]⟩ : ByteArray) ++ t476).size + ((⟨#[32]⟩ : ByteArray) ++ t478).size ≤ 9223372036854775807 then (some (((⟨#[122, 101, 114, 111]⟩ : ByteArray) ++ t476) ++ ((⟨#[32]⟩ : ByteArray) ++ t478))) else (none)) else (none)) else (if a0_0 = 12 then (some (⟨#[101, 110, 100]⟩ : ByteArray)) else (some (⟨#[102, 97, 117, 108, 116]⟩ : ByteArray)))))))))))))) else (none)))) = some r := H
  have A5 := aM_ A50
  clear A50
  replace H := Option.bind_eq_some_iff.mp H
  obtain ⟨t477, A60, H⟩ := H
  replace H : ((spec_l2Digits.f k a0_4).bind fun t478 => (if 1 + t478.size ≤ 9223372036854775807 then (if a0_0 = 1 then (if 3 + t475.size ≤ 9223372036854775807 then (if ((⟨#[115, 101, 116]⟩ : ByteArray) ++ t475).size + ((⟨#[32]⟩ : ByteArray) ++ t478).size ≤ 9223372036854775807 then (some (((⟨#[115, 101, 116]⟩ : ByteArray) ++ t475) ++ ((⟨#[32]⟩ : ByteArray) ++ t478))) else (none)) else (none)) else (if a0_0 = 2 then (if 3 + t475.size ≤ 9223372036854775807 then (if ((⟨#[97, 100, 100]⟩ : ByteArray) ++ t475).size + t476.size ≤ 9223372036854775807 then (if (((⟨#[97, 100, 100]⟩ : ByteArray) ++ t475) ++ t476).size + t477.size ≤ 9223372036854775807 then (some ((((⟨#[97, 100, 100]⟩ : ByteArray) ++ t475) ++ t476) ++ t477)) else (none)) else (none)) else (none)) else (if a0_0 = 3 then (if 3 + t475.size ≤ 9223372036854775807 then (if ((⟨#[115, 117, 98]⟩ : ByteArray) ++ t475).size + t476.size ≤ 9223372036854775807 then (if (((⟨#[115, 117, 98]⟩ : ByteArray) ++ t475) ++ t476).size + t477.size ≤ 9223372036854775807 then (some ((((⟨#[115, 117, 98]⟩ : ByteArray) ++ t475) ++ t476) ++ t477)) else (none)) else (none)) else (none)) else (if a0_0 = 4 then (if 4 + t475.size ≤ 9223372036854775807 then (if ((⟨#[108, 101, 115, 115]⟩ : ByteArray) ++ t475).size + t476.size ≤ 9223372036854775807 then (if (((⟨#[108, 101, 115, 115]⟩ : ByteArray) ++ t475) ++ t476).size + t477.size ≤ 9223372036854775807 then (some ((((⟨#[108, 101, 115, 115]⟩ : ByteArray) ++ t475) ++ t476) ++ t477)) else (none)) else (none)) else (none)) else (if a0_0 = 5 then (if 4 + t475.size ≤ 9223372036854775807 then ((spec_l16Cell.f k a0_0 a0_1 a0_2 a0_3 a0_4).bind fun t479 => (if ((⟨#[108, 111, 97, 100]⟩ : ByteArray) ++ t475).size + t479.size ≤ 9223372036854775807 then (some (((⟨#[108, 111, 97, 100]⟩ : ByteArray) ++ t475) ++ t479)) else (none))) else (none)) else (if a0_0 = 6 then ((spec_l16Cell.f k a0_0 a0_1 a0_2 a0_3 a0_4).bind fun t480 => (if 5 + t480.size ≤ 9223372036854775807 then (if ((⟨#[115, 116, 111, 114, 101]⟩ : ByteArray) ++ t480).size + t477.size ≤ 9223372036854775807 then (some (((⟨#[115, 116, 111, 114, 101]⟩ : ByteArray) ++ t480) ++ t477)) else (none)) else (none))) else (if a0_0 = 7 then ((spec_l16Cell.f k a0_0 a0_1 a0_2 a0_3 a0_4).bind fun t481 => (if 3 + t481.size ≤ 9223372036854775807 then (if ((⟨#[108, 101, 116]⟩ : ByteArray) ++ t481).size + t477.size ≤ 9223372036854775807 then (some (((⟨#[108, 101, 116]⟩ : ByteArray) ++ t481) ++ t477)) else (none)) else (none))) else (if a0_0 = 8 then (if 4 + t475.size ≤ 9223372036854775807 then ((spec_l16Cell.f k a0_0 a0_1 a0_2 a0_3 a0_4).bind fun t482 => (if ((⟨#[115, 119, 97, 112]⟩ : ByteArray) ++ t475).size + t482.size ≤ 9223372036854775807 then (if (((⟨#[115, 119, 97, 112]⟩ : ByteArray) ++ t475) ++ t482).size + t477.size ≤ 9223372036854775807 then (some ((((⟨#[115, 119, 97, 112]⟩ : ByteArray) ++ t475) ++ t482) ++ t477)) else (none)) else (none))) else (none)) else (if a0_0 = 9 then (if 5 + t476.size ≤ 9223372036854775807 then (some ((⟨#[112, 114, 105, 110, 116]⟩ : ByteArray) ++ t476)) else (none)) else (if a0_0 = 10 then (if 4 + ((⟨#[32]⟩ : ByteArray) ++ t478).size ≤ 9223372036854775807 then (some ((⟨#[106, 117, 109, 112]⟩ : ByteArray) ++ ((⟨#[32]⟩ : ByteArray) ++ t478))) else (none)) else (if a0_0 = 11 then (if 4 + t476.size ≤ 9223372036854775807 then (if ((⟨#[122, 101, 114, 111]⟩ : ByteArray) ++ t476).size + ((⟨#[32]⟩ : ByteArray) ++ t478).size ≤ 9223372036854775807 then (some (((⟨#[122, 101, 114, 111]⟩ : ByteArray) ++ t476) ++ ((⟨#[32]⟩ : ByteArray) ++ t478))) else (none)) else (none)) else (if a0_0 = 12 then (some (⟨#[101, 110, 100]⟩ : ByteArray)) else (some (⟨#[102, 97, 117, 108, 116]⟩ : ByteArray)))))))))))))) else (none))) = some r := H
  have A6 := aM_ A60
  clear A60
  replace H := Option.bind_eq_some_iff.mp H
  obtain ⟨t478, A70, H⟩ := H
  replace H : (if 1 + t478.size ≤ 9223372036854775807 then (if a0_0 = 1 then (if 3 + t475.size ≤ 9223372036854775807 then (if ((⟨#[115, 101, 116]⟩ : ByteArray) ++ t475).size + ((⟨#[32]⟩ : ByteArray) ++ t478).size ≤ 9223372036854775807 then (some (((⟨#[115, 101, 116]⟩ : ByteArray) ++ t475) ++ ((⟨#[32]⟩ : ByteArray) ++ t478))) else (none)) else (none)) else (if a0_0 = 2 then (if 3 + t475.size ≤ 9223372036854775807 then (if ((⟨#[97, 100, 100]⟩ : ByteArray) ++ t475).size + t476.size ≤ 9223372036854775807 then (if (((⟨#[97, 100, 100]⟩ : ByteArray) ++ t475) ++ t476).size + t477.size ≤ 9223372036854775807 then (some ((((⟨#[97, 100, 100]⟩ : ByteArray) ++ t475) ++ t476) ++ t477)) else (none)) else (none)) else (none)) else (if a0_0 = 3 then (if 3 + t475.size ≤ 9223372036854775807 then (if ((⟨#[115, 117, 98]⟩ : ByteArray) ++ t475).size + t476.size ≤ 9223372036854775807 then (if (((⟨#[115, 117, 98]⟩ : ByteArray) ++ t475) ++ t476).size + t477.size ≤ 9223372036854775807 then (some ((((⟨#[115, 117, 98]⟩ : ByteArray) ++ t475) ++ t476) ++ t477)) else (none)) else (none)) else (none)) else (if a0_0 = 4 then (if 4 + t475.size ≤ 9223372036854775807 then (if ((⟨#[108, 101, 115, 115]⟩ : ByteArray) ++ t475).size + t476.size ≤ 9223372036854775807 then (if (((⟨#[108, 101, 115, 115]⟩ : ByteArray) ++ t475) ++ t476).size + t477.size ≤ 9223372036854775807 then (some ((((⟨#[108, 101, 115, 115]⟩ : ByteArray) ++ t475) ++ t476) ++ t477)) else (none)) else (none)) else (none)) else (if a0_0 = 5 then (if 4 + t475.size ≤ 9223372036854775807 then ((spec_l16Cell.f k a0_0 a0_1 a0_2 a0_3 a0_4).bind fun t479 => (if ((⟨#[108, 111, 97, 100]⟩ : ByteArray) ++ t475).size + t479.size ≤ 9223372036854775807 then (some (((⟨#[108, 111, 97, 100]⟩ : ByteArray) ++ t475) ++ t479)) else (none))) else (none)) else (if a0_0 = 6 then ((spec_l16Cell.f k a0_0 a0_1 a0_2 a0_3 a0_4).bind fun t480 => (if 5 + t480.size ≤ 9223372036854775807 then (if ((⟨#[115, 116, 111, 114, 101]⟩ : ByteArray) ++ t480).size + t477.size ≤ 9223372036854775807 then (some (((⟨#[115, 116, 111, 114, 101]⟩ : ByteArray) ++ t480) ++ t477)) else (none)) else (none))) else (if a0_0 = 7 then ((spec_l16Cell.f k a0_0 a0_1 a0_2 a0_3 a0_4).bind fun t481 => (if 3 + t481.size ≤ 9223372036854775807 then (if ((⟨#[108, 101, 116]⟩ : ByteArray) ++ t481).size + t477.size ≤ 9223372036854775807 then (some (((⟨#[108, 101, 116]⟩ : ByteArray) ++ t481) ++ t477)) else (none)) else (none))) else (if a0_0 = 8 then (if 4 + t475.size ≤ 9223372036854775807 then ((spec_l16Cell.f k a0_0 a0_1 a0_2 a0_3 a0_4).bind fun t482 => (if ((⟨#[115, 119, 97, 112]⟩ : ByteArray) ++ t475).size + t482.size ≤ 9223372036854775807 then (if (((⟨#[115, 119, 97, 112]⟩ : ByteArray) ++ t475) ++ t482).size + t477.size ≤ 9223372036854775807 then (some ((((⟨#[115, 119, 97, 112]⟩ : ByteArray) ++ t475) ++ t482) ++ t477)) else (none)) else (none))) else (none)) else (if a0_0 = 9 then (if 5 + t476.size ≤ 9223372036854775807 then (some ((⟨#[112, 114, 105, 110, 116]⟩ : ByteArray) ++ t476)) else (none)) else (if a0_0 = 10 then (if 4 + ((⟨#[32]⟩ : ByteArray) ++ t478).size ≤ 9223372036854775807 then (some ((⟨#[106, 117, 109, 112]⟩ : ByteArray) ++ ((⟨#[32]⟩ : ByteArray) ++ t478))) else (none)) else (if a0_0 = 11 then (if 4 + t476.size ≤ 9223372036854775807 then (if ((⟨#[122, 101, 114, 111]⟩ : ByteArray) ++ t476).size + ((⟨#[32]⟩ : ByteArray) ++ t478).size ≤ 9223372036854775807 then (some (((⟨#[122, 101, 114, 111]⟩ : ByteArray) ++ t476) ++ ((⟨#[32]⟩ : ByteArray) ++ t478))) else (none)) else (none)) else (if a0_0 = 12 then (some (⟨#[101, 110, 100]⟩ : ByteArray)) else (some (⟨#[102, 97, 117, 108, 116]⟩ : ByteArray)))))))))))))) else (none)) = some r := H
  have A7 := aM_ A70
  clear A70
  by_cases c8 : 1 + t478.size ≤ 9223372036854775807
  ·rw [if_pos c8] at H
   have c8b0 := eq_true c8
   have c8b1 : decide (1 + t478.size ≤ 9223372036854775807) = true := decide_eq_true c8
   try have c8b2 : (9223372036854775807 < 1 + t478.size) = False := eq_false (Nat.not_lt.2 c8)
   by_cases c9 : a0_0 = 1
   ·rw [if_pos c9] at H
    have c9b0 : (a0_0 == 1) = true := beq_iff_eq.mpr c9
    have c9b1 : (a0_0 != 1) = false := bne_eq_false_iff_eq.mpr c9
    clear c9
    by_cases c10 : 3 + t475.size ≤ 9223372036854775807
    ·rw [if_pos c10] at H
     have c10b0 := eq_true c10
     have c10b1 : decide (3 + t475.size ≤ 9223372036854775807) = true := decide_eq_true c10
     try have c10b2 : (9223372036854775807 < 3 + t475.size) = False := eq_false (Nat.not_lt.2 c10)
     by_cases c11 : ((⟨#[115, 101, 116]⟩ : ByteArray) ++ t475).size + ((⟨#[32]⟩ : ByteArray) ++ t478).size ≤ 9223372036854775807
     ·rw [if_pos c11] at H
      have c11b0 := eq_true c11
      have c11b1 : decide (((⟨#[115, 101, 116]⟩ : ByteArray) ++ t475).size + ((⟨#[32]⟩ : ByteArray) ++ t478).size ≤ 9223372036854775807) = true := decide_eq_true c11
      (try (have c11n := c11; simp only [ByteArray.size_append, Tab.sz_mk, List.size_toArray, List.length_cons, List.length_nil, Nat.zero_add, Nat.reduceAdd] at c11n; have c11b4 := eq_true c11n; have c11b5 := eq_false (Nat.not_lt.2 c11n)))
      try have c11b2 : (9223372036854775807 < ((⟨#[115, 101, 116]⟩ : ByteArray) ++ t475).size + ((⟨#[32]⟩ : ByteArray) ++ t478).size) = False := eq_false (Nat.not_lt.2 c11)
      obtain rfl := Option.some.inj H
      go_enter Tryd.func15, Tryd.ntmps15
      try go_wp2_with (first | ((with_reducible refine gate_dst (N := 1) rfl ?_); refine bX_ 1 (cs := #[.int .i64 a0_0, .int .i64 a0_1, .int .i64 a0_2, .int .i64 a0_3, .int .i64 a0_4]) (t := 25) ?_; intro gb473 hg w12 hbox hb; have n0 := aM_ (sT_ HB.out hb); have n1 := aM_ (hbox); have n2 := aM_ (sZ_ hg HB.out); have n3 := aM_ (sZ_ hg HB.out); clear HB; have HB := n0; have BK473 := n1; have GW473 := n2; have GE473 := n3; clear n0 n1 n2 n3; clear hb hbox hg; obtain ⟨hcz13_0, hcz13_1, hcz13_2, hcz13_3, hcz13_4, hfz13_0, hfz13_1, hfz13_2, hfz13_3, hfz13_4⟩ := bR5_ BK473.out) | ((with_reducible refine gate_callee (f := 45) rfl ?_); refine gL_ (some 8) Tryd.func45 #[.agg #[.int .i64 a0_0, .int .i64 a0_1, .int .i64 a0_2, .int .i64 a0_3, .int .i64 a0_4], .int .i64 800] ?_; (with_reducible refine (spec_StepOk.calls k a0_0 a0_1 a0_2 a0_3 a0_4 800 true _ A2.out).mono ?_); rintro e w14 ⟨rfl, hb⟩; refine ⟨_, rfl, ?_⟩; have n0 := aM_ (nB_ BK473.out hb); have n1 := aM_ (sT_ HB.out hb); clear BK473; clear HB; have BK473 := n0; have HB := n1; clear n0 n1))
      (all_goals try (exfalso; have e1_ : (⟨#[32]⟩ : ByteArray).size = 1 := rfl; have e2_ : (⟨#[10]⟩ : ByteArray).size = 1 := rfl; simp only [ByteArray.size_append] at c11; omega))
      have n0 := aM_ (blk_drew BK473.out)
      have n1 := aM_ (below_drew1 HB.out)
      clear BK473
      clear HB
      have BK473 := n0
      have HB := n1
      clear n0 n1
      refine start_ (n := 17) (S := fun w' => w'.cell? ⟨gb473, 0, none⟩ = some (.int .i64 a0_0) ∧ w'.cell? ⟨gb473, 1, none⟩ = some (.int .i64 a0_1) ∧ w'.cell? ⟨gb473, 2, none⟩ = some (.int .i64 a0_2) ∧ w'.cell? ⟨gb473, 3, none⟩ = some (.int .i64 a0_3) ∧ w'.cell? ⟨gb473, 4, none⟩ = some (.int .i64 a0_4)) (ds := []) (mk_ 17 0) (by kernel_rfl) rfl rfl (bC5_ BK473.out) (fun hHeld => ?_); refine with_tabW spec_StepText.tab3 spec_StepText.bits3 (fun HT_ HW_ => ?_)
      generalize w14.drew = w15 at BK473 HB hHeld ⊢
      refine pU_ 0 (some 10) (mk_ 17 1) ?_
      refine pU_ 3 (some 13) (mk_ 17 9) ?_
      refine pU_ 6 (some 16) (mk_ 17 73) ?_
      refine pU_ 9 (some 19) (mk_ 17 585) ?_
      refine tK5_ 1 (some 11) (mk_ 17 587) ?_
      refine tK5_ 4 (some 14) (mk_ 17 603) ?_
      refine tK5_ 7 (some 17) (mk_ 17 731) ?_
      refine tK5_ 10 (some 20) (mk_ 17 1755) ?_
      refine oN_ 2 (some 12) (mk_ 17 1759) (fun K hK => ?_)
      refine gO_ Tryd.func46 #[.int .i64 a0_1] ?_
      with_reducible refine (spec_l16R.calls k a0_1 t475 _ A4.out).mono ?_
      rintro e w16 ⟨rfl, hb⟩
      refine ⟨_, rfl, ?_⟩
      have n0 := aM_ (nB_ BK473.out hb)
      have n1 := aM_ (sT_ HB.out hb)
      clear BK473
      clear HB
      have BK473 := n0
      have HB := n1
      clear n0 n1
      (try clear hb)
      (try clear hb2)
      (try clear hk)
      (try clear hi)
      refine hK.out _ _ (bC5_ BK473.out) (fun hHeld => ?_)
      clear hK K
      refine norm_ (a' := ?_) ?_ ?_
      rotate_left
      ·show Act.put _ (some 12) _ = _
       simp only [pt_, pn_, sI_, s0_, s1_, i64_w, i32_w]
       rfl
      refine oN_ 5 (some 15) (mk_ 17 1791) (fun K hK => ?_)
      refine gO_ Tryd.func46 #[.int .i64 a0_2] ?_
      with_reducible refine (spec_l16R.calls k a0_2 t476 _ A5.out).mono ?_
      rintro e w17 ⟨rfl, hb⟩
      refine ⟨_, rfl, ?_⟩
      have n0 := aM_ (nB_ BK473.out hb)
      have n1 := aM_ (sT_ HB.out hb)
      clear BK473
      clear HB
      have BK473 := n0
      have HB := n1
      clear n0 n1
      (try clear hb)
      (try clear hb2)
      (try clear hk)
      (try clear hi)
      refine hK.out _ _ (bC5_ BK473.out) (fun hHeld => ?_)
      clear hK K
      refine norm_ (a' := ?_) ?_ ?_
      rotate_left
      ·show Act.put _ (some 15) _ = _
       simp only [pt_, pn_, sI_, s0_, s1_, i64_w, i32_w]
       rfl
      refine oN_ 8 (some 18) (mk_ 17 2047) (fun K hK => ?_)
      refine gO_ Tryd.func46 #[.int .i64 a0_3] ?_
      with_reducible refine (spec_l16R.calls k a0_3 t477 _ A6.out).mono ?_
      rintro e w18 ⟨rfl, hb⟩
      refine ⟨_, rfl, ?_⟩
      have n0 := aM_ (nB_ BK473.out hb)
      have n1 := aM_ (sT_ HB.out hb)
      clear BK473
      clear HB
      have BK473 := n0
      have HB := n1
      clear n0 n1
      (try clear hb)
      (try clear hb2)
      (try clear hk)
      (try clear hi)
      refine hK.out _ _ (bC5_ BK473.out) (fun hHeld => ?_)
      clear hK K
      refine norm_ (a' := ?_) ?_ ?_
      rotate_left
      ·show Act.put _ (some 18) _ = _
       simp only [pt_, pn_, sI_, s0_, s1_, i64_w, i32_w]
       rfl
      refine oN_ 11 (some 21) (mk_ 17 4095) (fun K hK => ?_)
      refine gO_ Tryd.func47 #[.int .i64 a0_4] ?_
      with_reducible refine (spec_l2Digits.calls k a0_4 t478 _ A7.out).mono ?_
      rintro e w19 ⟨rfl, hb⟩
      refine ⟨_, rfl, ?_⟩
      have n0 := aM_ (nB_ BK473.out hb)
      have n1 := aM_ (sT_ HB.out hb)
      clear BK473
      clear HB
      have BK473 := n0
      have HB := n1
      clear n0 n1
      (try clear hb)
      (try clear hb2)
      (try clear hk)
      (try clear hi)
      refine hK.out _ _ (bC5_ BK473.out) (fun hHeld => ?_)
      clear hK K
      refine norm_ (a' := ?_) ?_ ?_
      rotate_left
      ·show Act.put _ (some 21) _ = _
       simp only [pt_, pn_, sI_, s0_, s1_, i64_w, i32_w]
       rfl
      refine pU_ 12 (some 22) (mk_ 17 8191) ?_
      refine pU_ 13 (some 3) (mk_ 17 16383) ?_
      refine pU_ 14 (some 4) (mk_ 17 32767) ?_
      refine pU_ 15 (some 5) (mk_ 17 65535) ?_
      refine pU_ 16 (some 6) (mk_ 17 131071) ?_
      refine done_ (done_of HT_.out (by kernel_rfl)) ?_
      obtain ⟨hcz20_0, hcz20_1, hcz20_2, hcz20_3, hcz20_4, hfz20_0, hfz20_1, hfz20_2, hfz20_3, hfz20_4⟩ := bR5_ BK473.out
      try go_wp2
      go_ret
      exact fI_ HB.out
     ·rw [if_neg c11] at H
      exact absurd H (by simp)
    ·rw [if_neg c10] at H
     exact absurd H (by simp)
   ·rw [if_neg c9] at H
    have c9b0 : (a0_0 == 1) = false := beq_eq_false_iff_ne.mpr c9
    have c9b1 : (a0_0 != 1) = true := bne_iff_ne.mpr c9
    by_cases c21 : a0_0 = 2
    ·rw [if_pos c21] at H
     have c21b0 : (a0_0 == 2) = true := beq_iff_eq.mpr c21
     have c21b1 : (a0_0 != 2) = false := bne_eq_false_iff_eq.mpr c21
     clear c21
     by_cases c22 : 3 + t475.size ≤ 9223372036854775807
     ·rw [if_pos c22] at H
      have c22b0 := eq_true c22
      have c22b1 : decide (3 + t475.size ≤ 9223372036854775807) = true := decide_eq_true c22
      try have c22b2 : (9223372036854775807 < 3 + t475.size) = False := eq_false (Nat.not_lt.2 c22)
      by_cases c23 : ((⟨#[97, 100, 100]⟩ : ByteArray) ++ t475).size + t476.size ≤ 9223372036854775807
      ·rw [if_pos c23] at H
       have c23b0 := eq_true c23
       have c23b1 : decide (((⟨#[97, 100, 100]⟩ : ByteArray) ++ t475).size + t476.size ≤ 9223372036854775807) = true := decide_eq_true c23
       (try (have c23n := c23; simp only [ByteArray.size_append, Tab.sz_mk, List.size_toArray, List.length_cons, List.length_nil, Nat.zero_add, Nat.reduceAdd] at c23n; have c23b4 := eq_true c23n; have c23b5 := eq_false (Nat.not_lt.2 c23n)))
       try have c23b2 : (9223372036854775807 < ((⟨#[97, 100, 100]⟩ : ByteArray) ++ t475).size + t476.size) = False := eq_false (Nat.not_lt.2 c23)
       by_cases c24 : (((⟨#[97, 100, 100]⟩ : ByteArray) ++ t475) ++ t476).size + t477.size ≤ 9223372036854775807
       ·rw [if_pos c24] at H
        have c24b0 := eq_true c24
        have c24b1 : decide ((((⟨#[97, 100, 100]⟩ : ByteArray) ++ t475) ++ t476).size + t477.size ≤ 9223372036854775807) = true := decide_eq_true c24
        (try (have c24n := c24; simp only [ByteArray.size_append, Tab.sz_mk, List.size_toArray, List.length_cons, List.length_nil, Nat.zero_add, Nat.reduceAdd] at c24n; have c24b4 := eq_true c24n; have c24b5 := eq_false (Nat.not_lt.2 c24n)))
        try have c24b2 : (9223372036854775807 < (((⟨#[97, 100, 100]⟩ : ByteArray) ++ t475) ++ t476).size + t477.size) = False := eq_false (Nat.not_lt.2 c24)
        obtain rfl := Option.some.inj H
        go_enter Tryd.func15, Tryd.ntmps15
        try go_wp2_with (first | ((with_reducible refine gate_dst (N := 1) rfl ?_); refine bX_ 1 (cs := #[.int .i64 a0_0, .int .i64 a0_1, .int .i64 a0_2, .int .i64 a0_3, .int .i64 a0_4]) (t := 25) ?_; intro gb473 hg w25 hbox hb; have n0 := aM_ (sT_ HB.out hb); have n1 := aM_ (hbox); have n2 := aM_ (sZ_ hg HB.out); have n3 := aM_ (sZ_ hg HB.out); clear HB; have HB := n0; have BK473 := n1; have GW473 := n2; have GE473 := n3; clear n0 n1 n2 n3; clear hb hbox hg; obtain ⟨hcz26_0, hcz26_1, hcz26_2, hcz26_3, hcz26_4, hfz26_0, hfz26_1, hfz26_2, hfz26_3, hfz26_4⟩ := bR5_ BK473.out) | ((with_reducible refine gate_callee (f := 45) rfl ?_); refine gL_ (some 8) Tryd.func45 #[.agg #[.int .i64 a0_0, .int .i64 a0_1, .int .i64 a0_2, .int .i64 a0_3, .int .i64 a0_4], .int .i64 800] ?_; (with_reducible refine (spec_StepOk.calls k a0_0 a0_1 a0_2 a0_3 a0_4 800 true _ A2.out).mono ?_); rintro e w27 ⟨rfl, hb⟩; refine ⟨_, rfl, ?_⟩; have n0 := aM_ (nB_ BK473.out hb); have n1 := aM_ (sT_ HB.out hb); clear BK473; clear HB; have BK473 := n0; have HB := n1; clear n0 n1))
        (all_goals try (exfalso; have e1_ : (⟨#[32]⟩ : ByteArray).size = 1 := rfl; have e2_ : (⟨#[10]⟩ : ByteArray).size = 1 := rfl; simp only [ByteArray.size_append] at c23; omega))
        (all_goals try (exfalso; have e1_ : (⟨#[32]⟩ : ByteArray).size = 1 := rfl; have e2_ : (⟨#[10]⟩ : ByteArray).size = 1 := rfl; simp only [ByteArray.size_append] at c24; omega))
        have n0 := aM_ (blk_drew BK473.out)
        have n1 := aM_ (below_drew1 HB.out)
        clear BK473
        clear HB
        have BK473 := n0
        have HB := n1
        clear n0 n1
        refine start_ (n := 17) (S := fun w' => w'.cell? ⟨gb473, 0, none⟩ = some (.int .i64 a0_0) ∧ w'.cell? ⟨gb473, 1, none⟩ = some (.int .i64 a0_1) ∧ w'.cell? ⟨gb473, 2, none⟩ = some (.int .i64 a0_2) ∧ w'.cell? ⟨gb473, 3, none⟩ = some (.int .i64 a0_3) ∧ w'.cell? ⟨gb473, 4, none⟩ = some (.int .i64 a0_4)) (ds := []) (mk_ 17 0) (by kernel_rfl) rfl rfl (bC5_ BK473.out) (fun hHeld => ?_); refine with_tabW spec_StepText.tab3 spec_StepText.bits3 (fun HT_ HW_ => ?_)
        generalize w27.drew = w28 at BK473 HB hHeld ⊢
        refine pU_ 0 (some 10) (mk_ 17 1) ?_
        refine pU_ 3 (some 13) (mk_ 17 9) ?_
        refine pU_ 6 (some 16) (mk_ 17 73) ?_
        refine pU_ 9 (some 19) (mk_ 17 585) ?_
        refine tK5_ 1 (some 11) (mk_ 17 587) ?_
        refine tK5_ 4 (some 14) (mk_ 17 603) ?_
        refine tK5_ 7 (some 17) (mk_ 17 731) ?_
        refine tK5_ 10 (some 20) (mk_ 17 1755) ?_
        refine oN_ 2 (some 12) (mk_ 17 1759) (fun K hK => ?_)
        refine gO_ Tryd.func46 #[.int .i64 a0_1] ?_
        with_reducible refine (spec_l16R.calls k a0_1 t475 _ A4.out).mono ?_
        rintro e w29 ⟨rfl, hb⟩
        refine ⟨_, rfl, ?_⟩
        have n0 := aM_ (nB_ BK473.out hb)
        have n1 := aM_ (sT_ HB.out hb)
        clear BK473
        clear HB
        have BK473 := n0
        have HB := n1
        clear n0 n1
        (try clear hb)
        (try clear hb2)
        (try clear hk)
        (try clear hi)
        refine hK.out _ _ (bC5_ BK473.out) (fun hHeld => ?_)
        clear hK K
        refine norm_ (a' := ?_) ?_ ?_
        rotate_left
        ·show Act.put _ (some 12) _ = _
         simp only [pt_, pn_, sI_, s0_, s1_, i64_w, i32_w]
         rfl
        refine oN_ 5 (some 15) (mk_ 17 1791) (fun K hK => ?_)
        refine gO_ Tryd.func46 #[.int .i64 a0_2] ?_
        with_reducible refine (spec_l16R.calls k a0_2 t476 _ A5.out).mono ?_
        rintro e w30 ⟨rfl, hb⟩
        refine ⟨_, rfl, ?_⟩
        have n0 := aM_ (nB_ BK473.out hb)
        have n1 := aM_ (sT_ HB.out hb)
        clear BK473
        clear HB
        have BK473 := n0
        have HB := n1
        clear n0 n1
        (try clear hb)
        (try clear hb2)
        (try clear hk)
        (try clear hi)
        refine hK.out _ _ (bC5_ BK473.out) (fun hHeld => ?_)
        clear hK K
        refine norm_ (a' := ?_) ?_ ?_
        rotate_left
        ·show Act.put _ (some 15) _ = _
         simp only [pt_, pn_, sI_, s0_, s1_, i64_w, i32_w]
         rfl
        refine oN_ 8 (some 18) (mk_ 17 2047) (fun K hK => ?_)
        refine gO_ Tryd.func46 #[.int .i64 a0_3] ?_
        with_reducible refine (spec_l16R.calls k a0_3 t477 _ A6.out).mono ?_
        rintro e w31 ⟨rfl, hb⟩
        refine ⟨_, rfl, ?_⟩
        have n0 := aM_ (nB_ BK473.out hb)
        have n1 := aM_ (sT_ HB.out hb)
        clear BK473
        clear HB
        have BK473 := n0
        have HB := n1
        clear n0 n1
        (try clear hb)
        (try clear hb2)
        (try clear hk)
        (try clear hi)
        refine hK.out _ _ (bC5_ BK473.out) (fun hHeld => ?_)
        clear hK K
        refine norm_ (a' := ?_) ?_ ?_
        rotate_left
        ·show Act.put _ (some 18) _ = _
         simp only [pt_, pn_, sI_, s0_, s1_, i64_w, i32_w]
         rfl
        refine oN_ 11 (some 21) (mk_ 17 4095) (fun K hK => ?_)
        refine gO_ Tryd.func47 #[.int .i64 a0_4] ?_
        with_reducible refine (spec_l2Digits.calls k a0_4 t478 _ A7.out).mono ?_
        rintro e w32 ⟨rfl, hb⟩
        refine ⟨_, rfl, ?_⟩
        have n0 := aM_ (nB_ BK473.out hb)
        have n1 := aM_ (sT_ HB.out hb)
        clear BK473
        clear HB
        have BK473 := n0
        have HB := n1
        clear n0 n1
        (try clear hb)
        (try clear hb2)
        (try clear hk)
        (try clear hi)
        refine hK.out _ _ (bC5_ BK473.out) (fun hHeld => ?_)
        clear hK K
        refine norm_ (a' := ?_) ?_ ?_
        rotate_left
        ·show Act.put _ (some 21) _ = _
         simp only [pt_, pn_, sI_, s0_, s1_, i64_w, i32_w]
         rfl
        refine pU_ 12 (some 22) (mk_ 17 8191) ?_
        refine pU_ 13 (some 3) (mk_ 17 16383) ?_
        refine pU_ 14 (some 4) (mk_ 17 32767) ?_
        refine pU_ 15 (some 5) (mk_ 17 65535) ?_
        refine pU_ 16 (some 6) (mk_ 17 131071) ?_
        refine done_ (done_of HT_.out (by kernel_rfl)) ?_
        obtain ⟨hcz33_0, hcz33_1, hcz33_2, hcz33_3, hcz33_4, hfz33_0, hfz33_1, hfz33_2, hfz33_3, hfz33_4⟩ := bR5_ BK473.out
        try go_wp2
        go_ret
        exact fI_ HB.out
       ·rw [if_neg c24] at H
        exact absurd H (by simp)
      ·rw [if_neg c23] at H
       exact absurd H (by simp)
     ·rw [if_neg c22] at H
      exact absurd H (by simp)
    ·rw [if_neg c21] at H
     have c21b0 : (a0_0 == 2) = false := beq_eq_false_iff_ne.mpr c21
     have c21b1 : (a0_0 != 2) = true := bne_iff_ne.mpr c21
     by_cases c34 : a0_0 = 3
     ·rw [if_pos c34] at H
      have c34b0 : (a0_0 == 3) = true := beq_iff_eq.mpr c34
      have c34b1 : (a0_0 != 3) = false := bne_eq_false_iff_eq.mpr c34
      clear c34
      by_cases c35 : 3 + t475.size ≤ 9223372036854775807
      ·rw [if_pos c35] at H
       have c35b0 := eq_true c35
       have c35b1 : decide (3 + t475.size ≤ 9223372036854775807) = true := decide_eq_true c35
       try have c35b2 : (9223372036854775807 < 3 + t475.size) = False := eq_false (Nat.not_lt.2 c35)
       by_cases c36 : ((⟨#[115, 117, 98]⟩ : ByteArray) ++ t475).size + t476.size ≤ 9223372036854775807
       ·rw [if_pos c36] at H
        have c36b0 := eq_true c36
        have c36b1 : decide (((⟨#[115, 117, 98]⟩ : ByteArray) ++ t475).size + t476.size ≤ 9223372036854775807) = true := decide_eq_true c36
        (try (have c36n := c36; simp only [ByteArray.size_append, Tab.sz_mk, List.size_toArray, List.length_cons, List.length_nil, Nat.zero_add, Nat.reduceAdd] at c36n; have c36b4 := eq_true c36n; have c36b5 := eq_false (Nat.not_lt.2 c36n)))
        try have c36b2 : (9223372036854775807 < ((⟨#[115, 117, 98]⟩ : ByteArray) ++ t475).size + t476.size) = False := eq_false (Nat.not_lt.2 c36)
        by_cases c37 : (((⟨#[115, 117, 98]⟩ : ByteArray) ++ t475) ++ t476).size + t477.size ≤ 9223372036854775807
        ·rw [if_pos c37] at H
         have c37b0 := eq_true c37
         have c37b1 : decide ((((⟨#[115, 117, 98]⟩ : ByteArray) ++ t475) ++ t476).size + t477.size ≤ 9223372036854775807) = true := decide_eq_true c37
         (try (have c37n := c37; simp only [ByteArray.size_append, Tab.sz_mk, List.size_toArray, List.length_cons, List.length_nil, Nat.zero_add, Nat.reduceAdd] at c37n; have c37b4 := eq_true c37n; have c37b5 := eq_false (Nat.not_lt.2 c37n)))
         try have c37b2 : (9223372036854775807 < (((⟨#[115, 117, 98]⟩ : ByteArray) ++ t475) ++ t476).size + t477.size) = False := eq_false (Nat.not_lt.2 c37)
         obtain rfl := Option.some.inj H
         go_enter Tryd.func15, Tryd.ntmps15
         try go_wp2_with (first | ((with_reducible refine gate_dst (N := 1) rfl ?_); refine bX_ 1 (cs := #[.int .i64 a0_0, .int .i64 a0_1, .int .i64 a0_2, .int .i64 a0_3, .int .i64 a0_4]) (t := 25) ?_; intro gb473 hg w38 hbox hb; have n0 := aM_ (sT_ HB.out hb); have n1 := aM_ (hbox); have n2 := aM_ (sZ_ hg HB.out); have n3 := aM_ (sZ_ hg HB.out); clear HB; have HB := n0; have BK473 := n1; have GW473 := n2; have GE473 := n3; clear n0 n1 n2 n3; clear hb hbox hg; obtain ⟨hcz39_0, hcz39_1, hcz39_2, hcz39_3, hcz39_4, hfz39_0, hfz39_1, hfz39_2, hfz39_3, hfz39_4⟩ := bR5_ BK473.out) | ((with_reducible refine gate_callee (f := 45) rfl ?_); refine gL_ (some 8) Tryd.func45 #[.agg #[.int .i64 a0_0, .int .i64 a0_1, .int .i64 a0_2, .int .i64 a0_3, .int .i64 a0_4], .int .i64 800] ?_; (with_reducible refine (spec_StepOk.calls k a0_0 a0_1 a0_2 a0_3 a0_4 800 true _ A2.out).mono ?_); rintro e w40 ⟨rfl, hb⟩; refine ⟨_, rfl, ?_⟩; have n0 := aM_ (nB_ BK473.out hb); have n1 := aM_ (sT_ HB.out hb); clear BK473; clear HB; have BK473 := n0; have HB := n1; clear n0 n1))
         (all_goals try (exfalso; have e1_ : (⟨#[32]⟩ : ByteArray).size = 1 := rfl; have e2_ : (⟨#[10]⟩ : ByteArray).size = 1 := rfl; simp only [ByteArray.size_append] at c36; omega))
         (all_goals try (exfalso; have e1_ : (⟨#[32]⟩ : ByteArray).size = 1 := rfl; have e2_ : (⟨#[10]⟩ : ByteArray).size = 1 := rfl; simp only [ByteArray.size_append] at c37; omega))
         have n0 := aM_ (blk_drew BK473.out)
         have n1 := aM_ (below_drew1 HB.out)
         clear BK473
         clear HB
         have BK473 := n0
         have HB := n1
         clear n0 n1
         refine start_ (n := 17) (S := fun w' => w'.cell? ⟨gb473, 0, none⟩ = some (.int .i64 a0_0) ∧ w'.cell? ⟨gb473, 1, none⟩ = some (.int .i64 a0_1) ∧ w'.cell? ⟨gb473, 2, none⟩ = some (.int .i64 a0_2) ∧ w'.cell? ⟨gb473, 3, none⟩ = some (.int .i64 a0_3) ∧ w'.cell? ⟨gb473, 4, none⟩ = some (.int .i64 a0_4)) (ds := []) (mk_ 17 0) (by kernel_rfl) rfl rfl (bC5_ BK473.out) (fun hHeld => ?_); refine with_tabW spec_StepText.tab3 spec_StepText.bits3 (fun HT_ HW_ => ?_)
         generalize w40.drew = w41 at BK473 HB hHeld ⊢
         refine pU_ 0 (some 10) (mk_ 17 1) ?_
         refine pU_ 3 (some 13) (mk_ 17 9) ?_
         refine pU_ 6 (some 16) (mk_ 17 73) ?_
         refine pU_ 9 (some 19) (mk_ 17 585) ?_
         refine tK5_ 1 (some 11) (mk_ 17 587) ?_
         refine tK5_ 4 (some 14) (mk_ 17 603) ?_
         refine tK5_ 7 (some 17) (mk_ 17 731) ?_
         refine tK5_ 10 (some 20) (mk_ 17 1755) ?_
         refine oN_ 2 (some 12) (mk_ 17 1759) (fun K hK => ?_)
         refine gO_ Tryd.func46 #[.int .i64 a0_1] ?_
         with_reducible refine (spec_l16R.calls k a0_1 t475 _ A4.out).mono ?_
         rintro e w42 ⟨rfl, hb⟩
         refine ⟨_, rfl, ?_⟩
         have n0 := aM_ (nB_ BK473.out hb)
         have n1 := aM_ (sT_ HB.out hb)
         clear BK473
         clear HB
         have BK473 := n0
         have HB := n1
         clear n0 n1
         (try clear hb)
         (try clear hb2)
         (try clear hk)
         (try clear hi)
         refine hK.out _ _ (bC5_ BK473.out) (fun hHeld => ?_)
         clear hK K
         refine norm_ (a' := ?_) ?_ ?_
         rotate_left
         ·show Act.put _ (some 12) _ = _
          simp only [pt_, pn_, sI_, s0_, s1_, i64_w, i32_w]
          rfl
         refine oN_ 5 (some 15) (mk_ 17 1791) (fun K hK => ?_)
         refine gO_ Tryd.func46 #[.int .i64 a0_2] ?_
         with_reducible refine (spec_l16R.calls k a0_2 t476 _ A5.out).mono ?_
         rintro e w43 ⟨rfl, hb⟩
         refine ⟨_, rfl, ?_⟩
         have n0 := aM_ (nB_ BK473.out hb)
         have n1 := aM_ (sT_ HB.out hb)
         clear BK473
         clear HB
         have BK473 := n0
         have HB := n1
         clear n0 n1
         (try clear hb)
         (try clear hb2)
         (try clear hk)
         (try clear hi)
         refine hK.out _ _ (bC5_ BK473.out) (fun hHeld => ?_)
         clear hK K
         refine norm_ (a' := ?_) ?_ ?_
         rotate_left
         ·show Act.put _ (some 15) _ = _
          simp only [pt_, pn_, sI_, s0_, s1_, i64_w, i32_w]
          rfl
         refine oN_ 8 (some 18) (mk_ 17 2047) (fun K hK => ?_)
         refine gO_ Tryd.func46 #[.int .i64 a0_3] ?_
         with_reducible refine (spec_l16R.calls k a0_3 t477 _ A6.out).mono ?_
         rintro e w44 ⟨rfl, hb⟩
         refine ⟨_, rfl, ?_⟩
         have n0 := aM_ (nB_ BK473.out hb)
         have n1 := aM_ (sT_ HB.out hb)
         clear BK473
         clear HB
         have BK473 := n0
         have HB := n1
         clear n0 n1
         (try clear hb)
         (try clear hb2)
         (try clear hk)
         (try clear hi)
         refine hK.out _ _ (bC5_ BK473.out) (fun hHeld => ?_)
         clear hK K
         refine norm_ (a' := ?_) ?_ ?_
         rotate_left
         ·show Act.put _ (some 18) _ = _
          simp only [pt_, pn_, sI_, s0_, s1_, i64_w, i32_w]
          rfl
         refine oN_ 11 (some 21) (mk_ 17 4095) (fun K hK => ?_)
         refine gO_ Tryd.func47 #[.int .i64 a0_4] ?_
         with_reducible refine (spec_l2Digits.calls k a0_4 t478 _ A7.out).mono ?_
         rintro e w45 ⟨rfl, hb⟩
         refine ⟨_, rfl, ?_⟩
         have n0 := aM_ (nB_ BK473.out hb)
         have n1 := aM_ (sT_ HB.out hb)
         clear BK473
         clear HB
         have BK473 := n0
         have HB := n1
         clear n0 n1
         (try clear hb)
         (try clear hb2)
         (try clear hk)
         (try clear hi)
         refine hK.out _ _ (bC5_ BK473.out) (fun hHeld => ?_)
         clear hK K
         refine norm_ (a' := ?_) ?_ ?_
         rotate_left
         ·show Act.put _ (some 21) _ = _
          simp only [pt_, pn_, sI_, s0_, s1_, i64_w, i32_w]
          rfl
         refine pU_ 12 (some 22) (mk_ 17 8191) ?_
         refine pU_ 13 (some 3) (mk_ 17 16383) ?_
         refine pU_ 14 (some 4) (mk_ 17 32767) ?_
         refine pU_ 15 (some 5) (mk_ 17 65535) ?_
         refine pU_ 16 (some 6) (mk_ 17 131071) ?_
         refine done_ (done_of HT_.out (by kernel_rfl)) ?_
         obtain ⟨hcz46_0, hcz46_1, hcz46_2, hcz46_3, hcz46_4, hfz46_0, hfz46_1, hfz46_2, hfz46_3, hfz46_4⟩ := bR5_ BK473.out
         try go_wp2
         go_ret
         exact fI_ HB.out
        ·rw [if_neg c37] at H
         exact absurd H (by simp)
       ·rw [if_neg c36] at H
        exact absurd H (by simp)
      ·rw [if_neg c35] at H
       exact absurd H (by simp)
     ·rw [if_neg c34] at H
      have c34b0 : (a0_0 == 3) = false := beq_eq_false_iff_ne.mpr c34
      have c34b1 : (a0_0 != 3) = true := bne_iff_ne.mpr c34
      by_cases c47 : a0_0 = 4
      ·rw [if_pos c47] at H
       have c47b0 : (a0_0 == 4) = true := beq_iff_eq.mpr c47
       have c47b1 : (a0_0 != 4) = false := bne_eq_false_iff_eq.mpr c47
       clear c47
       by_cases c48 : 4 + t475.size ≤ 9223372036854775807
       ·rw [if_pos c48] at H
        have c48b0 := eq_true c48
        have c48b1 : decide (4 + t475.size ≤ 9223372036854775807) = true := decide_eq_true c48
        try have c48b2 : (9223372036854775807 < 4 + t475.size) = False := eq_false (Nat.not_lt.2 c48)
        by_cases c49 : ((⟨#[108, 101, 115, 115]⟩ : ByteArray) ++ t475).size + t476.size ≤ 9223372036854775807
        ·rw [if_pos c49] at H
         have c49b0 := eq_true c49
         have c49b1 : decide (((⟨#[108, 101, 115, 115]⟩ : ByteArray) ++ t475).size + t476.size ≤ 9223372036854775807) = true := decide_eq_true c49
         (try (have c49n := c49; simp only [ByteArray.size_append, Tab.sz_mk, List.size_toArray, List.length_cons, List.length_nil, Nat.zero_add, Nat.reduceAdd] at c49n; have c49b4 := eq_true c49n; have c49b5 := eq_false (Nat.not_lt.2 c49n)))
         try have c49b2 : (9223372036854775807 < ((⟨#[108, 101, 115, 115]⟩ : ByteArray) ++ t475).size + t476.size) = False := eq_false (Nat.not_lt.2 c49)
         by_cases c50 : (((⟨#[108, 101, 115, 115]⟩ : ByteArray) ++ t475) ++ t476).size + t477.size ≤ 9223372036854775807
         ·rw [if_pos c50] at H
          have c50b0 := eq_true c50
          have c50b1 : decide ((((⟨#[108, 101, 115, 115]⟩ : ByteArray) ++ t475) ++ t476).size + t477.size ≤ 9223372036854775807) = true := decide_eq_true c50
          (try (have c50n := c50; simp only [ByteArray.size_append, Tab.sz_mk, List.size_toArray, List.length_cons, List.length_nil, Nat.zero_add, Nat.reduceAdd] at c50n; have c50b4 := eq_true c50n; have c50b5 := eq_false (Nat.not_lt.2 c50n)))
          try have c50b2 : (9223372036854775807 < (((⟨#[108, 101, 115, 115]⟩ : ByteArray) ++ t475) ++ t476).size + t477.size) = False := eq_false (Nat.not_lt.2 c50)
          obtain rfl := Option.some.inj H
          go_enter Tryd.func15, Tryd.ntmps15
          try go_wp2_with (first | ((with_reducible refine gate_dst (N := 1) rfl ?_); refine bX_ 1 (cs := #[.int .i64 a0_0, .int .i64 a0_1, .int .i64 a0_2, .int .i64 a0_3, .int .i64 a0_4]) (t := 25) ?_; intro gb473 hg w51 hbox hb; have n0 := aM_ (sT_ HB.out hb); have n1 := aM_ (hbox); have n2 := aM_ (sZ_ hg HB.out); have n3 := aM_ (sZ_ hg HB.out); clear HB; have HB := n0; have BK473 := n1; have GW473 := n2; have GE473 := n3; clear n0 n1 n2 n3; clear hb hbox hg; obtain ⟨hcz52_0, hcz52_1, hcz52_2, hcz52_3, hcz52_4, hfz52_0, hfz52_1, hfz52_2, hfz52_3, hfz52_4⟩ := bR5_ BK473.out) | ((with_reducible refine gate_callee (f := 45) rfl ?_); refine gL_ (some 8) Tryd.func45 #[.agg #[.int .i64 a0_0, .int .i64 a0_1, .int .i64 a0_2, .int .i64 a0_3, .int .i64 a0_4], .int .i64 800] ?_; (with_reducible refine (spec_StepOk.calls k a0_0 a0_1 a0_2 a0_3 a0_4 800 true _ A2.out).mono ?_); rintro e w53 ⟨rfl, hb⟩; refine ⟨_, rfl, ?_⟩; have n0 := aM_ (nB_ BK473.out hb); have n1 := aM_ (sT_ HB.out hb); clear BK473; clear HB; have BK473 := n0; have HB := n1; clear n0 n1))
          (all_goals try (exfalso; have e1_ : (⟨#[32]⟩ : ByteArray).size = 1 := rfl; have e2_ : (⟨#[10]⟩ : ByteArray).size = 1 := rfl; simp only [ByteArray.size_append] at c49; omega))
          (all_goals try (exfalso; have e1_ : (⟨#[32]⟩ : ByteArray).size = 1 := rfl; have e2_ : (⟨#[10]⟩ : ByteArray).size = 1 := rfl; simp only [ByteArray.size_append] at c50; omega))
          have n0 := aM_ (blk_drew BK473.out)
          have n1 := aM_ (below_drew1 HB.out)
          clear BK473
          clear HB
          have BK473 := n0
          have HB := n1
          clear n0 n1
          refine start_ (n := 17) (S := fun w' => w'.cell? ⟨gb473, 0, none⟩ = some (.int .i64 a0_0) ∧ w'.cell? ⟨gb473, 1, none⟩ = some (.int .i64 a0_1) ∧ w'.cell? ⟨gb473, 2, none⟩ = some (.int .i64 a0_2) ∧ w'.cell? ⟨gb473, 3, none⟩ = some (.int .i64 a0_3) ∧ w'.cell? ⟨gb473, 4, none⟩ = some (.int .i64 a0_4)) (ds := []) (mk_ 17 0) (by kernel_rfl) rfl rfl (bC5_ BK473.out) (fun hHeld => ?_); refine with_tabW spec_StepText.tab3 spec_StepText.bits3 (fun HT_ HW_ => ?_)
          generalize w53.drew = w54 at BK473 HB hHeld ⊢
          refine pU_ 0 (some 10) (mk_ 17 1) ?_
          refine pU_ 3 (some 13) (mk_ 17 9) ?_
          refine pU_ 6 (some 16) (mk_ 17 73) ?_
          refine pU_ 9 (some 19) (mk_ 17 585) ?_
          refine tK5_ 1 (some 11) (mk_ 17 587) ?_
          refine tK5_ 4 (some 14) (mk_ 17 603) ?_
          refine tK5_ 7 (some 17) (mk_ 17 731) ?_
          refine tK5_ 10 (some 20) (mk_ 17 1755) ?_
          refine oN_ 2 (some 12) (mk_ 17 1759) (fun K hK => ?_)
          refine gO_ Tryd.func46 #[.int .i64 a0_1] ?_
          with_reducible refine (spec_l16R.calls k a0_1 t475 _ A4.out).mono ?_
          rintro e w55 ⟨rfl, hb⟩
          refine ⟨_, rfl, ?_⟩
          have n0 := aM_ (nB_ BK473.out hb)
          have n1 := aM_ (sT_ HB.out hb)
          clear BK473
          clear HB
          have BK473 := n0
          have HB := n1
          clear n0 n1
          (try clear hb)
          (try clear hb2)
          (try clear hk)
          (try clear hi)
          refine hK.out _ _ (bC5_ BK473.out) (fun hHeld => ?_)
          clear hK K
          refine norm_ (a' := ?_) ?_ ?_
          rotate_left
          ·show Act.put _ (some 12) _ = _
           simp only [pt_, pn_, sI_, s0_, s1_, i64_w, i32_w]
           rfl
          refine oN_ 5 (some 15) (mk_ 17 1791) (fun K hK => ?_)
          refine gO_ Tryd.func46 #[.int .i64 a0_2] ?_
          with_reducible refine (spec_l16R.calls k a0_2 t476 _ A5.out).mono ?_
          rintro e w56 ⟨rfl, hb⟩
          refine ⟨_, rfl, ?_⟩
          have n0 := aM_ (nB_ BK473.out hb)
          have n1 := aM_ (sT_ HB.out hb)
          clear BK473
          clear HB
          have BK473 := n0
          have HB := n1
          clear n0 n1
          (try clear hb)
          (try clear hb2)
          (try clear hk)
          (try clear hi)
          refine hK.out _ _ (bC5_ BK473.out) (fun hHeld => ?_)
          clear hK K
          refine norm_ (a' := ?_) ?_ ?_
          rotate_left
          ·show Act.put _ (some 15) _ = _
           simp only [pt_, pn_, sI_, s0_, s1_, i64_w, i32_w]
           rfl
          refine oN_ 8 (some 18) (mk_ 17 2047) (fun K hK => ?_)
          refine gO_ Tryd.func46 #[.int .i64 a0_3] ?_
          with_reducible refine (spec_l16R.calls k a0_3 t477 _ A6.out).mono ?_
          rintro e w57 ⟨rfl, hb⟩
          refine ⟨_, rfl, ?_⟩
          have n0 := aM_ (nB_ BK473.out hb)
          have n1 := aM_ (sT_ HB.out hb)
          clear BK473
          clear HB
          have BK473 := n0
          have HB := n1
          clear n0 n1
          (try clear hb)
          (try clear hb2)
          (try clear hk)
          (try clear hi)
          refine hK.out _ _ (bC5_ BK473.out) (fun hHeld => ?_)
          clear hK K
          refine norm_ (a' := ?_) ?_ ?_
          rotate_left
          ·show Act.put _ (some 18) _ = _
           simp only [pt_, pn_, sI_, s0_, s1_, i64_w, i32_w]
           rfl
          refine oN_ 11 (some 21) (mk_ 17 4095) (fun K hK => ?_)
          refine gO_ Tryd.func47 #[.int .i64 a0_4] ?_
          with_reducible refine (spec_l2Digits.calls k a0_4 t478 _ A7.out).mono ?_
          rintro e w58 ⟨rfl, hb⟩
          refine ⟨_, rfl, ?_⟩
          have n0 := aM_ (nB_ BK473.out hb)
          have n1 := aM_ (sT_ HB.out hb)
          clear BK473
          clear HB
          have BK473 := n0
          have HB := n1
          clear n0 n1
          (try clear hb)
          (try clear hb2)
          (try clear hk)
          (try clear hi)
          refine hK.out _ _ (bC5_ BK473.out) (fun hHeld => ?_)
          clear hK K
          refine norm_ (a' := ?_) ?_ ?_
          rotate_left
          ·show Act.put _ (some 21) _ = _
           simp only [pt_, pn_, sI_, s0_, s1_, i64_w, i32_w]
           rfl
          refine pU_ 12 (some 22) (mk_ 17 8191) ?_
          refine pU_ 13 (some 3) (mk_ 17 16383) ?_
          refine pU_ 14 (some 4) (mk_ 17 32767) ?_
          refine pU_ 15 (some 5) (mk_ 17 65535) ?_
          refine pU_ 16 (some 6) (mk_ 17 131071) ?_
          refine done_ (done_of HT_.out (by kernel_rfl)) ?_
          obtain ⟨hcz59_0, hcz59_1, hcz59_2, hcz59_3, hcz59_4, hfz59_0, hfz59_1, hfz59_2, hfz59_3, hfz59_4⟩ := bR5_ BK473.out
          try go_wp2
          go_ret
          exact fI_ HB.out
         ·rw [if_neg c50] at H
          exact absurd H (by simp)
        ·rw [if_neg c49] at H
         exact absurd H (by simp)
       ·rw [if_neg c48] at H
        exact absurd H (by simp)
      ·rw [if_neg c47] at H
       have c47b0 : (a0_0 == 4) = false := beq_eq_false_iff_ne.mpr c47
       have c47b1 : (a0_0 != 4) = true := bne_iff_ne.mpr c47
       by_cases c60 : a0_0 = 5
       ·rw [if_pos c60] at H
        have c60b0 : (a0_0 == 5) = true := beq_iff_eq.mpr c60
        have c60b1 : (a0_0 != 5) = false := bne_eq_false_iff_eq.mpr c60
        clear c60
        by_cases c61 : 4 + t475.size ≤ 9223372036854775807
        ·rw [if_pos c61] at H
         have c61b0 := eq_true c61
         have c61b1 : decide (4 + t475.size ≤ 9223372036854775807) = true := decide_eq_true c61
         try have c61b2 : (9223372036854775807 < 4 + t475.size) = False := eq_false (Nat.not_lt.2 c61)
         replace H := Option.bind_eq_some_iff.mp H
         obtain ⟨t479, A620, H⟩ := H
         replace H : (if ((⟨#[108, 111, 97, 100]⟩ : ByteArray) ++ t475).size + t479.size ≤ 9223372036854775807 then (some (((⟨#[108, 111, 97, 100]⟩ : ByteArray) ++ t475) ++ t479)) else (none)) = some r := H
         have A62 := aM_ A620
         clear A620
         by_cases c63 : ((⟨#[108, 111, 97, 100]⟩ : ByteArray) ++ t475).size + t479.size ≤ 9223372036854775807
         ·rw [if_pos c63] at H
          have c63b0 := eq_true c63
          have c63b1 : decide (((⟨#[108, 111, 97, 100]⟩ : ByteArray) ++ t475).size + t479.size ≤ 9223372036854775807) = true := decide_eq_true c63
          (try (have c63n := c63; simp only [ByteArray.size_append, Tab.sz_mk, List.size_toArray, List.length_cons, List.length_nil, Nat.zero_add, Nat.reduceAdd] at c63n; have c63b4 := eq_true c63n; have c63b5 := eq_false (Nat.not_lt.2 c63n)))
          try have c63b2 : (9223372036854775807 < ((⟨#[108, 111, 97, 100]⟩ : ByteArray) ++ t475).size + t479.size) = False := eq_false (Nat.not_lt.2 c63)
          obtain rfl := Option.some.inj H
          go_enter Tryd.func15, Tryd.ntmps15
          try go_wp2_with (first | ((with_reducible refine gate_dst (N := 1) rfl ?_); refine bX_ 1 (cs := #[.int .i64 a0_0, .int .i64 a0_1, .int .i64 a0_2, .int .i64 a0_3, .int .i64 a0_4]) (t := 25) ?_; intro gb473 hg w64 hbox hb; have n0 := aM_ (sT_ HB.out hb); have n1 := aM_ (hbox); have n2 := aM_ (sZ_ hg HB.out); have n3 := aM_ (sZ_ hg HB.out); clear HB; have HB := n0; have BK473 := n1; have GW473 := n2; have GE473 := n3; clear n0 n1 n2 n3; clear hb hbox hg; obtain ⟨hcz65_0, hcz65_1, hcz65_2, hcz65_3, hcz65_4, hfz65_0, hfz65_1, hfz65_2, hfz65_3, hfz65_4⟩ := bR5_ BK473.out) | ((with_reducible refine gate_callee (f := 45) rfl ?_); refine gL_ (some 8) Tryd.func45 #[.agg #[.int .i64 a0_0, .int .i64 a0_1, .int .i64 a0_2, .int .i64 a0_3, .int .i64 a0_4], .int .i64 800] ?_; (with_reducible refine (spec_StepOk.calls k a0_0 a0_1 a0_2 a0_3 a0_4 800 true _ A2.out).mono ?_); rintro e w66 ⟨rfl, hb⟩; refine ⟨_, rfl, ?_⟩; have n0 := aM_ (nB_ BK473.out hb); have n1 := aM_ (sT_ HB.out hb); clear BK473; clear HB; have BK473 := n0; have HB := n1; clear n0 n1))
          (all_goals try (exfalso; have e1_ : (⟨#[32]⟩ : ByteArray).size = 1 := rfl; have e2_ : (⟨#[10]⟩ : ByteArray).size = 1 := rfl; simp only [ByteArray.size_append] at c63; omega))
          have n0 := aM_ (blk_drew BK473.out)
          have n1 := aM_ (below_drew1 HB.out)
          clear BK473
          clear HB
          have BK473 := n0
          have HB := n1
          clear n0 n1
          refine start_ (n := 17) (S := fun w' => w'.cell? ⟨gb473, 0, none⟩ = some (.int .i64 a0_0) ∧ w'.cell? ⟨gb473, 1, none⟩ = some (.int .i64 a0_1) ∧ w'.cell? ⟨gb473, 2, none⟩ = some (.int .i64 a0_2) ∧ w'.cell? ⟨gb473, 3, none⟩ = some (.int .i64 a0_3) ∧ w'.cell? ⟨gb473, 4, none⟩ = some (.int .i64 a0_4)) (ds := []) (mk_ 17 0) (by kernel_rfl) rfl rfl (bC5_ BK473.out) (fun hHeld => ?_); refine with_tabW spec_StepText.tab3 spec_StepText.bits3 (fun HT_ HW_ => ?_)
          generalize w66.drew = w67 at BK473 HB hHeld ⊢
          refine pU_ 0 (some 10) (mk_ 17 1) ?_
          refine pU_ 3 (some 13) (mk_ 17 9) ?_
          refine pU_ 6 (some 16) (mk_ 17 73) ?_
          refine pU_ 9 (some 19) (mk_ 17 585) ?_
          refine tK5_ 1 (some 11) (mk_ 17 587) ?_
          refine tK5_ 4 (some 14) (mk_ 17 603) ?_
          refine tK5_ 7 (some 17) (mk_ 17 731) ?_
          refine tK5_ 10 (some 20) (mk_ 17 1755) ?_
          refine oN_ 2 (some 12) (mk_ 17 1759) (fun K hK => ?_)
          refine gO_ Tryd.func46 #[.int .i64 a0_1] ?_
          with_reducible refine (spec_l16R.calls k a0_1 t475 _ A4.out).mono ?_
          rintro e w68 ⟨rfl, hb⟩
          refine ⟨_, rfl, ?_⟩
          have n0 := aM_ (nB_ BK473.out hb)
          have n1 := aM_ (sT_ HB.out hb)
          clear BK473
          clear HB
          have BK473 := n0
          have HB := n1
          clear n0 n1
          (try clear hb)
          (try clear hb2)
          (try clear hk)
          (try clear hi)
          refine hK.out _ _ (bC5_ BK473.out) (fun hHeld => ?_)
          clear hK K
          refine norm_ (a' := ?_) ?_ ?_
          rotate_left
          ·show Act.put _ (some 12) _ = _
           simp only [pt_, pn_, sI_, s0_, s1_, i64_w, i32_w]
           rfl
          refine oN_ 5 (some 15) (mk_ 17 1791) (fun K hK => ?_)
          refine gO_ Tryd.func46 #[.int .i64 a0_2] ?_
          with_reducible refine (spec_l16R.calls k a0_2 t476 _ A5.out).mono ?_
          rintro e w69 ⟨rfl, hb⟩
          refine ⟨_, rfl, ?_⟩
          have n0 := aM_ (nB_ BK473.out hb)
          have n1 := aM_ (sT_ HB.out hb)
          clear BK473
          clear HB
          have BK473 := n0
          have HB := n1
          clear n0 n1
          (try clear hb)
          (try clear hb2)
          (try clear hk)
          (try clear hi)
          refine hK.out _ _ (bC5_ BK473.out) (fun hHeld => ?_)
          clear hK K
          refine norm_ (a' := ?_) ?_ ?_
          rotate_left
          ·show Act.put _ (some 15) _ = _
           simp only [pt_, pn_, sI_, s0_, s1_, i64_w, i32_w]
           rfl
          refine oN_ 8 (some 18) (mk_ 17 2047) (fun K hK => ?_)
          refine gO_ Tryd.func46 #[.int .i64 a0_3] ?_
          with_reducible refine (spec_l16R.calls k a0_3 t477 _ A6.out).mono ?_
          rintro e w70 ⟨rfl, hb⟩
          refine ⟨_, rfl, ?_⟩
          have n0 := aM_ (nB_ BK473.out hb)
          have n1 := aM_ (sT_ HB.out hb)
          clear BK473
          clear HB
          have BK473 := n0
          have HB := n1
          clear n0 n1
          (try clear hb)
          (try clear hb2)
          (try clear hk)
          (try clear hi)
          refine hK.out _ _ (bC5_ BK473.out) (fun hHeld => ?_)
          clear hK K
          refine norm_ (a' := ?_) ?_ ?_
          rotate_left
          ·show Act.put _ (some 18) _ = _
           simp only [pt_, pn_, sI_, s0_, s1_, i64_w, i32_w]
           rfl
          refine oN_ 11 (some 21) (mk_ 17 4095) (fun K hK => ?_)
          refine gO_ Tryd.func47 #[.int .i64 a0_4] ?_
          with_reducible refine (spec_l2Digits.calls k a0_4 t478 _ A7.out).mono ?_
          rintro e w71 ⟨rfl, hb⟩
          refine ⟨_, rfl, ?_⟩
          have n0 := aM_ (nB_ BK473.out hb)
          have n1 := aM_ (sT_ HB.out hb)
          clear BK473
          clear HB
          have BK473 := n0
          have HB := n1
          clear n0 n1
          (try clear hb)
          (try clear hb2)
          (try clear hk)
          (try clear hi)
          refine hK.out _ _ (bC5_ BK473.out) (fun hHeld => ?_)
          clear hK K
          refine norm_ (a' := ?_) ?_ ?_
          rotate_left
          ·show Act.put _ (some 21) _ = _
           simp only [pt_, pn_, sI_, s0_, s1_, i64_w, i32_w]
           rfl
          refine pU_ 12 (some 22) (mk_ 17 8191) ?_
          refine pU_ 13 (some 3) (mk_ 17 16383) ?_
          refine pU_ 14 (some 4) (mk_ 17 32767) ?_
          refine pU_ 15 (some 5) (mk_ 17 65535) ?_
          refine pU_ 16 (some 6) (mk_ 17 131071) ?_
          refine done_ (done_of HT_.out (by kernel_rfl)) ?_
          obtain ⟨hcz72_0, hcz72_1, hcz72_2, hcz72_3, hcz72_4, hfz72_0, hfz72_1, hfz72_2, hfz72_3, hfz72_4⟩ := bR5_ BK473.out
          try go_wp2_with (first | ((with_reducible refine gate_callee (f := 48) rfl ?_); refine gL_ (some 60) Tryd.func48 #[.agg #[.int .i64 a0_0, .int .i64 a0_1, .int .i64 a0_2, .int .i64 a0_3, .int .i64 a0_4]] ?_; (with_reducible refine (spec_l16Cell.calls k a0_0 a0_1 a0_2 a0_3 a0_4 t479 _ A62.out).mono ?_); rintro e w73 ⟨rfl, hb⟩; refine ⟨_, rfl, ?_⟩; have n0 := aM_ (nB_ BK473.out hb); have n1 := aM_ (sT_ HB.out hb); clear BK473; clear HB; have BK473 := n0; have HB := n1; clear n0 n1))
          (all_goals try (exfalso; have e1_ : (⟨#[32]⟩ : ByteArray).size = 1 := rfl; have e2_ : (⟨#[10]⟩ : ByteArray).size = 1 := rfl; simp only [ByteArray.size_append] at c63; omega))
          go_ret
          exact fI_ HB.out
         ·rw [if_neg c63] at H
          exact absurd H (by simp)
        ·rw [if_neg c61] at H
         exact absurd H (by simp)
       ·rw [if_neg c60] at H
        have c60b0 : (a0_0 == 5) = false := beq_eq_false_iff_ne.mpr c60
        have c60b1 : (a0_0 != 5) = true := bne_iff_ne.mpr c60
        by_cases c74 : a0_0 = 6
        ·rw [if_pos c74] at H
         have c74b0 : (a0_0 == 6) = true := beq_iff_eq.mpr c74
         have c74b1 : (a0_0 != 6) = false := bne_eq_false_iff_eq.mpr c74
         clear c74
         replace H := Option.bind_eq_some_iff.mp H
         obtain ⟨t480, A750, H⟩ := H
         replace H : (if 5 + t480.size ≤ 9223372036854775807 then (if ((⟨#[115, 116, 111, 114, 101]⟩ : ByteArray) ++ t480).size + t477.size ≤ 9223372036854775807 then (some (((⟨#[115, 116, 111, 114, 101]⟩ : ByteArray) ++ t480) ++ t477)) else (none)) else (none)) = some r := H
         have A75 := aM_ A750
         clear A750
         by_cases c76 : 5 + t480.size ≤ 9223372036854775807
         ·rw [if_pos c76] at H
          have c76b0 := eq_true c76
          have c76b1 : decide (5 + t480.size ≤ 9223372036854775807) = true := decide_eq_true c76
          try have c76b2 : (9223372036854775807 < 5 + t480.size) = False := eq_false (Nat.not_lt.2 c76)
          by_cases c77 : ((⟨#[115, 116, 111, 114, 101]⟩ : ByteArray) ++ t480).size + t477.size ≤ 9223372036854775807
          ·rw [if_pos c77] at H
           have c77b0 := eq_true c77
           have c77b1 : decide (((⟨#[115, 116, 111, 114, 101]⟩ : ByteArray) ++ t480).size + t477.size ≤ 9223372036854775807) = true := decide_eq_true c77
           (try (have c77n := c77; simp only [ByteArray.size_append, Tab.sz_mk, List.size_toArray, List.length_cons, List.length_nil, Nat.zero_add, Nat.reduceAdd] at c77n; have c77b4 := eq_true c77n; have c77b5 := eq_false (Nat.not_lt.2 c77n)))
           try have c77b2 : (9223372036854775807 < ((⟨#[115, 116, 111, 114, 101]⟩ : ByteArray) ++ t480).size + t477.size) = False := eq_false (Nat.not_lt.2 c77)
           obtain rfl := Option.some.inj H
           go_enter Tryd.func15, Tryd.ntmps15
           try go_wp2_with (first | ((with_reducible refine gate_dst (N := 1) rfl ?_); refine bX_ 1 (cs := #[.int .i64 a0_0, .int .i64 a0_1, .int .i64 a0_2, .int .i64 a0_3, .int .i64 a0_4]) (t := 25) ?_; intro gb473 hg w78 hbox hb; have n0 := aM_ (sT_ HB.out hb); have n1 := aM_ (hbox); have n2 := aM_ (sZ_ hg HB.out); have n3 := aM_ (sZ_ hg HB.out); clear HB; have HB := n0; have BK473 := n1; have GW473 := n2; have GE473 := n3; clear n0 n1 n2 n3; clear hb hbox hg; obtain ⟨hcz79_0, hcz79_1, hcz79_2, hcz79_3, hcz79_4, hfz79_0, hfz79_1, hfz79_2, hfz79_3, hfz79_4⟩ := bR5_ BK473.out) | ((with_reducible refine gate_callee (f := 45) rfl ?_); refine gL_ (some 8) Tryd.func45 #[.agg #[.int .i64 a0_0, .int .i64 a0_1, .int .i64 a0_2, .int .i64 a0_3, .int .i64 a0_4], .int .i64 800] ?_; (with_reducible refine (spec_StepOk.calls k a0_0 a0_1 a0_2 a0_3 a0_4 800 true _ A2.out).mono ?_); rintro e w80 ⟨rfl, hb⟩; refine ⟨_, rfl, ?_⟩; have n0 := aM_ (nB_ BK473.out hb); have n1 := aM_ (sT_ HB.out hb); clear BK473; clear HB; have BK473 := n0; have HB := n1; clear n0 n1))
           (all_goals try (exfalso; have e1_ : (⟨#[32]⟩ : ByteArray).size = 1 := rfl; have e2_ : (⟨#[10]⟩ : ByteArray).size = 1 := rfl; simp only [ByteArray.size_append] at c77; omega))
           have n0 := aM_ (blk_drew BK473.out)
           have n1 := aM_ (below_drew1 HB.out)
           clear BK473
           clear HB
           have BK473 := n0
           have HB := n1
           clear n0 n1
           refine start_ (n := 17) (S := fun w' => w'.cell? ⟨gb473, 0, none⟩ = some (.int .i64 a0_0) ∧ w'.cell? ⟨gb473, 1, none⟩ = some (.int .i64 a0_1) ∧ w'.cell? ⟨gb473, 2, none⟩ = some (.int .i64 a0_2) ∧ w'.cell? ⟨gb473, 3, none⟩ = some (.int .i64 a0_3) ∧ w'.cell? ⟨gb473, 4, none⟩ = some (.int .i64 a0_4)) (ds := []) (mk_ 17 0) (by kernel_rfl) rfl rfl (bC5_ BK473.out) (fun hHeld => ?_); refine with_tabW spec_StepText.tab3 spec_StepText.bits3 (fun HT_ HW_ => ?_)
           generalize w80.drew = w81 at BK473 HB hHeld ⊢
           refine pU_ 0 (some 10) (mk_ 17 1) ?_
           refine pU_ 3 (some 13) (mk_ 17 9) ?_
           refine pU_ 6 (some 16) (mk_ 17 73) ?_
           refine pU_ 9 (some 19) (mk_ 17 585) ?_
           refine tK5_ 1 (some 11) (mk_ 17 587) ?_
           refine tK5_ 4 (some 14) (mk_ 17 603) ?_
           refine tK5_ 7 (some 17) (mk_ 17 731) ?_
           refine tK5_ 10 (some 20) (mk_ 17 1755) ?_
           refine oN_ 2 (some 12) (mk_ 17 1759) (fun K hK => ?_)
           refine gO_ Tryd.func46 #[.int .i64 a0_1] ?_
           with_reducible refine (spec_l16R.calls k a0_1 t475 _ A4.out).mono ?_
           rintro e w82 ⟨rfl, hb⟩
           refine ⟨_, rfl, ?_⟩
           have n0 := aM_ (nB_ BK473.out hb)
           have n1 := aM_ (sT_ HB.out hb)
           clear BK473
           clear HB
           have BK473 := n0
           have HB := n1
           clear n0 n1
           (try clear hb)
           (try clear hb2)
           (try clear hk)
           (try clear hi)
           refine hK.out _ _ (bC5_ BK473.out) (fun hHeld => ?_)
           clear hK K
           refine norm_ (a' := ?_) ?_ ?_
           rotate_left
           ·show Act.put _ (some 12) _ = _
            simp only [pt_, pn_, sI_, s0_, s1_, i64_w, i32_w]
            rfl
           refine oN_ 5 (some 15) (mk_ 17 1791) (fun K hK => ?_)
           refine gO_ Tryd.func46 #[.int .i64 a0_2] ?_
           with_reducible refine (spec_l16R.calls k a0_2 t476 _ A5.out).mono ?_
           rintro e w83 ⟨rfl, hb⟩
           refine ⟨_, rfl, ?_⟩
           have n0 := aM_ (nB_ BK473.out hb)
           have n1 := aM_ (sT_ HB.out hb)
           clear BK473
           clear HB
           have BK473 := n0
           have HB := n1
           clear n0 n1
           (try clear hb)
           (try clear hb2)
           (try clear hk)
           (try clear hi)
           refine hK.out _ _ (bC5_ BK473.out) (fun hHeld => ?_)
           clear hK K
           refine norm_ (a' := ?_) ?_ ?_
           rotate_left
           ·show Act.put _ (some 15) _ = _
            simp only [pt_, pn_, sI_, s0_, s1_, i64_w, i32_w]
            rfl
           refine oN_ 8 (some 18) (mk_ 17 2047) (fun K hK => ?_)
           refine gO_ Tryd.func46 #[.int .i64 a0_3] ?_
           with_reducible refine (spec_l16R.calls k a0_3 t477 _ A6.out).mono ?_
           rintro e w84 ⟨rfl, hb⟩
           refine ⟨_, rfl, ?_⟩
           have n0 := aM_ (nB_ BK473.out hb)
           have n1 := aM_ (sT_ HB.out hb)
           clear BK473
           clear HB
           have BK473 := n0
           have HB := n1
           clear n0 n1
           (try clear hb)
           (try clear hb2)
           (try clear hk)
           (try clear hi)
           refine hK.out _ _ (bC5_ BK473.out) (fun hHeld => ?_)
           clear hK K
           refine norm_ (a' := ?_) ?_ ?_
           rotate_left
           ·show Act.put _ (some 18) _ = _
            simp only [pt_, pn_, sI_, s0_, s1_, i64_w, i32_w]
            rfl
           refine oN_ 11 (some 21) (mk_ 17 4095) (fun K hK => ?_)
           refine gO_ Tryd.func47 #[.int .i64 a0_4] ?_
           with_reducible refine (spec_l2Digits.calls k a0_4 t478 _ A7.out).mono ?_
           rintro e w85 ⟨rfl, hb⟩
           refine ⟨_, rfl, ?_⟩
           have n0 := aM_ (nB_ BK473.out hb)
           have n1 := aM_ (sT_ HB.out hb)
           clear BK473
           clear HB
           have BK473 := n0
           have HB := n1
           clear n0 n1
           (try clear hb)
           (try clear hb2)
           (try clear hk)
           (try clear hi)
           refine hK.out _ _ (bC5_ BK473.out) (fun hHeld => ?_)
           clear hK K
           refine norm_ (a' := ?_) ?_ ?_
           rotate_left
           ·show Act.put _ (some 21) _ = _
            simp only [pt_, pn_, sI_, s0_, s1_, i64_w, i32_w]
            rfl
           refine pU_ 12 (some 22) (mk_ 17 8191) ?_
           refine pU_ 13 (some 3) (mk_ 17 16383) ?_
           refine pU_ 14 (some 4) (mk_ 17 32767) ?_
           refine pU_ 15 (some 5) (mk_ 17 65535) ?_
           refine pU_ 16 (some 6) (mk_ 17 131071) ?_
           refine done_ (done_of HT_.out (by kernel_rfl)) ?_
           obtain ⟨hcz86_0, hcz86_1, hcz86_2, hcz86_3, hcz86_4, hfz86_0, hfz86_1, hfz86_2, hfz86_3, hfz86_4⟩ := bR5_ BK473.out
           try go_wp2_with (first | ((with_reducible refine gate_callee (f := 48) rfl ?_); refine gL_ (some 65) Tryd.func48 #[.agg #[.int .i64 a0_0, .int .i64 a0_1, .int .i64 a0_2, .int .i64 a0_3, .int .i64 a0_4]] ?_; (with_reducible refine (spec_l16Cell.calls k a0_0 a0_1 a0_2 a0_3 a0_4 t480 _ A75.out).mono ?_); rintro e w87 ⟨rfl, hb⟩; refine ⟨_, rfl, ?_⟩; have n0 := aM_ (nB_ BK473.out hb); have n1 := aM_ (sT_ HB.out hb); clear BK473; clear HB; have BK473 := n0; have HB := n1; clear n0 n1))
           (all_goals try (exfalso; have e1_ : (⟨#[32]⟩ : ByteArray).size = 1 := rfl; have e2_ : (⟨#[10]⟩ : ByteArray).size = 1 := rfl; simp only [ByteArray.size_append] at c77; omega))
           go_ret
           exact fI_ HB.out
          ·rw [if_neg c77] at H
           exact absurd H (by simp)
         ·rw [if_neg c76] at H
          exact absurd H (by simp)
        ·rw [if_neg c74] at H
         have c74b0 : (a0_0 == 6) = false := beq_eq_false_iff_ne.mpr c74
         have c74b1 : (a0_0 != 6) = true := bne_iff_ne.mpr c74
         by_cases c88 : a0_0 = 7
         ·rw [if_pos c88] at H
          have c88b0 : (a0_0 == 7) = true := beq_iff_eq.mpr c88
          have c88b1 : (a0_0 != 7) = false := bne_eq_false_iff_eq.mpr c88
          clear c88
          replace H := Option.bind_eq_some_iff.mp H
          obtain ⟨t481, A890, H⟩ := H
          replace H : (if 3 + t481.size ≤ 9223372036854775807 then (if ((⟨#[108, 101, 116]⟩ : ByteArray) ++ t481).size + t477.size ≤ 9223372036854775807 then (some (((⟨#[108, 101, 116]⟩ : ByteArray) ++ t481) ++ t477)) else (none)) else (none)) = some r := H
          have A89 := aM_ A890
          clear A890
          by_cases c90 : 3 + t481.size ≤ 9223372036854775807
          ·rw [if_pos c90] at H
           have c90b0 := eq_true c90
           have c90b1 : decide (3 + t481.size ≤ 9223372036854775807) = true := decide_eq_true c90
           try have c90b2 : (9223372036854775807 < 3 + t481.size) = False := eq_false (Nat.not_lt.2 c90)
           by_cases c91 : ((⟨#[108, 101, 116]⟩ : ByteArray) ++ t481).size + t477.size ≤ 9223372036854775807
           ·rw [if_pos c91] at H
            have c91b0 := eq_true c91
            have c91b1 : decide (((⟨#[108, 101, 116]⟩ : ByteArray) ++ t481).size + t477.size ≤ 9223372036854775807) = true := decide_eq_true c91
            (try (have c91n := c91; simp only [ByteArray.size_append, Tab.sz_mk, List.size_toArray, List.length_cons, List.length_nil, Nat.zero_add, Nat.reduceAdd] at c91n; have c91b4 := eq_true c91n; have c91b5 := eq_false (Nat.not_lt.2 c91n)))
            try have c91b2 : (9223372036854775807 < ((⟨#[108, 101, 116]⟩ : ByteArray) ++ t481).size + t477.size) = False := eq_false (Nat.not_lt.2 c91)
            obtain rfl := Option.some.inj H
            go_enter Tryd.func15, Tryd.ntmps15
            try go_wp2_with (first | ((with_reducible refine gate_dst (N := 1) rfl ?_); refine bX_ 1 (cs := #[.int .i64 a0_0, .int .i64 a0_1, .int .i64 a0_2, .int .i64 a0_3, .int .i64 a0_4]) (t := 25) ?_; intro gb473 hg w92 hbox hb; have n0 := aM_ (sT_ HB.out hb); have n1 := aM_ (hbox); have n2 := aM_ (sZ_ hg HB.out); have n3 := aM_ (sZ_ hg HB.out); clear HB; have HB := n0; have BK473 := n1; have GW473 := n2; have GE473 := n3; clear n0 n1 n2 n3; clear hb hbox hg; obtain ⟨hcz93_0, hcz93_1, hcz93_2, hcz93_3, hcz93_4, hfz93_0, hfz93_1, hfz93_2, hfz93_3, hfz93_4⟩ := bR5_ BK473.out) | ((with_reducible refine gate_callee (f := 45) rfl ?_); refine gL_ (some 8) Tryd.func45 #[.agg #[.int .i64 a0_0, .int .i64 a0_1, .int .i64 a0_2, .int .i64 a0_3, .int .i64 a0_4], .int .i64 800] ?_; (with_reducible refine (spec_StepOk.calls k a0_0 a0_1 a0_2 a0_3 a0_4 800 true _ A2.out).mono ?_); rintro e w94 ⟨rfl, hb⟩; refine ⟨_, rfl, ?_⟩; have n0 := aM_ (nB_ BK473.out hb); have n1 := aM_ (sT_ HB.out hb); clear BK473; clear HB; have BK473 := n0; have HB := n1; clear n0 n1))
            (all_goals try (exfalso; have e1_ : (⟨#[32]⟩ : ByteArray).size = 1 := rfl; have e2_ : (⟨#[10]⟩ : ByteArray).size = 1 := rfl; simp only [ByteArray.size_append] at c91; omega))
            have n0 := aM_ (blk_drew BK473.out)
            have n1 := aM_ (below_drew1 HB.out)
            clear BK473
            clear HB
            have BK473 := n0
            have HB := n1
            clear n0 n1
            refine start_ (n := 17) (S := fun w' => w'.cell? ⟨gb473, 0, none⟩ = some (.int .i64 a0_0) ∧ w'.cell? ⟨gb473, 1, none⟩ = some (.int .i64 a0_1) ∧ w'.cell? ⟨gb473, 2, none⟩ = some (.int .i64 a0_2) ∧ w'.cell? ⟨gb473, 3, none⟩ = some (.int .i64 a0_3) ∧ w'.cell? ⟨gb473, 4, none⟩ = some (.int .i64 a0_4)) (ds := []) (mk_ 17 0) (by kernel_rfl) rfl rfl (bC5_ BK473.out) (fun hHeld => ?_); refine with_tabW spec_StepText.tab3 spec_StepText.bits3 (fun HT_ HW_ => ?_)
            generalize w94.drew = w95 at BK473 HB hHeld ⊢
            refine pU_ 0 (some 10) (mk_ 17 1) ?_
            refine pU_ 3 (some 13) (mk_ 17 9) ?_
            refine pU_ 6 (some 16) (mk_ 17 73) ?_
            refine pU_ 9 (some 19) (mk_ 17 585) ?_
            refine tK5_ 1 (some 11) (mk_ 17 587) ?_
            refine tK5_ 4 (some 14) (mk_ 17 603) ?_
            refine tK5_ 7 (some 17) (mk_ 17 731) ?_
            refine tK5_ 10 (some 20) (mk_ 17 1755) ?_
            refine oN_ 2 (some 12) (mk_ 17 1759) (fun K hK => ?_)
            refine gO_ Tryd.func46 #[.int .i64 a0_1] ?_
            with_reducible refine (spec_l16R.calls k a0_1 t475 _ A4.out).mono ?_
            rintro e w96 ⟨rfl, hb⟩
            refine ⟨_, rfl, ?_⟩
            have n0 := aM_ (nB_ BK473.out hb)
            have n1 := aM_ (sT_ HB.out hb)
            clear BK473
            clear HB
            have BK473 := n0
            have HB := n1
            clear n0 n1
            (try clear hb)
            (try clear hb2)
            (try clear hk)
            (try clear hi)
            refine hK.out _ _ (bC5_ BK473.out) (fun hHeld => ?_)
            clear hK K
            refine norm_ (a' := ?_) ?_ ?_
            rotate_left
            ·show Act.put _ (some 12) _ = _
             simp only [pt_, pn_, sI_, s0_, s1_, i64_w, i32_w]
             rfl
            refine oN_ 5 (some 15) (mk_ 17 1791) (fun K hK => ?_)
            refine gO_ Tryd.func46 #[.int .i64 a0_2] ?_
            with_reducible refine (spec_l16R.calls k a0_2 t476 _ A5.out).mono ?_
            rintro e w97 ⟨rfl, hb⟩
            refine ⟨_, rfl, ?_⟩
            have n0 := aM_ (nB_ BK473.out hb)
            have n1 := aM_ (sT_ HB.out hb)
            clear BK473
            clear HB
            have BK473 := n0
            have HB := n1
            clear n0 n1
            (try clear hb)
            (try clear hb2)
            (try clear hk)
            (try clear hi)
            refine hK.out _ _ (bC5_ BK473.out) (fun hHeld => ?_)
            clear hK K
            refine norm_ (a' := ?_) ?_ ?_
            rotate_left
            ·show Act.put _ (some 15) _ = _
             simp only [pt_, pn_, sI_, s0_, s1_, i64_w, i32_w]
             rfl
            refine oN_ 8 (some 18) (mk_ 17 2047) (fun K hK => ?_)
            refine gO_ Tryd.func46 #[.int .i64 a0_3] ?_
            with_reducible refine (spec_l16R.calls k a0_3 t477 _ A6.out).mono ?_
            rintro e w98 ⟨rfl, hb⟩
            refine ⟨_, rfl, ?_⟩
            have n0 := aM_ (nB_ BK473.out hb)
            have n1 := aM_ (sT_ HB.out hb)
            clear BK473
            clear HB
            have BK473 := n0
            have HB := n1
            clear n0 n1
            (try clear hb)
            (try clear hb2)
            (try clear hk)
            (try clear hi)
            refine hK.out _ _ (bC5_ BK473.out) (fun hHeld => ?_)
            clear hK K
            refine norm_ (a' := ?_) ?_ ?_
            rotate_left
            ·show Act.put _ (some 18) _ = _
             simp only [pt_, pn_, sI_, s0_, s1_, i64_w, i32_w]
             rfl
            refine oN_ 11 (some 21) (mk_ 17 4095) (fun K hK => ?_)
            refine gO_ Tryd.func47 #[.int .i64 a0_4] ?_
            with_reducible refine (spec_l2Digits.calls k a0_4 t478 _ A7.out).mono ?_
            rintro e w99 ⟨rfl, hb⟩
            refine ⟨_, rfl, ?_⟩
            have n0 := aM_ (nB_ BK473.out hb)
            have n1 := aM_ (sT_ HB.out hb)
            clear BK473
            clear HB
            have BK473 := n0
            have HB := n1
            clear n0 n1
            (try clear hb)
            (try clear hb2)
            (try clear hk)
            (try clear hi)
            refine hK.out _ _ (bC5_ BK473.out) (fun hHeld => ?_)
            clear hK K
            refine norm_ (a' := ?_) ?_ ?_
            rotate_left
            ·show Act.put _ (some 21) _ = _
             simp only [pt_, pn_, sI_, s0_, s1_, i64_w, i32_w]
             rfl
            refine pU_ 12 (some 22) (mk_ 17 8191) ?_
            refine pU_ 13 (some 3) (mk_ 17 16383) ?_
            refine pU_ 14 (some 4) (mk_ 17 32767) ?_
            refine pU_ 15 (some 5) (mk_ 17 65535) ?_
            refine pU_ 16 (some 6) (mk_ 17 131071) ?_
            refine done_ (done_of HT_.out (by kernel_rfl)) ?_
            obtain ⟨hcz100_0, hcz100_1, hcz100_2, hcz100_3, hcz100_4, hfz100_0, hfz100_1, hfz100_2, hfz100_3, hfz100_4⟩ := bR5_ BK473.out
            try go_wp2_with (first | ((with_reducible refine gate_callee (f := 48) rfl ?_); refine gL_ (some 72) Tryd.func48 #[.agg #[.int .i64 a0_0, .int .i64 a0_1, .int .i64 a0_2, .int .i64 a0_3, .int .i64 a0_4]] ?_; (with_reducible refine (spec_l16Cell.calls k a0_0 a0_1 a0_2 a0_3 a0_4 t481 _ A89.out).mono ?_); rintro e w101 ⟨rfl, hb⟩; refine ⟨_, rfl, ?_⟩; have n0 := aM_ (nB_ BK473.out hb); have n1 := aM_ (sT_ HB.out hb); clear BK473; clear HB; have BK473 := n0; have HB := n1; clear n0 n1))
            (all_goals try (exfalso; have e1_ : (⟨#[32]⟩ : ByteArray).size = 1 := rfl; have e2_ : (⟨#[10]⟩ : ByteArray).size = 1 := rfl; simp only [ByteArray.size_append] at c91; omega))
            go_ret
            exact fI_ HB.out
           ·rw [if_neg c91] at H
            exact absurd H (by simp)
          ·rw [if_neg c90] at H
           exact absurd H (by simp)
         ·rw [if_neg c88] at H
          have c88b0 : (a0_0 == 7) = false := beq_eq_false_iff_ne.mpr c88
          have c88b1 : (a0_0 != 7) = true := bne_iff_ne.mpr c88
          by_cases c102 : a0_0 = 8
          ·rw [if_pos c102] at H
           have c102b0 : (a0_0 == 8) = true := beq_iff_eq.mpr c102
           have c102b1 : (a0_0 != 8) = false := bne_eq_false_iff_eq.mpr c102
           clear c102
           by_cases c103 : 4 + t475.size ≤ 9223372036854775807
           ·rw [if_pos c103] at H
            have c103b0 := eq_true c103
            have c103b1 : decide (4 + t475.size ≤ 9223372036854775807) = true := decide_eq_true c103
            try have c103b2 : (9223372036854775807 < 4 + t475.size) = False := eq_false (Nat.not_lt.2 c103)
            replace H := Option.bind_eq_some_iff.mp H
            obtain ⟨t482, A1040, H⟩ := H
            replace H : (if ((⟨#[115, 119, 97, 112]⟩ : ByteArray) ++ t475).size + t482.size ≤ 9223372036854775807 then (if (((⟨#[115, 119, 97, 112]⟩ : ByteArray) ++ t475) ++ t482).size + t477.size ≤ 9223372036854775807 then (some ((((⟨#[115, 119, 97, 112]⟩ : ByteArray) ++ t475) ++ t482) ++ t477)) else (none)) else (none)) = some r := H
            have A104 := aM_ A1040
            clear A1040
            by_cases c105 : ((⟨#[115, 119, 97, 112]⟩ : ByteArray) ++ t475).size + t482.size ≤ 9223372036854775807
            ·rw [if_pos c105] at H
             have c105b0 := eq_true c105
             have c105b1 : decide (((⟨#[115, 119, 97, 112]⟩ : ByteArray) ++ t475).size + t482.size ≤ 9223372036854775807) = true := decide_eq_true c105
             (try (have c105n := c105; simp only [ByteArray.size_append, Tab.sz_mk, List.size_toArray, List.length_cons, List.length_nil, Nat.zero_add, Nat.reduceAdd] at c105n; have c105b4 := eq_true c105n; have c105b5 := eq_false (Nat.not_lt.2 c105n)))
             try have c105b2 : (9223372036854775807 < ((⟨#[115, 119, 97, 112]⟩ : ByteArray) ++ t475).size + t482.size) = False := eq_false (Nat.not_lt.2 c105)
             by_cases c106 : (((⟨#[115, 119, 97, 112]⟩ : ByteArray) ++ t475) ++ t482).size + t477.size ≤ 9223372036854775807
             ·rw [if_pos c106] at H
              have c106b0 := eq_true c106
              have c106b1 : decide ((((⟨#[115, 119, 97, 112]⟩ : ByteArray) ++ t475) ++ t482).size + t477.size ≤ 9223372036854775807) = true := decide_eq_true c106
              (try (have c106n := c106; simp only [ByteArray.size_append, Tab.sz_mk, List.size_toArray, List.length_cons, List.length_nil, Nat.zero_add, Nat.reduceAdd] at c106n; have c106b4 := eq_true c106n; have c106b5 := eq_false (Nat.not_lt.2 c106n)))
              try have c106b2 : (9223372036854775807 < (((⟨#[115, 119, 97, 112]⟩ : ByteArray) ++ t475) ++ t482).size + t477.size) = False := eq_false (Nat.not_lt.2 c106)
              obtain rfl := Option.some.inj H
              go_enter Tryd.func15, Tryd.ntmps15
              try go_wp2_with (first | ((with_reducible refine gate_dst (N := 1) rfl ?_); refine bX_ 1 (cs := #[.int .i64 a0_0, .int .i64 a0_1, .int .i64 a0_2, .int .i64 a0_3, .int .i64 a0_4]) (t := 25) ?_; intro gb473 hg w107 hbox hb; have n0 := aM_ (sT_ HB.out hb); have n1 := aM_ (hbox); have n2 := aM_ (sZ_ hg HB.out); have n3 := aM_ (sZ_ hg HB.out); clear HB; have HB := n0; have BK473 := n1; have GW473 := n2; have GE473 := n3; clear n0 n1 n2 n3; clear hb hbox hg; obtain ⟨hcz108_0, hcz108_1, hcz108_2, hcz108_3, hcz108_4, hfz108_0, hfz108_1, hfz108_2, hfz108_3, hfz108_4⟩ := bR5_ BK473.out) | ((with_reducible refine gate_callee (f := 45) rfl ?_); refine gL_ (some 8) Tryd.func45 #[.agg #[.int .i64 a0_0, .int .i64 a0_1, .int .i64 a0_2, .int .i64 a0_3, .int .i64 a0_4], .int .i64 800] ?_; (with_reducible refine (spec_StepOk.calls k a0_0 a0_1 a0_2 a0_3 a0_4 800 true _ A2.out).mono ?_); rintro e w109 ⟨rfl, hb⟩; refine ⟨_, rfl, ?_⟩; have n0 := aM_ (nB_ BK473.out hb); have n1 := aM_ (sT_ HB.out hb); clear BK473; clear HB; have BK473 := n0; have HB := n1; clear n0 n1))
              (all_goals try (exfalso; have e1_ : (⟨#[32]⟩ : ByteArray).size = 1 := rfl; have e2_ : (⟨#[10]⟩ : ByteArray).size = 1 := rfl; simp only [ByteArray.size_append] at c105; omega))
              (all_goals try (exfalso; have e1_ : (⟨#[32]⟩ : ByteArray).size = 1 := rfl; have e2_ : (⟨#[10]⟩ : ByteArray).size = 1 := rfl; simp only [ByteArray.size_append] at c106; omega))
              have n0 := aM_ (blk_drew BK473.out)
              have n1 := aM_ (below_drew1 HB.out)
              clear BK473
              clear HB
              have BK473 := n0
              have HB := n1
              clear n0 n1
              refine start_ (n := 17) (S := fun w' => w'.cell? ⟨gb473, 0, none⟩ = some (.int .i64 a0_0) ∧ w'.cell? ⟨gb473, 1, none⟩ = some (.int .i64 a0_1) ∧ w'.cell? ⟨gb473, 2, none⟩ = some (.int .i64 a0_2) ∧ w'.cell? ⟨gb473, 3, none⟩ = some (.int .i64 a0_3) ∧ w'.cell? ⟨gb473, 4, none⟩ = some (.int .i64 a0_4)) (ds := []) (mk_ 17 0) (by kernel_rfl) rfl rfl (bC5_ BK473.out) (fun hHeld => ?_); refine with_tabW spec_StepText.tab3 spec_StepText.bits3 (fun HT_ HW_ => ?_)
              generalize w109.drew = w110 at BK473 HB hHeld ⊢
              refine pU_ 0 (some 10) (mk_ 17 1) ?_
              refine pU_ 3 (some 13) (mk_ 17 9) ?_
              refine pU_ 6 (some 16) (mk_ 17 73) ?_
              refine pU_ 9 (some 19) (mk_ 17 585) ?_
              refine tK5_ 1 (some 11) (mk_ 17 587) ?_
              refine tK5_ 4 (some 14) (mk_ 17 603) ?_
              refine tK5_ 7 (some 17) (mk_ 17 731) ?_
              refine tK5_ 10 (some 20) (mk_ 17 1755) ?_
              refine oN_ 2 (some 12) (mk_ 17 1759) (fun K hK => ?_)
              refine gO_ Tryd.func46 #[.int .i64 a0_1] ?_
              with_reducible refine (spec_l16R.calls k a0_1 t475 _ A4.out).mono ?_
              rintro e w111 ⟨rfl, hb⟩
              refine ⟨_, rfl, ?_⟩
              have n0 := aM_ (nB_ BK473.out hb)
              have n1 := aM_ (sT_ HB.out hb)
              clear BK473
              clear HB
              have BK473 := n0
              have HB := n1
              clear n0 n1
              (try clear hb)
              (try clear hb2)
              (try clear hk)
              (try clear hi)
              refine hK.out _ _ (bC5_ BK473.out) (fun hHeld => ?_)
              clear hK K
              refine norm_ (a' := ?_) ?_ ?_
              rotate_left
              ·show Act.put _ (some 12) _ = _
               simp only [pt_, pn_, sI_, s0_, s1_, i64_w, i32_w]
               rfl
              refine oN_ 5 (some 15) (mk_ 17 1791) (fun K hK => ?_)
              refine gO_ Tryd.func46 #[.int .i64 a0_2] ?_
              with_reducible refine (spec_l16R.calls k a0_2 t476 _ A5.out).mono ?_
              rintro e w112 ⟨rfl, hb⟩
              refine ⟨_, rfl, ?_⟩
              have n0 := aM_ (nB_ BK473.out hb)
              have n1 := aM_ (sT_ HB.out hb)
              clear BK473
              clear HB
              have BK473 := n0
              have HB := n1
              clear n0 n1
              (try clear hb)
              (try clear hb2)
              (try clear hk)
              (try clear hi)
              refine hK.out _ _ (bC5_ BK473.out) (fun hHeld => ?_)
              clear hK K
              refine norm_ (a' := ?_) ?_ ?_
              rotate_left
              ·show Act.put _ (some 15) _ = _
               simp only [pt_, pn_, sI_, s0_, s1_, i64_w, i32_w]
               rfl
              refine oN_ 8 (some 18) (mk_ 17 2047) (fun K hK => ?_)
              refine gO_ Tryd.func46 #[.int .i64 a0_3] ?_
              with_reducible refine (spec_l16R.calls k a0_3 t477 _ A6.out).mono ?_
              rintro e w113 ⟨rfl, hb⟩
              refine ⟨_, rfl, ?_⟩
              have n0 := aM_ (nB_ BK473.out hb)
              have n1 := aM_ (sT_ HB.out hb)
              clear BK473
              clear HB
              have BK473 := n0
              have HB := n1
              clear n0 n1
              (try clear hb)
              (try clear hb2)
              (try clear hk)
              (try clear hi)
              refine hK.out _ _ (bC5_ BK473.out) (fun hHeld => ?_)
              clear hK K
              refine norm_ (a' := ?_) ?_ ?_
              rotate_left
              ·show Act.put _ (some 18) _ = _
               simp only [pt_, pn_, sI_, s0_, s1_, i64_w, i32_w]
               rfl
              refine oN_ 11 (some 21) (mk_ 17 4095) (fun K hK => ?_)
              refine gO_ Tryd.func47 #[.int .i64 a0_4] ?_
              with_reducible refine (spec_l2Digits.calls k a0_4 t478 _ A7.out).mono ?_
              rintro e w114 ⟨rfl, hb⟩
              refine ⟨_, rfl, ?_⟩
              have n0 := aM_ (nB_ BK473.out hb)
              have n1 := aM_ (sT_ HB.out hb)
              clear BK473
              clear HB
              have BK473 := n0
              have HB := n1
              clear n0 n1
              (try clear hb)
              (try clear hb2)
              (try clear hk)
              (try clear hi)
              refine hK.out _ _ (bC5_ BK473.out) (fun hHeld => ?_)
              clear hK K
              refine norm_ (a' := ?_) ?_ ?_
              rotate_left
              ·show Act.put _ (some 21) _ = _
               simp only [pt_, pn_, sI_, s0_, s1_, i64_w, i32_w]
               rfl
              refine pU_ 12 (some 22) (mk_ 17 8191) ?_
              refine pU_ 13 (some 3) (mk_ 17 16383) ?_
              refine pU_ 14 (some 4) (mk_ 17 32767) ?_
              refine pU_ 15 (some 5) (mk_ 17 65535) ?_
              refine pU_ 16 (some 6) (mk_ 17 131071) ?_
              refine done_ (done_of HT_.out (by kernel_rfl)) ?_
              obtain ⟨hcz115_0, hcz115_1, hcz115_2, hcz115_3, hcz115_4, hfz115_0, hfz115_1, hfz115_2, hfz115_3, hfz115_4⟩ := bR5_ BK473.out
              try go_wp2_with (first | ((with_reducible refine gate_callee (f := 48) rfl ?_); refine gL_ (some 81) Tryd.func48 #[.agg #[.int .i64 a0_0, .int .i64 a0_1, .int .i64 a0_2, .int .i64 a0_3, .int .i64 a0_4]] ?_; (with_reducible refine (spec_l16Cell.calls k a0_0 a0_1 a0_2 a0_3 a0_4 t482 _ A104.out).mono ?_); rintro e w116 ⟨rfl, hb⟩; refine ⟨_, rfl, ?_⟩; have n0 := aM_ (nB_ BK473.out hb); have n1 := aM_ (sT_ HB.out hb); clear BK473; clear HB; have BK473 := n0; have HB := n1; clear n0 n1))
              (all_goals try (exfalso; have e1_ : (⟨#[32]⟩ : ByteArray).size = 1 := rfl; have e2_ : (⟨#[10]⟩ : ByteArray).size = 1 := rfl; simp only [ByteArray.size_append] at c105; omega))
              (all_goals try (exfalso; have e1_ : (⟨#[32]⟩ : ByteArray).size = 1 := rfl; have e2_ : (⟨#[10]⟩ : ByteArray).size = 1 := rfl; simp only [ByteArray.size_append] at c106; omega))
              go_ret
              exact fI_ HB.out
             ·rw [if_neg c106] at H
              exact absurd H (by simp)
            ·rw [if_neg c105] at H
             exact absurd H (by simp)
           ·rw [if_neg c103] at H
            exact absurd H (by simp)
          ·rw [if_neg c102] at H
           have c102b0 : (a0_0 == 8) = false := beq_eq_false_iff_ne.mpr c102
           have c102b1 : (a0_0 != 8) = true := bne_iff_ne.mpr c102
           by_cases c117 : a0_0 = 9
           ·rw [if_pos c117] at H
            have c117b0 : (a0_0 == 9) = true := beq_iff_eq.mpr c117
            have c117b1 : (a0_0 != 9) = false := bne_eq_false_iff_eq.mpr c117
            clear c117
            by_cases c118 : 5 + t476.size ≤ 9223372036854775807
            ·rw [if_pos c118] at H
             have c118b0 := eq_true c118
             have c118b1 : decide (5 + t476.size ≤ 9223372036854775807) = true := decide_eq_true c118
             try have c118b2 : (9223372036854775807 < 5 + t476.size) = False := eq_false (Nat.not_lt.2 c118)
             obtain rfl := Option.some.inj H
             go_enter Tryd.func15, Tryd.ntmps15
             try go_wp2_with (first | ((with_reducible refine gate_dst (N := 1) rfl ?_); refine bX_ 1 (cs := #[.int .i64 a0_0, .int .i64 a0_1, .int .i64 a0_2, .int .i64 a0_3, .int .i64 a0_4]) (t := 25) ?_; intro gb473 hg w119 hbox hb; have n0 := aM_ (sT_ HB.out hb); have n1 := aM_ (hbox); have n2 := aM_ (sZ_ hg HB.out); have n3 := aM_ (sZ_ hg HB.out); clear HB; have HB := n0; have BK473 := n1; have GW473 := n2; have GE473 := n3; clear n0 n1 n2 n3; clear hb hbox hg; obtain ⟨hcz120_0, hcz120_1, hcz120_2, hcz120_3, hcz120_4, hfz120_0, hfz120_1, hfz120_2, hfz120_3, hfz120_4⟩ := bR5_ BK473.out) | ((with_reducible refine gate_callee (f := 45) rfl ?_); refine gL_ (some 8) Tryd.func45 #[.agg #[.int .i64 a0_0, .int .i64 a0_1, .int .i64 a0_2, .int .i64 a0_3, .int .i64 a0_4], .int .i64 800] ?_; (with_reducible refine (spec_StepOk.calls k a0_0 a0_1 a0_2 a0_3 a0_4 800 true _ A2.out).mono ?_); rintro e w121 ⟨rfl, hb⟩; refine ⟨_, rfl, ?_⟩; have n0 := aM_ (nB_ BK473.out hb); have n1 := aM_ (sT_ HB.out hb); clear BK473; clear HB; have BK473 := n0; have HB := n1; clear n0 n1))
             have n0 := aM_ (blk_drew BK473.out)
             have n1 := aM_ (below_drew1 HB.out)
             clear BK473
             clear HB
             have BK473 := n0
             have HB := n1
             clear n0 n1
             refine start_ (n := 17) (S := fun w' => w'.cell? ⟨gb473, 0, none⟩ = some (.int .i64 a0_0) ∧ w'.cell? ⟨gb473, 1, none⟩ = some (.int .i64 a0_1) ∧ w'.cell? ⟨gb473, 2, none⟩ = some (.int .i64 a0_2) ∧ w'.cell? ⟨gb473, 3, none⟩ = some (.int .i64 a0_3) ∧ w'.cell? ⟨gb473, 4, none⟩ = some (.int .i64 a0_4)) (ds := []) (mk_ 17 0) (by kernel_rfl) rfl rfl (bC5_ BK473.out) (fun hHeld => ?_); refine with_tabW spec_StepText.tab3 spec_StepText.bits3 (fun HT_ HW_ => ?_)
             generalize w121.drew = w122 at BK473 HB hHeld ⊢
             refine pU_ 0 (some 10) (mk_ 17 1) ?_
             refine pU_ 3 (some 13) (mk_ 17 9) ?_
             refine pU_ 6 (some 16) (mk_ 17 73) ?_
             refine pU_ 9 (some 19) (mk_ 17 585) ?_
             refine tK5_ 1 (some 11) (mk_ 17 587) ?_
             refine tK5_ 4 (some 14) (mk_ 17 603) ?_
             refine tK5_ 7 (some 17) (mk_ 17 731) ?_
             refine tK5_ 10 (some 20) (mk_ 17 1755) ?_
             refine oN_ 2 (some 12) (mk_ 17 1759) (fun K hK => ?_)
             refine gO_ Tryd.func46 #[.int .i64 a0_1] ?_
             with_reducible refine (spec_l16R.calls k a0_1 t475 _ A4.out).mono ?_
             rintro e w123 ⟨rfl, hb⟩
             refine ⟨_, rfl, ?_⟩
             have n0 := aM_ (nB_ BK473.out hb)
             have n1 := aM_ (sT_ HB.out hb)
             clear BK473
             clear HB
             have BK473 := n0
             have HB := n1
             clear n0 n1
             (try clear hb)
             (try clear hb2)
             (try clear hk)
             (try clear hi)
             refine hK.out _ _ (bC5_ BK473.out) (fun hHeld => ?_)
             clear hK K
             refine norm_ (a' := ?_) ?_ ?_
             rotate_left
             ·show Act.put _ (some 12) _ = _
              simp only [pt_, pn_, sI_, s0_, s1_, i64_w, i32_w]
              rfl
             refine oN_ 5 (some 15) (mk_ 17 1791) (fun K hK => ?_)
             refine gO_ Tryd.func46 #[.int .i64 a0_2] ?_
             with_reducible refine (spec_l16R.calls k a0_2 t476 _ A5.out).mono ?_
             rintro e w124 ⟨rfl, hb⟩
             refine ⟨_, rfl, ?_⟩
             have n0 := aM_ (nB_ BK473.out hb)
             have n1 := aM_ (sT_ HB.out hb)
             clear BK473
             clear HB
             have BK473 := n0
             have HB := n1
             clear n0 n1
             (try clear hb)
             (try clear hb2)
             (try clear hk)
             (try clear hi)
             refine hK.out _ _ (bC5_ BK473.out) (fun hHeld => ?_)
             clear hK K
             refine norm_ (a' := ?_) ?_ ?_
             rotate_left
             ·show Act.put _ (some 15) _ = _
              simp only [pt_, pn_, sI_, s0_, s1_, i64_w, i32_w]
              rfl
             refine oN_ 8 (some 18) (mk_ 17 2047) (fun K hK => ?_)
             refine gO_ Tryd.func46 #[.int .i64 a0_3] ?_
             with_reducible refine (spec_l16R.calls k a0_3 t477 _ A6.out).mono ?_
             rintro e w125 ⟨rfl, hb⟩
             refine ⟨_, rfl, ?_⟩
             have n0 := aM_ (nB_ BK473.out hb)
             have n1 := aM_ (sT_ HB.out hb)
             clear BK473
             clear HB
             have BK473 := n0
             have HB := n1
             clear n0 n1
             (try clear hb)
             (try clear hb2)
             (try clear hk)
             (try clear hi)
             refine hK.out _ _ (bC5_ BK473.out) (fun hHeld => ?_)
             clear hK K
             refine norm_ (a' := ?_) ?_ ?_
             rotate_left
             ·show Act.put _ (some 18) _ = _
              simp only [pt_, pn_, sI_, s0_, s1_, i64_w, i32_w]
              rfl
             refine oN_ 11 (some 21) (mk_ 17 4095) (fun K hK => ?_)
             refine gO_ Tryd.func47 #[.int .i64 a0_4] ?_
             with_reducible refine (spec_l2Digits.calls k a0_4 t478 _ A7.out).mono ?_
             rintro e w126 ⟨rfl, hb⟩
             refine ⟨_, rfl, ?_⟩
             have n0 := aM_ (nB_ BK473.out hb)
             have n1 := aM_ (sT_ HB.out hb)
             clear BK473
             clear HB
             have BK473 := n0
             have HB := n1
             clear n0 n1
             (try clear hb)
             (try clear hb2)
             (try clear hk)
             (try clear hi)
             refine hK.out _ _ (bC5_ BK473.out) (fun hHeld => ?_)
             clear hK K
             refine norm_ (a' := ?_) ?_ ?_
             rotate_left
             ·show Act.put _ (some 21) _ = _
              simp only [pt_, pn_, sI_, s0_, s1_, i64_w, i32_w]
              rfl
             refine pU_ 12 (some 22) (mk_ 17 8191) ?_
             refine pU_ 13 (some 3) (mk_ 17 16383) ?_
             refine pU_ 14 (some 4) (mk_ 17 32767) ?_
             refine pU_ 15 (some 5) (mk_ 17 65535) ?_
             refine pU_ 16 (some 6) (mk_ 17 131071) ?_
             refine done_ (done_of HT_.out (by kernel_rfl)) ?_
             obtain ⟨hcz127_0, hcz127_1, hcz127_2, hcz127_3, hcz127_4, hfz127_0, hfz127_1, hfz127_2, hfz127_3, hfz127_4⟩ := bR5_ BK473.out
             try go_wp2
             go_ret
             exact fI_ HB.out
            ·rw [if_neg c118] at H
             exact absurd H (by simp)
           ·rw [if_neg c117] at H
            have c117b0 : (a0_0 == 9) = false := beq_eq_false_iff_ne.mpr c117
            have c117b1 : (a0_0 != 9) = true := bne_iff_ne.mpr c117
            by_cases c128 : a0_0 = 10
            ·rw [if_pos c128] at H
             have c128b0 : (a0_0 == 10) = true := beq_iff_eq.mpr c128
             have c128b1 : (a0_0 != 10) = false := bne_eq_false_iff_eq.mpr c128
             clear c128
             by_cases c129 : 4 + ((⟨#[32]⟩ : ByteArray) ++ t478).size ≤ 9223372036854775807
             ·rw [if_pos c129] at H
              have c129b0 := eq_true c129
              have c129b1 : decide (4 + ((⟨#[32]⟩ : ByteArray) ++ t478).size ≤ 9223372036854775807) = true := decide_eq_true c129
              (try (have c129n := c129; simp only [ByteArray.size_append, Tab.sz_mk, List.size_toArray, List.length_cons, List.length_nil, Nat.zero_add, Nat.reduceAdd] at c129n; have c129b4 := eq_true c129n; have c129b5 := eq_false (Nat.not_lt.2 c129n)))
              try have c129b2 : (9223372036854775807 < 4 + ((⟨#[32]⟩ : ByteArray) ++ t478).size) = False := eq_false (Nat.not_lt.2 c129)
              obtain rfl := Option.some.inj H
              go_enter Tryd.func15, Tryd.ntmps15
              try go_wp2_with (first | ((with_reducible refine gate_dst (N := 1) rfl ?_); refine bX_ 1 (cs := #[.int .i64 a0_0, .int .i64 a0_1, .int .i64 a0_2, .int .i64 a0_3, .int .i64 a0_4]) (t := 25) ?_; intro gb473 hg w130 hbox hb; have n0 := aM_ (sT_ HB.out hb); have n1 := aM_ (hbox); have n2 := aM_ (sZ_ hg HB.out); have n3 := aM_ (sZ_ hg HB.out); clear HB; have HB := n0; have BK473 := n1; have GW473 := n2; have GE473 := n3; clear n0 n1 n2 n3; clear hb hbox hg; obtain ⟨hcz131_0, hcz131_1, hcz131_2, hcz131_3, hcz131_4, hfz131_0, hfz131_1, hfz131_2, hfz131_3, hfz131_4⟩ := bR5_ BK473.out) | ((with_reducible refine gate_callee (f := 45) rfl ?_); refine gL_ (some 8) Tryd.func45 #[.agg #[.int .i64 a0_0, .int .i64 a0_1, .int .i64 a0_2, .int .i64 a0_3, .int .i64 a0_4], .int .i64 800] ?_; (with_reducible refine (spec_StepOk.calls k a0_0 a0_1 a0_2 a0_3 a0_4 800 true _ A2.out).mono ?_); rintro e w132 ⟨rfl, hb⟩; refine ⟨_, rfl, ?_⟩; have n0 := aM_ (nB_ BK473.out hb); have n1 := aM_ (sT_ HB.out hb); clear BK473; clear HB; have BK473 := n0; have HB := n1; clear n0 n1))
              (all_goals try (exfalso; have e1_ : (⟨#[32]⟩ : ByteArray).size = 1 := rfl; have e2_ : (⟨#[10]⟩ : ByteArray).size = 1 := rfl; simp only [ByteArray.size_append] at c129; omega))
              have n0 := aM_ (blk_drew BK473.out)
              have n1 := aM_ (below_drew1 HB.out)
              clear BK473
              clear HB
              have BK473 := n0
              have HB := n1
              clear n0 n1
              refine start_ (n := 17) (S := fun w' => w'.cell? ⟨gb473, 0, none⟩ = some (.int .i64 a0_0) ∧ w'.cell? ⟨gb473, 1, none⟩ = some (.int .i64 a0_1) ∧ w'.cell? ⟨gb473, 2, none⟩ = some (.int .i64 a0_2) ∧ w'.cell? ⟨gb473, 3, none⟩ = some (.int .i64 a0_3) ∧ w'.cell? ⟨gb473, 4, none⟩ = some (.int .i64 a0_4)) (ds := []) (mk_ 17 0) (by kernel_rfl) rfl rfl (bC5_ BK473.out) (fun hHeld => ?_); refine with_tabW spec_StepText.tab3 spec_StepText.bits3 (fun HT_ HW_ => ?_)
              generalize w132.drew = w133 at BK473 HB hHeld ⊢
              refine pU_ 0 (some 10) (mk_ 17 1) ?_
              refine pU_ 3 (some 13) (mk_ 17 9) ?_
              refine pU_ 6 (some 16) (mk_ 17 73) ?_
              refine pU_ 9 (some 19) (mk_ 17 585) ?_
              refine tK5_ 1 (some 11) (mk_ 17 587) ?_
              refine tK5_ 4 (some 14) (mk_ 17 603) ?_
              refine tK5_ 7 (some 17) (mk_ 17 731) ?_
              refine tK5_ 10 (some 20) (mk_ 17 1755) ?_
              refine oN_ 2 (some 12) (mk_ 17 1759) (fun K hK => ?_)
              refine gO_ Tryd.func46 #[.int .i64 a0_1] ?_
              with_reducible refine (spec_l16R.calls k a0_1 t475 _ A4.out).mono ?_
              rintro e w134 ⟨rfl, hb⟩
              refine ⟨_, rfl, ?_⟩
              have n0 := aM_ (nB_ BK473.out hb)
              have n1 := aM_ (sT_ HB.out hb)
              clear BK473
              clear HB
              have BK473 := n0
              have HB := n1
              clear n0 n1
              (try clear hb)
              (try clear hb2)
              (try clear hk)
              (try clear hi)
              refine hK.out _ _ (bC5_ BK473.out) (fun hHeld => ?_)
              clear hK K
              refine norm_ (a' := ?_) ?_ ?_
              rotate_left
              ·show Act.put _ (some 12) _ = _
               simp only [pt_, pn_, sI_, s0_, s1_, i64_w, i32_w]
               rfl
              refine oN_ 5 (some 15) (mk_ 17 1791) (fun K hK => ?_)
              refine gO_ Tryd.func46 #[.int .i64 a0_2] ?_
              with_reducible refine (spec_l16R.calls k a0_2 t476 _ A5.out).mono ?_
              rintro e w135 ⟨rfl, hb⟩
              refine ⟨_, rfl, ?_⟩
              have n0 := aM_ (nB_ BK473.out hb)
              have n1 := aM_ (sT_ HB.out hb)
              clear BK473
              clear HB
              have BK473 := n0
              have HB := n1
              clear n0 n1
              (try clear hb)
              (try clear hb2)
              (try clear hk)
              (try clear hi)
              refine hK.out _ _ (bC5_ BK473.out) (fun hHeld => ?_)
              clear hK K
              refine norm_ (a' := ?_) ?_ ?_
              rotate_left
              ·show Act.put _ (some 15) _ = _
               simp only [pt_, pn_, sI_, s0_, s1_, i64_w, i32_w]
               rfl
              refine oN_ 8 (some 18) (mk_ 17 2047) (fun K hK => ?_)
              refine gO_ Tryd.func46 #[.int .i64 a0_3] ?_
              with_reducible refine (spec_l16R.calls k a0_3 t477 _ A6.out).mono ?_
              rintro e w136 ⟨rfl, hb⟩
              refine ⟨_, rfl, ?_⟩
              have n0 := aM_ (nB_ BK473.out hb)
              have n1 := aM_ (sT_ HB.out hb)
              clear BK473
              clear HB
              have BK473 := n0
              have HB := n1
              clear n0 n1
              (try clear hb)
              (try clear hb2)
              (try clear hk)
              (try clear hi)
              refine hK.out _ _ (bC5_ BK473.out) (fun hHeld => ?_)
              clear hK K
              refine norm_ (a' := ?_) ?_ ?_
              rotate_left
              ·show Act.put _ (some 18) _ = _
               simp only [pt_, pn_, sI_, s0_, s1_, i64_w, i32_w]
               rfl
              refine oN_ 11 (some 21) (mk_ 17 4095) (fun K hK => ?_)
              refine gO_ Tryd.func47 #[.int .i64 a0_4] ?_
              with_reducible refine (spec_l2Digits.calls k a0_4 t478 _ A7.out).mono ?_
              rintro e w137 ⟨rfl, hb⟩
              refine ⟨_, rfl, ?_⟩
              have n0 := aM_ (nB_ BK473.out hb)
              have n1 := aM_ (sT_ HB.out hb)
              clear BK473
              clear HB
              have BK473 := n0
              have HB := n1
              clear n0 n1
              (try clear hb)
              (try clear hb2)
              (try clear hk)
              (try clear hi)
              refine hK.out _ _ (bC5_ BK473.out) (fun hHeld => ?_)
              clear hK K
              refine norm_ (a' := ?_) ?_ ?_
              rotate_left
              ·show Act.put _ (some 21) _ = _
               simp only [pt_, pn_, sI_, s0_, s1_, i64_w, i32_w]
               rfl
              refine pU_ 12 (some 22) (mk_ 17 8191) ?_
              refine pU_ 13 (some 3) (mk_ 17 16383) ?_
              refine pU_ 14 (some 4) (mk_ 17 32767) ?_
              refine pU_ 15 (some 5) (mk_ 17 65535) ?_
              refine pU_ 16 (some 6) (mk_ 17 131071) ?_
              refine done_ (done_of HT_.out (by kernel_rfl)) ?_
              obtain ⟨hcz138_0, hcz138_1, hcz138_2, hcz138_3, hcz138_4, hfz138_0, hfz138_1, hfz138_2, hfz138_3, hfz138_4⟩ := bR5_ BK473.out
              try go_wp2
              go_ret
              exact fI_ HB.out
             ·rw [if_neg c129] at H
              exact absurd H (by simp)
            ·rw [if_neg c128] at H
             have c128b0 : (a0_0 == 10) = false := beq_eq_false_iff_ne.mpr c128
             have c128b1 : (a0_0 != 10) = true := bne_iff_ne.mpr c128
             by_cases c139 : a0_0 = 11
             ·rw [if_pos c139] at H
              have c139b0 : (a0_0 == 11) = true := beq_iff_eq.mpr c139
              have c139b1 : (a0_0 != 11) = false := bne_eq_false_iff_eq.mpr c139
              clear c139
              by_cases c140 : 4 + t476.size ≤ 9223372036854775807
              ·rw [if_pos c140] at H
               have c140b0 := eq_true c140
               have c140b1 : decide (4 + t476.size ≤ 9223372036854775807) = true := decide_eq_true c140
               try have c140b2 : (9223372036854775807 < 4 + t476.size) = False := eq_false (Nat.not_lt.2 c140)
               by_cases c141 : ((⟨#[122, 101, 114, 111]⟩ : ByteArray) ++ t476).size + ((⟨#[32]⟩ : ByteArray) ++ t478).size ≤ 9223372036854775807
               ·rw [if_pos c141] at H
                have c141b0 := eq_true c141
                have c141b1 : decide (((⟨#[122, 101, 114, 111]⟩ : ByteArray) ++ t476).size + ((⟨#[32]⟩ : ByteArray) ++ t478).size ≤ 9223372036854775807) = true := decide_eq_true c141
                (try (have c141n := c141; simp only [ByteArray.size_append, Tab.sz_mk, List.size_toArray, List.length_cons, List.length_nil, Nat.zero_add, Nat.reduceAdd] at c141n; have c141b4 := eq_true c141n; have c141b5 := eq_false (Nat.not_lt.2 c141n)))
                try have c141b2 : (9223372036854775807 < ((⟨#[122, 101, 114, 111]⟩ : ByteArray) ++ t476).size + ((⟨#[32]⟩ : ByteArray) ++ t478).size) = False := eq_false (Nat.not_lt.2 c141)
                obtain rfl := Option.some.inj H
                go_enter Tryd.func15, Tryd.ntmps15
                try go_wp2_with (first | ((with_reducible refine gate_dst (N := 1) rfl ?_); refine bX_ 1 (cs := #[.int .i64 a0_0, .int .i64 a0_1, .int .i64 a0_2, .int .i64 a0_3, .int .i64 a0_4]) (t := 25) ?_; intro gb473 hg w142 hbox hb; have n0 := aM_ (sT_ HB.out hb); have n1 := aM_ (hbox); have n2 := aM_ (sZ_ hg HB.out); have n3 := aM_ (sZ_ hg HB.out); clear HB; have HB := n0; have BK473 := n1; have GW473 := n2; have GE473 := n3; clear n0 n1 n2 n3; clear hb hbox hg; obtain ⟨hcz143_0, hcz143_1, hcz143_2, hcz143_3, hcz143_4, hfz143_0, hfz143_1, hfz143_2, hfz143_3, hfz143_4⟩ := bR5_ BK473.out) | ((with_reducible refine gate_callee (f := 45) rfl ?_); refine gL_ (some 8) Tryd.func45 #[.agg #[.int .i64 a0_0, .int .i64 a0_1, .int .i64 a0_2, .int .i64 a0_3, .int .i64 a0_4], .int .i64 800] ?_; (with_reducible refine (spec_StepOk.calls k a0_0 a0_1 a0_2 a0_3 a0_4 800 true _ A2.out).mono ?_); rintro e w144 ⟨rfl, hb⟩; refine ⟨_, rfl, ?_⟩; have n0 := aM_ (nB_ BK473.out hb); have n1 := aM_ (sT_ HB.out hb); clear BK473; clear HB; have BK473 := n0; have HB := n1; clear n0 n1))
                (all_goals try (exfalso; have e1_ : (⟨#[32]⟩ : ByteArray).size = 1 := rfl; have e2_ : (⟨#[10]⟩ : ByteArray).size = 1 := rfl; simp only [ByteArray.size_append] at c141; omega))
                have n0 := aM_ (blk_drew BK473.out)
                have n1 := aM_ (below_drew1 HB.out)
                clear BK473
                clear HB
                have BK473 := n0
                have HB := n1
                clear n0 n1
                refine start_ (n := 17) (S := fun w' => w'.cell? ⟨gb473, 0, none⟩ = some (.int .i64 a0_0) ∧ w'.cell? ⟨gb473, 1, none⟩ = some (.int .i64 a0_1) ∧ w'.cell? ⟨gb473, 2, none⟩ = some (.int .i64 a0_2) ∧ w'.cell? ⟨gb473, 3, none⟩ = some (.int .i64 a0_3) ∧ w'.cell? ⟨gb473, 4, none⟩ = some (.int .i64 a0_4)) (ds := []) (mk_ 17 0) (by kernel_rfl) rfl rfl (bC5_ BK473.out) (fun hHeld => ?_); refine with_tabW spec_StepText.tab3 spec_StepText.bits3 (fun HT_ HW_ => ?_)
                generalize w144.drew = w145 at BK473 HB hHeld ⊢
                refine pU_ 0 (some 10) (mk_ 17 1) ?_
                refine pU_ 3 (some 13) (mk_ 17 9) ?_
                refine pU_ 6 (some 16) (mk_ 17 73) ?_
                refine pU_ 9 (some 19) (mk_ 17 585) ?_
                refine tK5_ 1 (some 11) (mk_ 17 587) ?_
                refine tK5_ 4 (some 14) (mk_ 17 603) ?_
                refine tK5_ 7 (some 17) (mk_ 17 731) ?_
                refine tK5_ 10 (some 20) (mk_ 17 1755) ?_
                refine oN_ 2 (some 12) (mk_ 17 1759) (fun K hK => ?_)
                refine gO_ Tryd.func46 #[.int .i64 a0_1] ?_
                with_reducible refine (spec_l16R.calls k a0_1 t475 _ A4.out).mono ?_
                rintro e w146 ⟨rfl, hb⟩
                refine ⟨_, rfl, ?_⟩
                have n0 := aM_ (nB_ BK473.out hb)
                have n1 := aM_ (sT_ HB.out hb)
                clear BK473
                clear HB
                have BK473 := n0
                have HB := n1
                clear n0 n1
                (try clear hb)
                (try clear hb2)
                (try clear hk)
                (try clear hi)
                refine hK.out _ _ (bC5_ BK473.out) (fun hHeld => ?_)
                clear hK K
                refine norm_ (a' := ?_) ?_ ?_
                rotate_left
                ·show Act.put _ (some 12) _ = _
                 simp only [pt_, pn_, sI_, s0_, s1_, i64_w, i32_w]
                 rfl
                refine oN_ 5 (some 15) (mk_ 17 1791) (fun K hK => ?_)
                refine gO_ Tryd.func46 #[.int .i64 a0_2] ?_
                with_reducible refine (spec_l16R.calls k a0_2 t476 _ A5.out).mono ?_
                rintro e w147 ⟨rfl, hb⟩
                refine ⟨_, rfl, ?_⟩
                have n0 := aM_ (nB_ BK473.out hb)
                have n1 := aM_ (sT_ HB.out hb)
                clear BK473
                clear HB
                have BK473 := n0
                have HB := n1
                clear n0 n1
                (try clear hb)
                (try clear hb2)
                (try clear hk)
                (try clear hi)
                refine hK.out _ _ (bC5_ BK473.out) (fun hHeld => ?_)
                clear hK K
                refine norm_ (a' := ?_) ?_ ?_
                rotate_left
                ·show Act.put _ (some 15) _ = _
                 simp only [pt_, pn_, sI_, s0_, s1_, i64_w, i32_w]
                 rfl
                refine oN_ 8 (some 18) (mk_ 17 2047) (fun K hK => ?_)
                refine gO_ Tryd.func46 #[.int .i64 a0_3] ?_
                with_reducible refine (spec_l16R.calls k a0_3 t477 _ A6.out).mono ?_
                rintro e w148 ⟨rfl, hb⟩
                refine ⟨_, rfl, ?_⟩
                have n0 := aM_ (nB_ BK473.out hb)
                have n1 := aM_ (sT_ HB.out hb)
                clear BK473
                clear HB
                have BK473 := n0
                have HB := n1
                clear n0 n1
                (try clear hb)
                (try clear hb2)
                (try clear hk)
                (try clear hi)
                refine hK.out _ _ (bC5_ BK473.out) (fun hHeld => ?_)
                clear hK K
                refine norm_ (a' := ?_) ?_ ?_
                rotate_left
                ·show Act.put _ (some 18) _ = _
                 simp only [pt_, pn_, sI_, s0_, s1_, i64_w, i32_w]
                 rfl
                refine oN_ 11 (some 21) (mk_ 17 4095) (fun K hK => ?_)
                refine gO_ Tryd.func47 #[.int .i64 a0_4] ?_
                with_reducible refine (spec_l2Digits.calls k a0_4 t478 _ A7.out).mono ?_
                rintro e w149 ⟨rfl, hb⟩
                refine ⟨_, rfl, ?_⟩
                have n0 := aM_ (nB_ BK473.out hb)
                have n1 := aM_ (sT_ HB.out hb)
                clear BK473
                clear HB
                have BK473 := n0
                have HB := n1
                clear n0 n1
                (try clear hb)
                (try clear hb2)
                (try clear hk)
                (try clear hi)
                refine hK.out _ _ (bC5_ BK473.out) (fun hHeld => ?_)
                clear hK K
                refine norm_ (a' := ?_) ?_ ?_
                rotate_left
                ·show Act.put _ (some 21) _ = _
                 simp only [pt_, pn_, sI_, s0_, s1_, i64_w, i32_w]
                 rfl
                refine pU_ 12 (some 22) (mk_ 17 8191) ?_
                refine pU_ 13 (some 3) (mk_ 17 16383) ?_
                refine pU_ 14 (some 4) (mk_ 17 32767) ?_
                refine pU_ 15 (some 5) (mk_ 17 65535) ?_
                refine pU_ 16 (some 6) (mk_ 17 131071) ?_
                refine done_ (done_of HT_.out (by kernel_rfl)) ?_
                obtain ⟨hcz150_0, hcz150_1, hcz150_2, hcz150_3, hcz150_4, hfz150_0, hfz150_1, hfz150_2, hfz150_3, hfz150_4⟩ := bR5_ BK473.out
                try go_wp2
                go_ret
                exact fI_ HB.out
               ·rw [if_neg c141] at H
                exact absurd H (by simp)
              ·rw [if_neg c140] at H
               exact absurd H (by simp)
             ·rw [if_neg c139] at H
              have c139b0 : (a0_0 == 11) = false := beq_eq_false_iff_ne.mpr c139
              have c139b1 : (a0_0 != 11) = true := bne_iff_ne.mpr c139
              by_cases c151 : a0_0 = 12
              ·rw [if_pos c151] at H
               have c151b0 : (a0_0 == 12) = true := beq_iff_eq.mpr c151
               have c151b1 : (a0_0 != 12) = false := bne_eq_false_iff_eq.mpr c151
               clear c151
               obtain rfl := Option.some.inj H
               go_enter Tryd.func15, Tryd.ntmps15
               try go_wp2_with (first | ((with_reducible refine gate_dst (N := 1) rfl ?_); refine bX_ 1 (cs := #[.int .i64 a0_0, .int .i64 a0_1, .int .i64 a0_2, .int .i64 a0_3, .int .i64 a0_4]) (t := 25) ?_; intro gb473 hg w152 hbox hb; have n0 := aM_ (sT_ HB.out hb); have n1 := aM_ (hbox); have n2 := aM_ (sZ_ hg HB.out); have n3 := aM_ (sZ_ hg HB.out); clear HB; have HB := n0; have BK473 := n1; have GW473 := n2; have GE473 := n3; clear n0 n1 n2 n3; clear hb hbox hg; obtain ⟨hcz153_0, hcz153_1, hcz153_2, hcz153_3, hcz153_4, hfz153_0, hfz153_1, hfz153_2, hfz153_3, hfz153_4⟩ := bR5_ BK473.out) | ((with_reducible refine gate_callee (f := 45) rfl ?_); refine gL_ (some 8) Tryd.func45 #[.agg #[.int .i64 a0_0, .int .i64 a0_1, .int .i64 a0_2, .int .i64 a0_3, .int .i64 a0_4], .int .i64 800] ?_; (with_reducible refine (spec_StepOk.calls k a0_0 a0_1 a0_2 a0_3 a0_4 800 true _ A2.out).mono ?_); rintro e w154 ⟨rfl, hb⟩; refine ⟨_, rfl, ?_⟩; have n0 := aM_ (nB_ BK473.out hb); have n1 := aM_ (sT_ HB.out hb); clear BK473; clear HB; have BK473 := n0; have HB := n1; clear n0 n1))
               have n0 := aM_ (blk_drew BK473.out)
               have n1 := aM_ (below_drew1 HB.out)
               clear BK473
               clear HB
               have BK473 := n0
               have HB := n1
               clear n0 n1
               refine start_ (n := 17) (S := fun w' => w'.cell? ⟨gb473, 0, none⟩ = some (.int .i64 a0_0) ∧ w'.cell? ⟨gb473, 1, none⟩ = some (.int .i64 a0_1) ∧ w'.cell? ⟨gb473, 2, none⟩ = some (.int .i64 a0_2) ∧ w'.cell? ⟨gb473, 3, none⟩ = some (.int .i64 a0_3) ∧ w'.cell? ⟨gb473, 4, none⟩ = some (.int .i64 a0_4)) (ds := []) (mk_ 17 0) (by kernel_rfl) rfl rfl (bC5_ BK473.out) (fun hHeld => ?_); refine with_tabW spec_StepText.tab3 spec_StepText.bits3 (fun HT_ HW_ => ?_)
               generalize w154.drew = w155 at BK473 HB hHeld ⊢
               refine pU_ 0 (some 10) (mk_ 17 1) ?_
               refine pU_ 3 (some 13) (mk_ 17 9) ?_
               refine pU_ 6 (some 16) (mk_ 17 73) ?_
               refine pU_ 9 (some 19) (mk_ 17 585) ?_
               refine tK5_ 1 (some 11) (mk_ 17 587) ?_
               refine tK5_ 4 (some 14) (mk_ 17 603) ?_
               refine tK5_ 7 (some 17) (mk_ 17 731) ?_
               refine tK5_ 10 (some 20) (mk_ 17 1755) ?_
               refine oN_ 2 (some 12) (mk_ 17 1759) (fun K hK => ?_)
               refine gO_ Tryd.func46 #[.int .i64 a0_1] ?_
               with_reducible refine (spec_l16R.calls k a0_1 t475 _ A4.out).mono ?_
               rintro e w156 ⟨rfl, hb⟩
               refine ⟨_, rfl, ?_⟩
               have n0 := aM_ (nB_ BK473.out hb)
               have n1 := aM_ (sT_ HB.out hb)
               clear BK473
               clear HB
               have BK473 := n0
               have HB := n1
               clear n0 n1
               (try clear hb)
               (try clear hb2)
               (try clear hk)
               (try clear hi)
               refine hK.out _ _ (bC5_ BK473.out) (fun hHeld => ?_)
               clear hK K
               refine norm_ (a' := ?_) ?_ ?_
               rotate_left
               ·show Act.put _ (some 12) _ = _
                simp only [pt_, pn_, sI_, s0_, s1_, i64_w, i32_w]
                rfl
               refine oN_ 5 (some 15) (mk_ 17 1791) (fun K hK => ?_)
               refine gO_ Tryd.func46 #[.int .i64 a0_2] ?_
               with_reducible refine (spec_l16R.calls k a0_2 t476 _ A5.out).mono ?_
               rintro e w157 ⟨rfl, hb⟩
               refine ⟨_, rfl, ?_⟩
               have n0 := aM_ (nB_ BK473.out hb)
               have n1 := aM_ (sT_ HB.out hb)
               clear BK473
               clear HB
               have BK473 := n0
               have HB := n1
               clear n0 n1
               (try clear hb)
               (try clear hb2)
               (try clear hk)
               (try clear hi)
               refine hK.out _ _ (bC5_ BK473.out) (fun hHeld => ?_)
               clear hK K
               refine norm_ (a' := ?_) ?_ ?_
               rotate_left
               ·show Act.put _ (some 15) _ = _
                simp only [pt_, pn_, sI_, s0_, s1_, i64_w, i32_w]
                rfl
               refine oN_ 8 (some 18) (mk_ 17 2047) (fun K hK => ?_)
               refine gO_ Tryd.func46 #[.int .i64 a0_3] ?_
               with_reducible refine (spec_l16R.calls k a0_3 t477 _ A6.out).mono ?_
               rintro e w158 ⟨rfl, hb⟩
               refine ⟨_, rfl, ?_⟩
               have n0 := aM_ (nB_ BK473.out hb)
               have n1 := aM_ (sT_ HB.out hb)
               clear BK473
               clear HB
               have BK473 := n0
               have HB := n1
               clear n0 n1
               (try clear hb)
               (try clear hb2)
               (try clear hk)
               (try clear hi)
               refine hK.out _ _ (bC5_ BK473.out) (fun hHeld => ?_)
               clear hK K
               refine norm_ (a' := ?_) ?_ ?_
               rotate_left
               ·show Act.put _ (some 18) _ = _
                simp only [pt_, pn_, sI_, s0_, s1_, i64_w, i32_w]
                rfl
               refine oN_ 11 (some 21) (mk_ 17 4095) (fun K hK => ?_)
               refine gO_ Tryd.func47 #[.int .i64 a0_4] ?_
               with_reducible refine (spec_l2Digits.calls k a0_4 t478 _ A7.out).mono ?_
               rintro e w159 ⟨rfl, hb⟩
               refine ⟨_, rfl, ?_⟩
               have n0 := aM_ (nB_ BK473.out hb)
               have n1 := aM_ (sT_ HB.out hb)
               clear BK473
               clear HB
               have BK473 := n0
               have HB := n1
               clear n0 n1
               (try clear hb)
               (try clear hb2)
               (try clear hk)
               (try clear hi)
               refine hK.out _ _ (bC5_ BK473.out) (fun hHeld => ?_)
               clear hK K
               refine norm_ (a' := ?_) ?_ ?_
               rotate_left
               ·show Act.put _ (some 21) _ = _
                simp only [pt_, pn_, sI_, s0_, s1_, i64_w, i32_w]
                rfl
               refine pU_ 12 (some 22) (mk_ 17 8191) ?_
               refine pU_ 13 (some 3) (mk_ 17 16383) ?_
               refine pU_ 14 (some 4) (mk_ 17 32767) ?_
               refine pU_ 15 (some 5) (mk_ 17 65535) ?_
               refine pU_ 16 (some 6) (mk_ 17 131071) ?_
               refine done_ (done_of HT_.out (by kernel_rfl)) ?_
               obtain ⟨hcz160_0, hcz160_1, hcz160_2, hcz160_3, hcz160_4, hfz160_0, hfz160_1, hfz160_2, hfz160_3, hfz160_4⟩ := bR5_ BK473.out
               try go_wp2
               go_ret
               exact fI_ HB.out
              ·rw [if_neg c151] at H
               have c151b0 : (a0_0 == 12) = false := beq_eq_false_iff_ne.mpr c151
               have c151b1 : (a0_0 != 12) = true := bne_iff_ne.mpr c151
               obtain rfl := Option.some.inj H
               go_enter Tryd.func15, Tryd.ntmps15
               try go_wp2_with (first | ((with_reducible refine gate_dst (N := 1) rfl ?_); refine bX_ 1 (cs := #[.int .i64 a0_0, .int .i64 a0_1, .int .i64 a0_2, .int .i64 a0_3, .int .i64 a0_4]) (t := 25) ?_; intro gb473 hg w161 hbox hb; have n0 := aM_ (sT_ HB.out hb); have n1 := aM_ (hbox); have n2 := aM_ (sZ_ hg HB.out); have n3 := aM_ (sZ_ hg HB.out); clear HB; have HB := n0; have BK473 := n1; have GW473 := n2; have GE473 := n3; clear n0 n1 n2 n3; clear hb hbox hg; obtain ⟨hcz162_0, hcz162_1, hcz162_2, hcz162_3, hcz162_4, hfz162_0, hfz162_1, hfz162_2, hfz162_3, hfz162_4⟩ := bR5_ BK473.out) | ((with_reducible refine gate_callee (f := 45) rfl ?_); refine gL_ (some 8) Tryd.func45 #[.agg #[.int .i64 a0_0, .int .i64 a0_1, .int .i64 a0_2, .int .i64 a0_3, .int .i64 a0_4], .int .i64 800] ?_; (with_reducible refine (spec_StepOk.calls k a0_0 a0_1 a0_2 a0_3 a0_4 800 true _ A2.out).mono ?_); rintro e w163 ⟨rfl, hb⟩; refine ⟨_, rfl, ?_⟩; have n0 := aM_ (nB_ BK473.out hb); have n1 := aM_ (sT_ HB.out hb); clear BK473; clear HB; have BK473 := n0; have HB := n1; clear n0 n1))
               have n0 := aM_ (blk_drew BK473.out)
               have n1 := aM_ (below_drew1 HB.out)
               clear BK473
               clear HB
               have BK473 := n0
               have HB := n1
               clear n0 n1
               refine start_ (n := 17) (S := fun w' => w'.cell? ⟨gb473, 0, none⟩ = some (.int .i64 a0_0) ∧ w'.cell? ⟨gb473, 1, none⟩ = some (.int .i64 a0_1) ∧ w'.cell? ⟨gb473, 2, none⟩ = some (.int .i64 a0_2) ∧ w'.cell? ⟨gb473, 3, none⟩ = some (.int .i64 a0_3) ∧ w'.cell? ⟨gb473, 4, none⟩ = some (.int .i64 a0_4)) (ds := []) (mk_ 17 0) (by kernel_rfl) rfl rfl (bC5_ BK473.out) (fun hHeld => ?_); refine with_tabW spec_StepText.tab3 spec_StepText.bits3 (fun HT_ HW_ => ?_)
               generalize w163.drew = w164 at BK473 HB hHeld ⊢
               refine pU_ 0 (some 10) (mk_ 17 1) ?_
               refine pU_ 3 (some 13) (mk_ 17 9) ?_
               refine pU_ 6 (some 16) (mk_ 17 73) ?_
               refine pU_ 9 (some 19) (mk_ 17 585) ?_
               refine tK5_ 1 (some 11) (mk_ 17 587) ?_
               refine tK5_ 4 (some 14) (mk_ 17 603) ?_
               refine tK5_ 7 (some 17) (mk_ 17 731) ?_
               refine tK5_ 10 (some 20) (mk_ 17 1755) ?_
               refine oN_ 2 (some 12) (mk_ 17 1759) (fun K hK => ?_)
               refine gO_ Tryd.func46 #[.int .i64 a0_1] ?_
               with_reducible refine (spec_l16R.calls k a0_1 t475 _ A4.out).mono ?_
               rintro e w165 ⟨rfl, hb⟩
               refine ⟨_, rfl, ?_⟩
               have n0 := aM_ (nB_ BK473.out hb)
               have n1 := aM_ (sT_ HB.out hb)
               clear BK473
               clear HB
               have BK473 := n0
               have HB := n1
               clear n0 n1
               (try clear hb)
               (try clear hb2)
               (try clear hk)
               (try clear hi)
               refine hK.out _ _ (bC5_ BK473.out) (fun hHeld => ?_)
               clear hK K
               refine norm_ (a' := ?_) ?_ ?_
               rotate_left
               ·show Act.put _ (some 12) _ = _
                simp only [pt_, pn_, sI_, s0_, s1_, i64_w, i32_w]
                rfl
               refine oN_ 5 (some 15) (mk_ 17 1791) (fun K hK => ?_)
               refine gO_ Tryd.func46 #[.int .i64 a0_2] ?_
               with_reducible refine (spec_l16R.calls k a0_2 t476 _ A5.out).mono ?_
               rintro e w166 ⟨rfl, hb⟩
               refine ⟨_, rfl, ?_⟩
               have n0 := aM_ (nB_ BK473.out hb)
               have n1 := aM_ (sT_ HB.out hb)
               clear BK473
               clear HB
               have BK473 := n0
               have HB := n1
               clear n0 n1
               (try clear hb)
               (try clear hb2)
               (try clear hk)
               (try clear hi)
               refine hK.out _ _ (bC5_ BK473.out) (fun hHeld => ?_)
               clear hK K
               refine norm_ (a' := ?_) ?_ ?_
               rotate_left
               ·show Act.put _ (some 15) _ = _
                simp only [pt_, pn_, sI_, s0_, s1_, i64_w, i32_w]
                rfl
               refine oN_ 8 (some 18) (mk_ 17 2047) (fun K hK => ?_)
               refine gO_ Tryd.func46 #[.int .i64 a0_3] ?_
               with_reducible refine (spec_l16R.calls k a0_3 t477 _ A6.out).mono ?_
               rintro e w167 ⟨rfl, hb⟩
               refine ⟨_, rfl, ?_⟩
               have n0 := aM_ (nB_ BK473.out hb)
               have n1 := aM_ (sT_ HB.out hb)
               clear BK473
               clear HB
               have BK473 := n0
               have HB := n1
               clear n0 n1
               (try clear hb)
               (try clear hb2)
               (try clear hk)
               (try clear hi)
               refine hK.out _ _ (bC5_ BK473.out) (fun hHeld => ?_)
               clear hK K
               refine norm_ (a' := ?_) ?_ ?_
               rotate_left
               ·show Act.put _ (some 18) _ = _
                simp only [pt_, pn_, sI_, s0_, s1_, i64_w, i32_w]
                rfl
               refine oN_ 11 (some 21) (mk_ 17 4095) (fun K hK => ?_)
               refine gO_ Tryd.func47 #[.int .i64 a0_4] ?_
               with_reducible refine (spec_l2Digits.calls k a0_4 t478 _ A7.out).mono ?_
               rintro e w168 ⟨rfl, hb⟩
               refine ⟨_, rfl, ?_⟩
               have n0 := aM_ (nB_ BK473.out hb)
               have n1 := aM_ (sT_ HB.out hb)
               clear BK473
               clear HB
               have BK473 := n0
               have HB := n1
               clear n0 n1
               (try clear hb)
               (try clear hb2)
               (try clear hk)
               (try clear hi)
               refine hK.out _ _ (bC5_ BK473.out) (fun hHeld => ?_)
               clear hK K
               refine norm_ (a' := ?_) ?_ ?_
               rotate_left
               ·show Act.put _ (some 21) _ = _
                simp only [pt_, pn_, sI_, s0_, s1_, i64_w, i32_w]
                rfl
               refine pU_ 12 (some 22) (mk_ 17 8191) ?_
               refine pU_ 13 (some 3) (mk_ 17 16383) ?_
               refine pU_ 14 (some 4) (mk_ 17 32767) ?_
               refine pU_ 15 (some 5) (mk_ 17 65535) ?_
               refine pU_ 16 (some 6) (mk_ 17 131071) ?_
               refine done_ (done_of HT_.out (by kernel_rfl)) ?_
               obtain ⟨hcz169_0, hcz169_1, hcz169_2, hcz169_3, hcz169_4, hfz169_0, hfz169_1, hfz169_2, hfz169_3, hfz169_4⟩ := bR5_ BK473.out
               try go_wp2
               go_ret
               exact fI_ HB.out
  ·rw [if_neg c8] at H
   exact absurd H (by simp)
 ·replace c3 := Bool.eq_false_iff.mpr c3
  subst c3
  have H1 : (some (⟨#[]⟩ : ByteArray)) = some r := by rw [if_neg (show ¬ (false = true) by decide)] at H; exact H
  clear H
  have H := H1
  clear H1
  obtain rfl := Option.some.inj H
  go_enter Tryd.func15, Tryd.ntmps15
  go_wp2_with (first | ((with_reducible refine gate_dst (N := 1) rfl ?_); refine bX_ 1 (cs := #[.int .i64 a0_0, .int .i64 a0_1, .int .i64 a0_2, .int .i64 a0_3, .int .i64 a0_4]) (t := 25) ?_; intro gb473 hg w170 hbox hb; have n0 := aM_ (sT_ HB.out hb); have n1 := aM_ (hbox); have n2 := aM_ (sZ_ hg HB.out); have n3 := aM_ (sZ_ hg HB.out); clear HB; have HB := n0; have BK473 := n1; have GW473 := n2; have GE473 := n3; clear n0 n1 n2 n3; clear hb hbox hg; obtain ⟨hcz171_0, hcz171_1, hcz171_2, hcz171_3, hcz171_4, hfz171_0, hfz171_1, hfz171_2, hfz171_3, hfz171_4⟩ := bR5_ BK473.out) | ((with_reducible refine gate_callee (f := 45) rfl ?_); refine gL_ (some 8) Tryd.func45 #[.agg #[.int .i64 a0_0, .int .i64 a0_1, .int .i64 a0_2, .int .i64 a0_3, .int .i64 a0_4], .int .i64 800] ?_; (with_reducible refine (spec_StepOk.calls k a0_0 a0_1 a0_2 a0_3 a0_4 800 false _ A2.out).mono ?_); rintro e w172 ⟨rfl, hb⟩; refine ⟨_, rfl, ?_⟩; have n0 := aM_ (nB_ BK473.out hb); have n1 := aM_ (sT_ HB.out hb); clear BK473; clear HB; have BK473 := n0; have HB := n1; clear n0 n1))
  go_ret
  exact fI_ HB.out
end Go.Proofs.YtdbobicbbfmepaaDoor.PFnTexts
