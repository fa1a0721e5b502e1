/- A part of the proof that the law FnExactCodeText holds for every input: the words, functions and walks that its row needs, without a condition of their own. -/
import Derived.Test.YtkjfcmgpplapeaaDoorZFnExactCodeTexta4
import Derived.Test.YtkjfcmgpplapeaaDoorZFnExactCodeTexta5
import Derived.Test.YtkjfcmgpplapeaaDoorZFnExactCodeTexta6
import Derived.Test.YtkjfcmgpplapeaaDoorZFnExactCodeTexts
namespace Go.Proofs.YtkjfcmgpplapeaaDoor.PFnExactCodeText
open Go.RowKit Go.Proofs.YtkjfcmgpplapeaaDoorW.PrintWords Go.Proofs.YtkjfcmgpplapeaaDoorW.PrintLast Go.Proofs.YtkjfcmgpplapeaaDoorW.PrintMore
attribute [local go_sem] max2_int min2_int max_two min_two max_three min_three max_four min_four   -- for this text's walks alone
set_option linter.unusedVariables false
set_option linter.unusedSimpArgs false
def spec_StepText.f (k : Nat) (a0_0 : Int) (a0_1 : Int) (a0_2 : Int) (a0_3 : Int) (a0_4 : Int) : Option (ByteArray) := (spec_StepOk.f k a0_0 a0_1 a0_2 a0_3 a0_4 800).bind fun t120 => (if t120 = true then ((spec_l16R.f k a0_1).bind fun t121 => ((spec_l16R.f k a0_2).bind fun t122 => ((spec_l16R.f k a0_3).bind fun t123 => ((spec_l2Digits.f k a0_4).bind fun t124 => (if 1 + t124.size ≤ 9223372036854775807 then (if a0_0 = 1 then (if 3 + t121.size ≤ 9223372036854775807 then (if ((⟨#[115, 101, 116]⟩ : ByteArray) ++ t121).size + ((⟨#[32]⟩ : ByteArray) ++ t124).size ≤ 9223372036854775807 then (some (((⟨#[115, 101, 116]⟩ : ByteArray) ++ t121) ++ ((⟨#[32]⟩ : ByteArray) ++ t124))) else (none)) else (none)) else (if a0_0 = 2 then (if 3 + t121.size ≤ 9223372036854775807 then (if ((⟨#[97, 100, 100]⟩ : ByteArray) ++ t121).size + t122.size ≤ 9223372036854775807 then (if (((⟨#[97, 100, 100]⟩ : ByteArray) ++ t121) ++ t122).size + t123.size ≤ 9223372036854775807 then (some ((((⟨#[97, 100, 100]⟩ : ByteArray) ++ t121) ++ t122) ++ t123)) else (none)) else (none)) else (none)) else (if a0_0 = 3 then (if 3 + t121.size ≤ 9223372036854775807 then (if ((⟨#[115, 117, 98]⟩ : ByteArray) ++ t121).size + t122.size ≤ 9223372036854775807 then (if (((⟨#[115, 117, 98]⟩ : ByteArray) ++ t121) ++ t122).size + t123.size ≤ 9223372036854775807 then (some ((((⟨#[115, 117, 98]⟩ : ByteArray) ++ t121) ++ t122) ++ t123)) else (none)) else (none)) else (none)) else (if a0_0 = 4 then (if 4 + t121.size ≤ 9223372036854775807 then (if ((⟨#[108, 101, 115, 115]⟩ : ByteArray) ++ t121).size + t122.size ≤ 9223372036854775807 then (if (((⟨#[108, 101, 115, 115]⟩ : ByteArray) ++ t121) ++ t122).size + t123.size ≤ 9223372036854775807 then (some ((((⟨#[108, 101, 115, 115]⟩ : ByteArray) ++ t121) ++ t122) ++ t123)) else (none)) else (none)) else (none)) else (if a0_0 = 5 then (if 4 + t121.size ≤ 9223372036854775807 then ((spec_l16Cell.f k a0_0 a0_1 a0_2 a0_3 a0_4).bind fun t125 => (if ((⟨#[108, 111, 97, 100]⟩ : ByteArray) ++ t121).size + t125.size ≤ 9223372036854775807 then (some (((⟨#[108, 111, 97, 100]⟩ : ByteArray) ++ t121) ++ t125)) else (none))) else (none)) else (if a0_0 = 6 then ((spec_l16Cell.f k a0_0 a0_1 a0_2 a0_3 a0_4).bind fun t126 => (if 5 + t126.size ≤ 9223372036854775807 then (if ((⟨#[115, 116, 111, 114, 101]⟩ : ByteArray) ++ t126).size + t123.size ≤ 9223372036854775807 then (some (((⟨#[115, 116, 111, 114, 101]⟩ : ByteArray) ++ t126) ++ t123)) else (none)) else (none))) else (if a0_0 = 7 then ((spec_l16Cell.f k a0_0 a0_1 a0_2 a0_3 a0_4).bind fun t127 => (if 3 + t127.size ≤ 9223372036854775807 then (if ((⟨#[108, 101, 116]⟩ : ByteArray) ++ t127).size + t123.size ≤ 9223372036854775807 then (some (((⟨#[108, 101, 116]⟩ : ByteArray) ++ t127) ++ t123)) else (none)) else (none))) else (if a0_0 = 8 then (if 4 + t121.size ≤ 9223372036854775807 then ((spec_l16Cell.f k a0_0 a0_1 a0_2 a0_3 a0_4).bind fun t128 => (if ((⟨#[115, 119, 97, 112]⟩ : ByteArray) ++ t121).size + t128.size ≤ 9223372036854775807 then (if (((⟨#[115, 119, 97, 112]⟩ : ByteArray) ++ t121) ++ t128).size + t123.size ≤ 9223372036854775807 then (some ((((⟨#[115, 119, 97, 112]⟩ : ByteArray) ++ t121) ++ t128) ++ t123)) else (none)) else (none))) else (none)) else (if a0_0 = 9 then (if 5 + t122.size ≤ 9223372036854775807 then (some ((⟨#[112, 114, 105, 110, 116]⟩ : ByteArray) ++ t122)) else (none)) else (if a0_0 = 10 then (if 4 + ((⟨#[32]⟩ : ByteArray) ++ t124).size ≤ 9223372036854775807 then (some ((⟨#[106, 117, 109, 112]⟩ : ByteArray) ++ ((⟨#[32]⟩ : ByteArray) ++ t124))) else (none)) else (if a0_0 = 11 then (if 4 + t122.size ≤ 9223372036854775807 then (if ((⟨#[122, 101, 114, 111]⟩ : ByteArray) ++ t122).size + ((⟨#[32]⟩ : ByteArray) ++ t124).size ≤ 9223372036854775807 then (some (((⟨#[122, 101, 114, 111]⟩ : ByteArray) ++ t122) ++ ((⟨#[32]⟩ : ByteArray) ++ t124))) else (none)) else (none)) else (if a0_0 = 12 then (some (⟨#[101, 110, 100]⟩ : ByteArray)) else (some (⟨#[102, 97, 117, 108, 116]⟩ : ByteArray)))))))))))))) else (none)))))) else (some (⟨#[]⟩ : ByteArray)))
def spec_StepText.T3 : Bool × List (List Nat × List Nat) := (true, [([], []), ([0], [0]), ([1], [1]), ([], []), ([3], [3]), ([4, 2], [4]), ([], []), ([6], [6]), ([7, 5], [7]), ([], []), ([9], [9]), ([10, 8], [10]), ([11], [11]), ([2, 11, 0, 1, 2], [2]), ([5, 13, 0, 1, 2, 3, 4, 5, 13], [5]), ([8, 14, 0, 1, 2, 3, 4, 5, 6, 7, 8, 13, 14], [8]), ([12, 15, 0, 1, 2, 3, 4, 5, 6, 7, 8, 9, 10, 11, 12, 13, 14, 15], [12])])
def spec_StepText.B3 : List Nat := [0, 1, 3, 0, 8, 31, 0, 64, 255, 0, 512, 2047, 4095, 4095, 12287, 28671, 65535]
theorem spec_StepText.tab3 : rtab .any (opsOf Tryd.f27 3) = spec_StepText.T3 := by kernel_rfl
theorem spec_StepText.bits3 : waitsOk spec_StepText.T3.2 spec_StepText.B3 = true := by kernel_rfl
set_option maxHeartbeats 8000000 in
set_option maxRecDepth 100000 in
theorem spec_StepText.callsA (k : Nat) (a0_0 : Int) (a0_1 : Int) (a0_2 : Int) (a0_3 : Int) (a0_4 : Int) (r : ByteArray) (w : World) (h : spec_StepText.f k a0_0 a0_1 a0_2 a0_3 a0_4 = some r) (hA : (a0_0 = 1 ∨ a0_0 = 2 ∨ a0_0 = 3 ∨ a0_0 = 4 ∨ a0_0 = 5)) :
  Calls Tryd.prog 27 #[.agg #[.int .i64 a0_0, .int .i64 a0_1, .int .i64 a0_2, .int .i64 a0_3, .int .i64 a0_4]] w fun e w' => e = .returned (.string r) ∧ Below w.heap.size w w' := by
 have hu46 := Tryd.underlying46
 have HB := Aside0.mk (Below.refl w.heap.size w)
 have H : ((spec_StepOk.f k a0_0 a0_1 a0_2 a0_3 a0_4 800).bind fun t120 => (if t120 = true then ((spec_l16R.f k a0_1).bind fun t121 => ((spec_l16R.f k a0_2).bind fun t122 => ((spec_l16R.f k a0_3).bind fun t123 => ((spec_l2Digits.f k a0_4).bind fun t124 => (if 1 + t124.size ≤ 9223372036854775807 then (if a0_0 = 1 then (if 3 + t121.size ≤ 9223372036854775807 then (if ((⟨#[115, 101, 116]⟩ : ByteArray) ++ t121).size + ((⟨#[32]⟩ : ByteArray) ++ t124).size ≤ 9223372036854775807 then (some (((⟨#[115, 101, 116]⟩ : ByteArray) ++ t121) ++ ((⟨#[32]⟩ : ByteArray) ++ t124))) else (none)) else (none)) else (if a0_0 = 2 then (if 3 + t121.size ≤ 9223372036854775807 then (if ((⟨#[97, 100, 100]⟩ : ByteArray) ++ t121).size + t122.size ≤ 9223372036854775807 then (if (((⟨#[97, 100, 100]⟩ : ByteArray) ++ t121) ++ t122).size + t123.size ≤ 9223372036854775807 then (some ((((⟨#[97, 100, 100]⟩ : ByteArray) ++ t121) ++ t122) ++ t123)) else (none)) else (none)) else (none)) else (if a0_0 = 3 then (if 3 + t121.size ≤ 9223372036854775807 then (if ((⟨#[115, 117, 98]⟩ : ByteArray) ++ t121).size + t122.size ≤ 9223372036854775807 then (if (((⟨#[115, 117, 98]⟩ : ByteArray) ++ t121) ++ t122).size + t123.size ≤ 9223372036854775807 then (some ((((⟨#[115, 117, 98]⟩ : ByteArray) ++ t121) ++ t122) ++ t123)) else (none)) else (none)) else (none)) else (if a0_0 = 4 then (if 4 + t121.size ≤ 9223372036854775807 then (if ((⟨#[108, 101, 115, 115]⟩ : ByteArray) ++ t121).size + t122.size ≤ 9223372036854775807 then (if (((⟨#[108, 101, 115, 115]⟩ : ByteArray) ++ t121) ++ t122).size + t123.size ≤ 9223372036854775807 then (some ((((⟨#[108, 101, 115, 115]⟩ : ByteArray) ++ t121) ++ t122) ++ t123)) else (none)) else (none)) else (none)) else (if a0_0 = 5 then (if 4 + t121.size ≤ 9223372036854775807 then ((spec_l16Cell.f k a0_0 a0_1 a0_2 a0_3 a0_4).bind fun t125 => (if ((⟨#[108, 111, 97, 100]⟩ : ByteArray) ++ t121).size + t125.size ≤ 9223372036854775807 then (some (((⟨#[108, 111, 97, 100]⟩ : ByteArray) ++ t121) ++ t125)) else (none))) else (none)) else (if a0_0 = 6 then ((spec_l16Cell.f k a0_0 a0_1 a0_2 a0_3 a0_4).bind fun t126 => (if 5 + t126.size ≤ 9223372036854775807 then (if ((⟨#[115, 116, 111, 114, 101]⟩ : ByteArray) ++ t126).size + t123.size ≤ 9223372036854775807 then (some (((⟨#[115, 116, 111, 114, 101]⟩ : ByteArray) ++ t126) ++ t123)) else (none)) else (none))) else (if a0_0 = 7 then ((spec_l16Cell.f k a0_0 a0_1 a0_2 a0_3 a0_4).bind fun t127 => (if 3 + t127.size ≤ 9223372036854775807 then (if ((⟨#[108, 101, 116]⟩ : ByteArray) ++ t127).size + t123.size ≤ 9223372036854775807 then (some (((⟨#[108, 101, 116]⟩ : ByteArray) ++ t127) ++ t123)) else (none)) else (none))) else (if a0_0 = 8 then (if 4 + t121.size ≤ 9223372036854775807 then ((spec_l16Cell.f k a0_0 a0_1 a0_2 a0_3 a0_4).bind fun t128 => (if ((⟨#[115, 119, 97, 112]⟩ : ByteArray) ++ t121).size + t128.size ≤ 9223372036854775807 then (if (((⟨#[115, 119, 97, 112]⟩ : ByteArray) ++ t121) ++ t128).size + t123.size ≤ 9223372036854775807 then (some ((((⟨#[115, 119, 97, 112]⟩ : ByteArray) ++ t121) ++ t128) ++ t123)) else (none)) else (none))) else (none)) else (if a0_0 = 9 then (if 5 + t122.size ≤ 9223372036854775807 then (some ((⟨#[112, 114, 105, 110, 116]⟩ : ByteArray) ++ t122)) else (none)) else (if a0_0 = 10 then (if 4 + ((⟨#[32]⟩ : ByteArray) ++ t124).size ≤ 9223372036854775807 then (some ((⟨#[106, 117, 109, 112]⟩ : ByteArray) ++ ((⟨#[32]⟩ : ByteArray) ++ t124))) else (none)) else (if a0_0 = 11 then (if 4 + t122.size ≤ 9223372036854775807 then (if ((⟨#[122, 101, 114, 111]⟩ : ByteArray) ++ t122).size + ((⟨#[32]⟩ : ByteArray) ++ t124).size ≤ 9223372036854775807 then (some (((⟨#[122, 101, 114, 111]⟩ : ByteArray) ++ t122) ++ ((⟨#[32]⟩ : ByteArray) ++ t124))) else (none)) else (none)) else (if a0_0 = 12 then (some (⟨#[101, 110, 100]⟩ : ByteArray)) else (some (⟨#[102, 97, 117, 108, 116]⟩ : ByteArray)))))))))))))) else (none)))))) else (some (⟨#[]⟩ : ByteArray)))) = some r := h
 clear h
 replace H := Option.bind_eq_some_iff.mp H
 obtain ⟨t120, A20, H⟩ := H
 replace H : (if t120 = true then ((spec_l16R.f k a0_1).bind fun t121 => ((spec_l16R.f k a0_2).bind fun t122 => ((spec_l16R.f k a0_3).bind fun t123 => ((spec_l2Digits.f k a0_4).bind fun t124 => (if 1 + t124.size ≤ 9223372036854775807 then (if a0_0 = 1 then (if 3 + t121.size ≤ 9223372036854775807 then (if ((⟨#[115, 101, 116]⟩ : ByteArray) ++ t121).size + ((⟨#[32]⟩ : ByteArray) ++ t124).size ≤ 9223372036854775807 then (some (((⟨#[115, 101, 116]⟩ : ByteArray) ++ t121) ++ ((⟨#[32]⟩ : ByteArray) ++ t124))) else (none)) else (none)) else (if a0_0 = 2 then (if 3 + t121.size ≤ 9223372036854775807 then (if ((⟨#[97, 100, 100]⟩ : ByteArray) ++ t121).size + t122.size ≤ 9223372036854775807 then (if (((⟨#[97, 100, 100]⟩ : ByteArray) ++ t121) ++ t122).size + t123.size ≤ 9223372036854775807 then (some ((((⟨#[97, 100, 100]⟩ : ByteArray) ++ t121) ++ t122) ++ t123)) else (none)) else (none)) else (none)) else (if a0_0 = 3 then (if 3 + t121.size ≤ 9223372036854775807 then (if ((⟨#[115, 117, 98]⟩ : ByteArray) ++ t121).size + t122.size ≤ 9223372036854775807 then (if (((⟨#[115, 117, 98]⟩ : ByteArray) ++ t121) ++ t122).size + t123.size ≤ 9223372036854775807 then (some ((((⟨#[115, 117, 98]⟩ : ByteArray) ++ t121) ++ t122) ++ t123)) else (none)) else (none)) else (none)) else (if a0_0 = 4 then (if 4 + t121.size ≤ 9223372036854775807 then (if ((⟨#[108, 101, 115, 115]⟩ : ByteArray) ++ t121).size + t122.size ≤ 9223372036854775807 then (if (((⟨#[108, 101, 115, 115]⟩ : ByteArray) ++ t121) ++ t122).size + t123.size ≤ 9223372036854775807 then (some ((((⟨#[108, 101, 115, 115]⟩ : ByteArray) ++ t121) ++ t122) ++ t123)) else (none)) else (none)) else (none)) else (if a0_0 = 5 then (if 4 + t121.size ≤ 9223372036854775807 then ((spec_l16Cell.f k a0_0 a0_1 a0_2 a0_3 a0_4).bind fun t125 => (if ((⟨#[108, 111, 97, 100]⟩ : ByteArray) ++ t121).size + t125.size ≤ 9223372036854775807 then (some (((⟨#[108, 111, 97, 100]⟩ : ByteArray) ++ t121) ++ t125)) else (none))) else (none)) else (if a0_0 = 6 then ((spec_l16Cell.f k a0_0 a0_1 a0_2 a0_3 a0_4).bind fun t126 => (if 5 + t126.size ≤ 9223372036854775807 then (if ((⟨#[115, 116, 111, 114, 101]⟩ : ByteArray) ++ t126).size + t123.size ≤ 9223372036854775807 then (some (((⟨#[115, 116, 111, 114, 101]⟩ : ByteArray) ++ t126) ++ t123)) else (none)) else (none))) else (if a0_0 = 7 then ((spec_l16Cell.f k a0_0 a0_1 a0_2 a0_3 a0_4).bind fun t127 => (if 3 + t127.size ≤ 9223372036854775807 then (if ((⟨#[108, 101, 116]⟩ : ByteArray) ++ t127).size + t123.size ≤ 9223372036854775807 then (some (((⟨#[108, 101, 116]⟩ : ByteArray) ++ t127) ++ t123)) else (none)) else (none))) else (if a0_0 = 8 then (if 4 + t121.size ≤ 9223372036854775807 then ((spec_l16Cell.f k a0_0 a0_1 a0_2 a0_3 a0_4).bind fun t128 => (if ((⟨#[115, 119, 97, 112]⟩ : ByteArray) ++ t121).size + t128.size ≤ 9223372036854775807 then (if (((⟨#[115, 119, 97, 112]⟩ : ByteArray) ++ t121) ++ t128).size + t123.size ≤ 9223372036854775807 then (some ((((⟨#[115, 119, 97, 112]⟩ : ByteArray) ++ t121) ++ t128) ++ t123)) else (none)) else (none))) else (none)) else (if a0_0 = 9 then (if 5 + t122.size ≤ 9223372036854775807 then (some ((⟨#[112, 114, 105, 110, 116]⟩ : ByteArray) ++ t122)) else (none)) else (if a0_0 = 10 then (if 4 + ((⟨#[32]⟩ : ByteArray) ++ t124).size ≤ 9223372036854775807 then (some ((⟨#[106, 117, 109, 112]⟩ : ByteArray) ++ ((⟨#[32]⟩ : ByteArray) ++ t124))) else (none)) else (if a0_0 = 11 then (if 4 + t122.size ≤ 9223372036854775807 then (if ((⟨#[122, 101, 114, 111]⟩ : ByteArray) ++ t122).size + ((⟨#[32]⟩ : ByteArray) ++ t124).size ≤ 9223372036854775807 then (some (((⟨#[122, 101, 114, 111]⟩ : ByteArray) ++ t122) ++ ((⟨#[32]⟩ : ByteArray) ++ t124))) else (none)) else (none)) else (if a0_0 = 12 then (some (⟨#[101, 110, 100]⟩ : ByteArray)) else (some (⟨#[102, 97, 117, 108, 116]⟩ : ByteArray)))))))))))))) else (none)))))) else (some (⟨#[]⟩ : ByteArray))) = some r := H
 have A2 := Aside0.mk A20
 clear A20
 by_cases c3 : t120 = true
 ·subst c3
  have H1 : ((spec_l16R.f k a0_1).bind fun t121 => ((spec_l16R.f k a0_2).bind fun t122 => ((spec_l16R.f k a0_3).bind fun t123 => ((spec_l2Digits.f k a0_4).bind fun t124 => (if 1 + t124.size ≤ 9223372036854775807 then (if a0_0 = 1 then (if 3 + t121.size ≤ 9223372036854775807 then (if ((⟨#[115, 101, 116]⟩ : ByteArray) ++ t121).size + ((⟨#[32]⟩ : ByteArray) ++ t124).size ≤ 9223372036854775807 then (some (((⟨#[115, 101, 116]⟩ : ByteArray) ++ t121) ++ ((⟨#[32]⟩ : ByteArray) ++ t124))) else (none)) else (none)) else (if a0_0 = 2 then (if 3 + t121.size ≤ 9223372036854775807 then (if ((⟨#[97, 100, 100]⟩ : ByteArray) ++ t121).size + t122.size ≤ 9223372036854775807 then (if (((⟨#[97, 100, 100]⟩ : ByteArray) ++ t121) ++ t122).size + t123.size ≤ 9223372036854775807 then (some ((((⟨#[97, 100, 100]⟩ : ByteArray) ++ t121) ++ t122) ++ t123)) else (none)) else (none)) else (none)) else (if a0_0 = 3 then (if 3 + t121.size ≤ 9223372036854775807 then (if ((⟨#[115, 117, 98]⟩ : ByteArray) ++ t121).size + t122.size ≤ 9223372036854775807 then (if (((⟨#[115, 117, 98]⟩ : ByteArray) ++ t121) ++ t122).size + t123.size ≤ 9223372036854775807 then (some ((((⟨#[115, 117, 98]⟩ : ByteArray) ++ t121) ++ t122) ++ t123)) else (none)) else (none)) else (none)) else (if a0_0 = 4 then (if 4 + t121.size ≤ 9223372036854775807 then (if ((⟨#[108, 101, 115, 115]⟩ : ByteArray) ++ t121).size + t122.size ≤ 9223372036854775807 then (if (((⟨#[108, 101, 115, 115]⟩ : ByteArray) ++ t121) ++ t122).size + t123.size ≤ 9223372036854775807 then (some ((((⟨#[108, 101, 115, 115]⟩ : ByteArray) ++ t121) ++ t122) ++ t123)) else (none)) else (none)) else (none)) else (if a0_0 = 5 then (if 4 + t121.size ≤ 9223372036854775807 then ((spec_l16Cell.f k a0_0 a0_1 a0_2 a0_3 a0_4).bind fun t125 => (if ((⟨#[108, 111, 97, 100]⟩ : ByteArray) ++ t121).size + t125.size ≤ 9223372036854775807 then (some (((⟨#[108, 111, 97, 100]⟩ : ByteArray) ++ t121) ++ t125)) else (none))) else (none)) else (if a0_0 = 6 then ((spec_l16Cell.f k a0_0 a0_1 a0_2 a0_3 a0_4).bind fun t126 => (if 5 + t126.size ≤ 9223372036854775807 then (if ((⟨#[115, 116, 111, 114, 101]⟩ : ByteArray) ++ t126).size + t123.size ≤ 9223372036854775807 then (some (((⟨#[115, 116, 111, 114, 101]⟩ : ByteArray) ++ t126) ++ t123)) else (none)) else (none))) else (if a0_0 = 7 then ((spec_l16Cell.f k a0_0 a0_1 a0_2 a0_3 a0_4).bind fun t127 => (if 3 + t127.size ≤ 9223372036854775807 then (if ((⟨#[108, 101, 116]⟩ : ByteArray) ++ t127).size + t123.size ≤ 9223372036854775807 then (some (((⟨#[108, 101, 116]⟩ : ByteArray) ++ t127) ++ t123)) else (none)) else (none))) else (if a0_0 = 8 then (if 4 + t121.size ≤ 9223372036854775807 then ((spec_l16Cell.f k a0_0 a0_1 a0_2 a0_3 a0_4).bind fun t128 => (if ((⟨#[115, 119, 97, 112]⟩ : ByteArray) ++ t121).size + t128.size ≤ 9223372036854775807 then (if (((⟨#[115, 119, 97, 112]⟩ : ByteArray) ++ t121) ++ t128).size + t123.size ≤ 9223372036854775807 then (some ((((⟨#[115, 119, 97, 112]⟩ : ByteArray) ++ t121) ++ t128) ++ t123)) else (none)) else (none))) else (none)) else (if a0_0 = 9 then (if 5 + t122.size ≤ 9223372036854775807 then (some ((⟨#[112, 114, 105, 110, 116]⟩ : ByteArray) ++ t122)) else (none)) else (if a0_0 = 10 then (if 4 + ((⟨#[32]⟩ : ByteArray) ++ t124).size ≤ 9223372036854775807 then (some ((⟨#[106, 117, 109, 112]⟩ : ByteArray) ++ ((⟨#[32]⟩ : ByteArray) ++ t124))) else (none)) else (if a0_0 = 11 then (if 4 + t122.size ≤ 9223372036854775807 then (if ((⟨#[122, 101, 114, 111]⟩ : ByteArray) ++ t122).size + ((⟨#[32]⟩ : ByteArray) ++ t124).size ≤ 9223372036854775807 then (some (((⟨#[122, 101, 114, 111]⟩ : ByteArray) ++ t122) ++ ((⟨#[32]⟩ : ByteArray) ++ t124))) else (none)) else (none)) else (if a0_0 = 12 then (some (⟨#[101, 110, 100]⟩ : ByteArray)) else (some (⟨#[102, 97, 117, 108, 116]⟩ : ByteArray)))))))))))))) else (none)))))) = some r := by rw [if_pos rfl] at H; exact H
  clear H
  have H := H1
  clear H1
  replace H := Option.bind_eq_some_iff.mp H
  obtain ⟨t121, A40, H⟩ := H
  replace H : ((spec_l16R.f k a0_2).bind fun t122 => ((spec_l16R.f k a0_3).bind fun t123 => ((spec_l2Digits.f k a0_4).bind fun t124 => (if 1 + t124.size ≤ 9223372036854775807 then (if a0_0 = 1 then (if 3 + t121.size ≤ 9223372036854775807 then (if ((⟨#[115, 101, 116]⟩ : ByteArray) ++ t121).size + ((⟨#[32]⟩ : ByteArray) ++ t124).size ≤ 9223372036854775807 then (some (((⟨#[115, 101, 116]⟩ : ByteArray) ++ t121) ++ ((⟨#[32]⟩ : ByteArray) ++ t124))) else (none)) else (none)) else (if a0_0 = 2 then (if 3 + t121.size ≤ 9223372036854775807 then (if ((⟨#[97, 100, 100]⟩ : ByteArray) ++ t121).size + t122.size ≤ 9223372036854775807 then (if (((⟨#[97, 100, 100]⟩ : ByteArray) ++ t121) ++ t122).size + t123.size ≤ 9223372036854775807 then (some ((((⟨#[97, 100, 100]⟩ : ByteArray) ++ t121) ++ t122) ++ t123)) else (none)) else (none)) else (none)) else (if a0_0 = 3 then (if 3 + t121.size ≤ 9223372036854775807 then (if ((⟨#[115, 117, 98]⟩ : ByteArray) ++ t121).size + t122.size ≤ 9223372036854775807 then (if (((⟨#[115, 117, 98]⟩ : ByteArray) ++ t121) ++ t122).size + t123.size ≤ 9223372036854775807 then (some ((((⟨#[115, 117, 98]⟩ : ByteArray) ++ t121) ++ t122) ++ t123)) else (none)) else (none)) else (none)) else (if a0_0 = 4 then (if 4 + t121.size ≤ 9223372036854775807 then (if ((⟨#[108, 101, 115, 115]⟩ : ByteArray) ++ t121).size + t122.size ≤ 9223372036854775807 then (if (((⟨#[108, 101, 115, 115]⟩ : ByteArray) ++ t121) ++ t122).size + t123.size ≤ 9223372036854775807 then (some ((((⟨#[108, 101, 115, 115]⟩ : ByteArray) ++ t121) ++ t122) ++ t123)) else (none)) else (none)) else (none)) else (if a0_0 = 5 then (if 4 + t121.size ≤ 9223372036854775807 then ((spec_l16Cell.f k a0_0 a0_1 a0_2 a0_3 a0_4).bind fun t125 => (if ((⟨#[108, 111, 97, 100]⟩ : ByteArray) ++ t121).size + t125.size ≤ 9223372036854775807 then (some (((⟨#[108, 111, 97, 100]⟩ : ByteArray) ++ t121) ++ t125)) else (none))) else (none)) else (if a0_0 = 6 then ((spec_l16Cell.f k a0_0 a0_1 a0_2 a0_3 a0_4).bind fun t126 => (if 5 + t126.size ≤ 9223372036854775807 then (if ((⟨#[115, 116, 111, 114, 101]⟩ : ByteArray) ++ t126).size + t123.size ≤ 9223372036854775807 then (some (((⟨#[115, 116, 111, 114, 101]⟩ : ByteArray) ++ t126) ++ t123)) else (none)) else (none))) else (if a0_0 = 7 then ((spec_l16Cell.f k a0_0 a0_1 a0_2 a0_3 a0_4).bind fun t127 => (if 3 + t127.size ≤ 9223372036854775807 then (if ((⟨#[108, 101, 116]⟩ : ByteArray) ++ t127).size + t123.size ≤ 9223372036854775807 then (some (((⟨#[108, 101, 116]⟩ : ByteArray) ++ t127) ++ t123)) else (none)) else (none))) else (if a0_0 = 8 then (if 4 + t121.size ≤ 9223372036854775807 then ((spec_l16Cell.f k a0_0 a0_1 a0_2 a0_3 a0_4).bind fun t128 => (if ((⟨#[115, 119, 97, 112]⟩ : ByteArray) ++ t121).size + t128.size ≤ 9223372036854775807 then (if (((⟨#[115, 119, 97, 112]⟩ : ByteArray) ++ t121) ++ t128).size + t123.size ≤ 9223372036854775807 then (some ((((⟨#[115, 119, 97, 112]⟩ : ByteArray) ++ t121) ++ t128) ++ t123)) else (none)) else (none))) else (none)) else (if a0_0 = 9 then (if 5 + t122.size ≤ 9223372036854775807 then (some ((⟨#[112, 114, 105, 110, 116]⟩ : ByteArray) ++ t122)) else (none)) else (if a0_0 = 10 then (if 4 + ((⟨#[32]⟩ : ByteArray) ++ t124).size ≤ 9223372036854775807 then (some ((⟨#[106, 117, 109, 112]⟩ : ByteArray) ++ ((⟨#[32]⟩ : ByteArray) ++ t124))) else (none)) else (if a0_0 = 11 then (if 4 + t122.size ≤ 9223372036854775807 then (if ((⟨#[122, 101, 114, 111]⟩ : ByteArray) ++ t122).size + ((⟨#[32]⟩ : ByteArray) ++ t124).size ≤ 9223372036854775807 then (some (((⟨#[122, 101, 114, 111]⟩ : ByteArray) ++ t122) ++ ((⟨#[32]⟩ : ByteArray) ++ t124))) else (none)) else (none)) else (if a0_0 = 12 then (some (⟨#[101, 110, 100]⟩ : ByteArray)) else (some (⟨#[102, 97, 117, 108, 116]⟩ : ByteArray)))))))))))))) else (none))))) = some r := H
  have A4 := Aside0.mk A40
  clear A40
  replace H := Option.bind_eq_some_iff.mp H
  obtain ⟨t122, A50, H⟩ := H
  replace H : ((spec_l16R.f k a0_3).bind fun t123 => ((spec_l2Digits.f k a0_4).bind fun t124 => (if 1 + t124.size ≤ 9223372036854775807 then (if a0_0 = 1 then (if 3 + t121.size ≤ 9223372036854775807 then (if ((⟨#[115, 101, 116]⟩ : ByteArray) ++ t121).size + ((⟨#[32]⟩ : ByteArray) ++ t124).size ≤ 9223372036854775807 then (some (((⟨#[115, 101, 116]⟩ : ByteArray) ++ t121) ++ ((⟨#[32]⟩ : ByteArray) ++ t124))) else (none)) else (none)) else (if a0_0 = 2 then (if 3 + t121.size ≤ 9223372036854775807 then (if ((⟨#[97, 100, 100]⟩ : ByteArray) ++ t121).size + t122.size ≤ 9223372036854775807 then (if (((⟨#[97, 100, 100]⟩ : ByteArray) ++ t121) ++ t122).size + t123.size ≤ 9223372036854775807 then (some ((((⟨#[97, 100, 100]⟩ : ByteArray) ++ t121) ++ t122) ++ t123)) else (none)) else (none)) else (none)) else (if a0_0 = 3 then (if 3 + t121.size ≤ 9223372036854775807 then (if ((⟨#[115, 117, 98]⟩ : ByteArray) ++ t121).size + t122.size ≤ 9223372036854775807 then (if (((⟨#[115, 117, 98]⟩ : ByteArray) ++ t121) ++ t122).size + t123.size ≤ 9223372036854775807 then (some ((((⟨#[115, 117, 98]⟩ : ByteArray) ++ t121) ++ t122) ++ t123)) else (none)) else (none)) else (none)) else (if a0_0 = 4 then (if 4 + t121.size ≤ 9223372036854775807 then (if ((⟨#[108, 101, 115, 115]⟩ : ByteArray) ++ t121).size + t122.size ≤ 9223372036854775807 then (if (((⟨#[108, 101, 115, 115]⟩ : ByteArray) ++ t121) ++ t122).size + t123.size ≤ 9223372036854775807 then (some ((((⟨#[108, 101, 115, 115]⟩ : ByteArray) ++ t121) ++ t122) ++ t123)) else (none)) else (none)) else (none)) else (if a0_0 = 5 then (if 4 + t121.size ≤ 9223372036854775807 then ((spec_l16Cell.f k a0_0 a0_1 a0_2 a0_3 a0_4).bind fun t125 => (if ((⟨#[108, 111, 97, 100]⟩ : ByteArray) ++ t121).size + t125.size ≤ 9223372036854775807 then (some (((⟨#[108, 111, 97, 100]⟩ : ByteArray) ++ t121) ++ t125)) else (none))) else (none)) else (if a0_0 = 6 then ((spec_l16Cell.f k a0_0 a0_1 a0_2 a0_3 a0_4).bind fun t126 => (if 5 + t126.size ≤ 9223372036854775807 then (if ((⟨#[115, 116, 111, 114, 101]⟩ : ByteArray) ++ t126).size + t123.size ≤ 9223372036854775807 then (some (((⟨#[115, 116, 111, 114, 101]⟩ : ByteArray) ++ t126) ++ t123)) else (none)) else (none))) else (if a0_0 = 7 then ((spec_l16Cell.f k a0_0 a0_1 a0_2 a0_3 a0_4).bind fun t127 => (if 3 + t127.size ≤ 9223372036854775807 then (if ((⟨#[108, 101, 116]⟩ : ByteArray) ++ t127).size + t123.size ≤ 9223372036854775807 then (some (((⟨#[108, 101, 116]⟩ : ByteArray) ++ t127) ++ t123)) else (none)) else (none))) else (if a0_0 = 8 then (if 4 + t121.size ≤ 9223372036854775807 then ((spec_l16Cell.f k a0_0 a0_1 a0_2 a0_3 a0_4).bind fun t128 => (if ((⟨#[115, 119, 97, 112]⟩ : ByteArray) ++ t121).size + t128.size ≤ 9223372036854775807 then (if (((⟨#[115, 119, 97, 112]⟩ : ByteArray) ++ t121) ++ t128).size + t123.size ≤ 9223372036854775807 then (some ((((⟨#[115, 119, 97, 112]⟩ : ByteArray) ++ t121) ++ t128) ++ t123)) else (none)) else (none))) else (none)) else (if a0_0 = 9 then (if 5 + t122.size ≤ 9223372036854775807 then (some ((⟨#[112, 114, 105, 110, 116]⟩ : ByteArray) ++ t122)) else (none)) else (if a0_0 = 10 then (if 4 + ((⟨#[32]⟩ : ByteArray) ++ t124).size ≤ 9223372036854775807 then (some ((⟨#[106, 117, 109, 112]⟩ : ByteArray) ++ ((⟨#[32]⟩ : ByteArray) ++ t124))) else (none)) else (if a0_0 = 11 then (if 4 + t122.size ≤ 9223372036854775807 then (if ((⟨#[122, 101, 114, 111]⟩ : ByteArray) ++ t122).size + ((⟨#[32]⟩ : ByteArray) ++ t124).size ≤ 9223372036854775807 then (some (((⟨#[122, 101, 114, 111]⟩ : ByteArray) ++ t122) ++ ((⟨#[32]⟩ : ByteArray) ++ t124))) else (none)) else (none)) else (if a0_0 = 12 then (some (⟨#[101, 110, 100]⟩ : ByteArray)) else (some (⟨#[102, 97, 117, 108, 116]⟩ : ByteArray)))))))))))))) else (none)))) = some r := H
  have A5 := Aside0.mk A50
  clear A50
  replace H := Option.bind_eq_some_iff.mp H
  obtain ⟨t123, A60, H⟩ := H
  replace H : ((spec_l2Digits.f k a0_4).bind fun t124 => (if 1 + t124.size ≤ 9223372036854775807 then (if a0_0 = 1 then (if 3 + t121.size ≤ 9223372036854775807 then (if ((⟨#[115, 101, 116]⟩ : ByteArray) ++ t121).size + ((⟨#[32]⟩ : ByteArray) ++ t124).size ≤ 9223372036854775807 then (some (((⟨#[115, 101, 116]⟩ : ByteArray) ++ t121) ++ ((⟨#[32]⟩ : ByteArray) ++ t124))) else (none)) else (none)) else (if a0_0 = 2 then (if 3 + t121.size ≤ 9223372036854775807 then (if ((⟨#[97, 100, 100]⟩ : ByteArray) ++ t121).size + t122.size ≤ 9223372036854775807 then (if (((⟨#[97, 100, 100]⟩ : ByteArray) ++ t121) ++ t122).size + t123.size ≤ 9223372036854775807 then (some ((((⟨#[97, 100, 100]⟩ : ByteArray) ++ t121) ++ t122) ++ t123)) else (none)) else (none)) else (none)) else (if a0_0 = 3 then (if 3 + t121.size ≤ 9223372036854775807 then (if ((⟨#[115, 117, 98]⟩ : ByteArray) ++ t121).size + t122.size ≤ 9223372036854775807 then (if (((⟨#[115, 117, 98]⟩ : ByteArray) ++ t121) ++ t122).size + t123.size ≤ 9223372036854775807 then (some ((((⟨#[115, 117, 98]⟩ : ByteArray) ++ t121) ++ t122) ++ t123)) else (none)) else (none)) else (none)) else (if a0_0 = 4 then (if 4 + t121.size ≤ 9223372036854775807 then (if ((⟨#[108, 101, 115, 115]⟩ : ByteArray) ++ t121).size + t122.size ≤ 9223372036854775807 then (if (((⟨#[108, 101, 115, 115]⟩ : ByteArray) ++ t121) ++ t122).size + t123.size ≤ 9223372036854775807 then (some ((((⟨#[108, 101, 115, 115]⟩ : ByteArray) ++ t121) ++ t122) ++ t123)) else (none)) else (none)) else (none)) else (if a0_0 = 5 then (if 4 + t121.size ≤ 9223372036854775807 then ((spec_l16Cell.f k a0_0 a0_1 a0_2 a0_3 a0_4).bind fun t125 => (if ((⟨#[108, 111, 97, 100]⟩ : ByteArray) ++ t121).size + t125.size ≤ 9223372036854775807 then (some (((⟨#[108, 111, 97, 100]⟩ : ByteArray) ++ t121) ++ t125)) else (none))) else (none)) else (if a0_0 = 6 then ((spec_l16Cell.f k a0_0 a0_1 a0_2 a0_3 a0_4).bind fun t126 => (if 5 + t126.size ≤ 9223372036854775807 then (if ((⟨#[115, 116, 111, 114, 101]⟩ : ByteArray) ++ t126).size + t123.size ≤ 9223372036854775807 then (some (((⟨#[115, 116, 111, 114, 101]⟩ : ByteArray) ++ t126) ++ t123)) else (none)) else (none))) else (if a0_0 = 7 then ((spec_l16Cell.f k a0_0 a0_1 a0_2 a0_3 a0_4).bind fun t127 => (if 3 + t127.size ≤ 9223372036854775807 then (if ((⟨#[108, 101, 116]⟩ : ByteArray) ++ t127).size + t123.size ≤ 9223372036854775807 then (some (((⟨#[108, 101, 116]⟩ : ByteArray) ++ t127) ++ t123)) else (none)) else (none))) else (if a0_0 = 8 then (if 4 + t121.size ≤ 9223372036854775807 then ((spec_l16Cell.f k a0_0 a0_1 a0_2 a0_3 a0_4).bind fun t128 => (if ((⟨#[115, 119, 97, 112]⟩ : ByteArray) ++ t121).size + t128.size ≤ 9223372036854775807 then (if (((⟨#[115, 119, 97, 112]⟩ : ByteArray) ++ t121) ++ t128).size + t123.size ≤ 9223372036854775807 then (some ((((⟨#[115, 119, 97, 112]⟩ : ByteArray) ++ t121) ++ t128) ++ t123)) else (none)) else (none))) else (none)) else (if a0_0 = 9 then (if 5 + t122.size ≤ 9223372036854775807 then (some ((⟨#[112, 114, 105, 110, 116]⟩ : ByteArray) ++ t122)) else (none)) else (if a0_0 = 10 then (if 4 + ((⟨#[32]⟩ : ByteArray) ++ t124).size ≤ 9223372036854775807 then (some ((⟨#[106, 117, 109, 112]⟩ : ByteArray) ++ ((⟨#[32]⟩ : ByteArray) ++ t124))) else (none)) else (if a0_0 = 11 then (if 4 + t122.size ≤ 9223372036854775807 then (if ((⟨#[122, 101, 114, 111]⟩ : ByteArray) ++ t122).size + ((⟨#[32]⟩ : ByteArray) ++ t124).size ≤ 9223372036854775807 then (some (((⟨#[122, 101, 114, 111]⟩ : ByteArray) ++ t122) ++ ((⟨#[32]⟩ : ByteArray) ++ t124))) else (none)) else (none)) else (if a0_0 = 12 then (some (⟨#[101, 110, 100]⟩ : ByteArray)) else (some (⟨#[102, 97, 117, 108, 116]⟩ : ByteArray)))))))))))))) else (none))) = some r := H
  have A6 := Aside0.mk A60
  clear A60
  replace H := Option.bind_eq_some_iff.mp H
  obtain ⟨t124, A70, H⟩ := H
  replace H : (if 1 + t124.size ≤ 9223372036854775807 then (if a0_0 = 1 then (if 3 + t121.size ≤ 9223372036854775807 then (if ((⟨#[115, 101, 116]⟩ : ByteArray) ++ t121).size + ((⟨#[32]⟩ : ByteArray) ++ t124).size ≤ 9223372036854775807 then (some (((⟨#[115, 101, 116]⟩ : ByteArray) ++ t121) ++ ((⟨#[32]⟩ : ByteArray) ++ t124))) else (none)) else (none)) else (if a0_0 = 2 then (if 3 + t121.size ≤ 9223372036854775807 then (if ((⟨#[97, 100, 100]⟩ : ByteArray) ++ t121).size + t122.size ≤ 9223372036854775807 then (if (((⟨#[97, 100, 100]⟩ : ByteArray) ++ t121) ++ t122).size + t123.size ≤ 9223372036854775807 then (some ((((⟨#[97, 100, 100]⟩ : ByteArray) ++ t121) ++ t122) ++ t123)) else (none)) else (none)) else (none)) else (if a0_0 = 3 then (if 3 + t121.size ≤ 9223372036854775807 then (if ((⟨#[115, 117, 98]⟩ : ByteArray) ++ t121).size + t122.size ≤ 9223372036854775807 then (if (((⟨#[115, 117, 98]⟩ : ByteArray) ++ t121) ++ t122).size + t123.size ≤ 9223372036854775807 then (some ((((⟨#[115, 117, 98]⟩ : ByteArray) ++ t121) ++ t122) ++ t123)) else (none)) else (none)) else (none)) else (if a0_0 = 4 then (if 4 + t121.size ≤ 9223372036854775807 then (if ((⟨#[108, 101, 115, 115]⟩ : ByteArray) ++ t121).size + t122.size ≤ 9223372036854775807 then (if (((⟨#[108, 101, 115, 115]⟩ : ByteArray) ++ t121) ++ t122).size + t123.size ≤ 9223372036854775807 then (some ((((⟨#[108, 101, 115, 115]⟩ : ByteArray) ++ t121) ++ t122) ++ t123)) else (none)) else (none)) else (none)) else (if a0_0 = 5 then (if 4 + t121.size ≤ 9223372036854775807 then ((spec_l16Cell.f k a0_0 a0_1 a0_2 a0_3 a0_4).bind fun t125 => (if ((⟨#[108, 111, 97, 100]⟩ : ByteArray) ++ t121).size + t125.size ≤ 9223372036854775807 then (some (((⟨#[108, 111, 97, 100]⟩ : ByteArray) ++ t121) ++ t125)) else (none))) else (none)) else (if a0_0 = 6 then ((spec_l16Cell.f k a0_0 a0_1 a0_2 a0_3 a0_4).bind fun t126 => (if 5 + t126.size ≤ 9223372036854775807 then (if ((⟨#[115, 116, 111, 114, 101]⟩ : ByteArray) ++ t126).size + t123.size ≤ 9223372036854775807 then (some (((⟨#[115, 116, 111, 114, 101]⟩ : ByteArray) ++ t126) ++ t123)) else (none)) else (none))) else (if a0_0 = 7 then ((spec_l16Cell.f k a0_0 a0_1 a0_2 a0_3 a0_4).bind fun t127 => (if 3 + t127.size ≤ 9223372036854775807 then (if ((⟨#[108, 101, 116]⟩ : ByteArray) ++ t127).size + t123.size ≤ 9223372036854775807 then (some (((⟨#[108, 101, 116]⟩ : ByteArray) ++ t127) ++ t123)) else (none)) else (none))) else (if a0_0 = 8 then (if 4 + t121.size ≤ 9223372036854775807 then ((spec_l16Cell.f k a0_0 a0_1 a0_2 a0_3 a0_4).bind fun t128 => (if ((⟨#[115, 119, 97, 112]⟩ : ByteArray) ++ t121).size + t128.size ≤ 9223372036854775807 then (if (((⟨#[115, 119, 97, 112]⟩ : ByteArray) ++ t121) ++ t128).size + t123.size ≤ 9223372036854775807 then (some ((((⟨#[115, 119, 97, 112]⟩ : ByteArray) ++ t121) ++ t128) ++ t123)) else (none)) else (none))) else (none)) else (if a0_0 = 9 then (if 5 + t122.size ≤ 9223372036854775807 then (some ((⟨#[112, 114, 105, 110, 116]⟩ : ByteArray) ++ t122)) else (none)) else (if a0_0 = 10 then (if 4 + ((⟨#[32]⟩ : ByteArray) ++ t124).size ≤ 9223372036854775807 then (some ((⟨#[106, 117, 109, 112]⟩ : ByteArray) ++ ((⟨#[32]⟩ : ByteArray) ++ t124))) else (none)) else (if a0_0 = 11 then (if 4 + t122.size ≤ 9223372036854775807 then (if ((⟨#[122, 101, 114, 111]⟩ : ByteArray) ++ t122).size + ((⟨#[32]⟩ : ByteArray) ++ t124).size ≤ 9223372036854775807 then (some (((⟨#[122, 101, 114, 111]⟩ : ByteArray) ++ t122) ++ ((⟨#[32]⟩ : ByteArray) ++ t124))) else (none)) else (none)) else (if a0_0 = 12 then (some (⟨#[101, 110, 100]⟩ : ByteArray)) else (some (⟨#[102, 97, 117, 108, 116]⟩ : ByteArray)))))))))))))) else (none)) = some r := H
  have A7 := Aside0.mk A70
  clear A70
  by_cases c8 : 1 + t124.size ≤ 9223372036854775807
  ·rw [if_pos c8] at H
   have c8b0 := eq_true c8
   have c8b1 : decide (1 + t124.size ≤ 9223372036854775807) = true := decide_eq_true c8
   try have c8b2 : (9223372036854775807 < 1 + t124.size) = False := eq_false (Nat.not_lt.2 c8)
   by_cases c9 : a0_0 = 1
   ·rw [if_pos c9] at H
    have c9b0 : (a0_0 == 1) = true := beq_iff_eq.mpr c9
    have c9b1 : (a0_0 != 1) = false := bne_eq_false_iff_eq.mpr c9
    clear c9
    by_cases c10 : 3 + t121.size ≤ 9223372036854775807
    ·rw [if_pos c10] at H
     have c10b0 := eq_true c10
     have c10b1 : decide (3 + t121.size ≤ 9223372036854775807) = true := decide_eq_true c10
     try have c10b2 : (9223372036854775807 < 3 + t121.size) = False := eq_false (Nat.not_lt.2 c10)
     by_cases c11 : ((⟨#[115, 101, 116]⟩ : ByteArray) ++ t121).size + ((⟨#[32]⟩ : ByteArray) ++ t124).size ≤ 9223372036854775807
     ·rw [if_pos c11] at H
      have c11b0 := eq_true c11
      have c11b1 : decide (((⟨#[115, 101, 116]⟩ : ByteArray) ++ t121).size + ((⟨#[32]⟩ : ByteArray) ++ t124).size ≤ 9223372036854775807) = true := decide_eq_true c11
      (try (have c11n := c11; simp only [ByteArray.size_append, Tab.sz_mk, List.size_toArray, List.length_cons, List.length_nil, Nat.zero_add, Nat.reduceAdd] at c11n; have c11b4 := eq_true c11n; have c11b5 := eq_false (Nat.not_lt.2 c11n)))
      try have c11b2 : (9223372036854775807 < ((⟨#[115, 101, 116]⟩ : ByteArray) ++ t121).size + ((⟨#[32]⟩ : ByteArray) ++ t124).size) = False := eq_false (Nat.not_lt.2 c11)
      obtain rfl := Option.some.inj H
      go_enter Tryd.func27, Tryd.ntmps27
      try go_wp2_with (first | ((with_reducible refine gate_dst (N := 1) rfl ?_); refine box_event ?hg (N := 1) ?hd (cs := #[.int .i64 a0_0, .int .i64 a0_1, .int .i64 a0_2, .int .i64 a0_3, .int .i64 a0_4]) (t := 46) ?hr ?_; (case hd => rfl); (case hg => rfl); (case hr => first | (go_simp; done) | (go_simp; rfl)); intro gb119 hg w12 hbox hb; have n0_ := Aside0.mk (below_step (by repeat (first | (with_reducible first | exact HB.out | apply below_alloc | apply pw_below_drewN | apply below_drew1) | exact HB.out)) hb); have n1_ := Aside0.mk (hbox); have n2_ := Aside0.mk ((by rw [hg]; exact (below_size (by repeat (first | (with_reducible first | exact HB.out | apply below_alloc | apply pw_below_drewN | apply below_drew1) | exact HB.out))) : w.heap.size ≤ gb119)); have n3_ := Aside0.mk ((by rw [hg]; exact (below_size (by repeat (first | (with_reducible first | exact HB.out | apply below_alloc | apply pw_below_drewN | apply below_drew1) | exact HB.out))) : w.heap.size ≤ gb119)); clear HB; have HB := n0_; have BK119 := n1_; have GW119 := n2_; have GE119 := n3_; clear n0_ n1_ n2_ n3_; clear hb hbox hg; have hcz13_0 : w12.cell? ⟨gb119, 0, none⟩ = some (.int .i64 a0_0) := (blk_cell BK119.out 0).trans rfl; have hcz13_1 : w12.cell? ⟨gb119, 1, none⟩ = some (.int .i64 a0_1) := (blk_cell BK119.out 1).trans rfl; have hcz13_2 : w12.cell? ⟨gb119, 2, none⟩ = some (.int .i64 a0_2) := (blk_cell BK119.out 2).trans rfl; have hcz13_3 : w12.cell? ⟨gb119, 3, none⟩ = some (.int .i64 a0_3) := (blk_cell BK119.out 3).trans rfl; have hcz13_4 : w12.cell? ⟨gb119, 4, none⟩ = some (.int .i64 a0_4) := (blk_cell BK119.out 4).trans rfl; have hfz13_0 := blk_frozen BK119.out 0; have hfz13_1 := blk_frozen BK119.out 1; have hfz13_2 := blk_frozen BK119.out 2; have hfz13_3 := blk_frozen BK119.out 3; have hfz13_4 := blk_frozen BK119.out 4) | ((with_reducible refine gate_callee (f := 76) rfl ?_); refine goesL_ (some 8) rfl rfl Tryd.func76 (by kernel_rfl) rfl #[.agg #[.int .i64 a0_0, .int .i64 a0_1, .int .i64 a0_2, .int .i64 a0_3, .int .i64 a0_4], .int .i64 800] rfl (by (try simp only [List.map_toArray, List.map_cons, List.map_nil]); first | done | rfl | (simp only [List.length_drop, List.length_take]; rfl)) ?_; (with_reducible refine (spec_StepOk.calls k a0_0 a0_1 a0_2 a0_3 a0_4 800 true _ A2.out).mono ?_); rintro e w14 ⟨rfl, hb⟩; refine ⟨_, rfl, ?_⟩; have n0_ := Aside0.mk (blk_below (g := gb119) (o := .cells #[.int .i64 a0_0, .int .i64 a0_1, .int .i64 a0_2, .int .i64 a0_3, .int .i64 a0_4] 46 (0, 0)) (by (with_reducible repeat (first | refine blk_drewN ?_ _ | refine blk_drew ?_ | refine blk_alloc ?_ _)); exact BK119.out) hb); have n1_ := Aside0.mk (below_step (by repeat (first | (with_reducible first | exact HB.out | apply below_alloc | apply pw_below_drewN | apply below_drew1 | refine below_set ?_ GE119.out) | exact HB.out)) hb); clear BK119; clear HB; have BK119 := n0_; have HB := n1_; clear n0_ n1_; (try clear hb); (try clear hb2); (try clear hk); (try clear hi)))
      (all_goals try (exfalso; have e1_ : (⟨#[32]⟩ : ByteArray).size = 1 := rfl; have e2_ : (⟨#[10]⟩ : ByteArray).size = 1 := rfl; simp only [ByteArray.size_append] at c11; omega))
      have n0_ := Aside0.mk (blk_drew BK119.out)
      have n1_ := Aside0.mk (below_drew1 HB.out)
      clear BK119
      clear HB
      have BK119 := n0_
      have HB := n1_
      clear n0_ n1_
      refine start_ (n := 17) (S := fun w' => w'.cell? ⟨gb119, 0, none⟩ = some (.int .i64 a0_0) ∧ w'.cell? ⟨gb119, 1, none⟩ = some (.int .i64 a0_1) ∧ w'.cell? ⟨gb119, 2, none⟩ = some (.int .i64 a0_2) ∧ w'.cell? ⟨gb119, 3, none⟩ = some (.int .i64 a0_3) ∧ w'.cell? ⟨gb119, 4, none⟩ = some (.int .i64 a0_4)) (ds := []) #[false, false, false, false, false, false, false, false, false, false, false, false, false, false, false, false, false] (by kernel_rfl) rfl rfl ⟨(blk_cell BK119.out 0).trans rfl, (blk_cell BK119.out 1).trans rfl, (blk_cell BK119.out 2).trans rfl, (blk_cell BK119.out 3).trans rfl, (blk_cell BK119.out 4).trans rfl⟩ (fun hHeld => ?_); refine with_tabW spec_StepText.tab3 spec_StepText.bits3 (fun HT_ HW_ => ?_)
      generalize w14.drew = w15 at BK119 HB hHeld ⊢
      refine pure_ (i := 0) (N := some 10) (v := ?_) (a' := ?_) #[true, false, false, false, false, false, false, false, false, false, false, false, false, false, false, false, false] rfl rfl (any_of HT_.out (by kernel_rfl)) (fun _ _ _ h => h) (Or.inl ⟨by rfl, ?_⟩) ?_ ?_
      rotate_left
      ·intro w'
       go_simp
       with_reducible rfl
      rotate_left
      ·simp only [Act.put, List.setIfInBounds_toArray, List.set_cons_zero, List.set_cons_succ, i64_w, i32_w]
       rfl
      refine pure_ (i := 3) (N := some 13) (v := ?_) (a' := ?_) #[true, false, false, true, false, false, false, false, false, false, false, false, false, false, false, false, false] rfl rfl (any_of HT_.out (by kernel_rfl)) (fun _ _ _ h => h) (Or.inl ⟨by rfl, ?_⟩) ?_ ?_
      rotate_left
      ·intro w'
       go_simp
       with_reducible rfl
      rotate_left
      ·simp only [Act.put, List.setIfInBounds_toArray, List.set_cons_zero, List.set_cons_succ, i64_w, i32_w]
       rfl
      refine pure_ (i := 6) (N := some 16) (v := ?_) (a' := ?_) #[true, false, false, true, false, false, true, false, false, false, false, false, false, false, false, false, false] rfl rfl (any_of HT_.out (by kernel_rfl)) (fun _ _ _ h => h) (Or.inl ⟨by rfl, ?_⟩) ?_ ?_
      rotate_left
      ·intro w'
       go_simp
       with_reducible rfl
      rotate_left
      ·simp only [Act.put, List.setIfInBounds_toArray, List.set_cons_zero, List.set_cons_succ, i64_w, i32_w]
       rfl
      refine pure_ (i := 9) (N := some 19) (v := ?_) (a' := ?_) #[true, false, false, true, false, false, true, false, false, true, false, false, false, false, false, false, false] rfl rfl (any_of HT_.out (by kernel_rfl)) (fun _ _ _ h => h) (Or.inl ⟨by rfl, ?_⟩) ?_ ?_
      rotate_left
      ·intro w'
       go_simp
       with_reducible rfl
      rotate_left
      ·simp only [Act.put, List.setIfInBounds_toArray, List.set_cons_zero, List.set_cons_succ, i64_w, i32_w]
       rfl
      refine take_ (i := 1) (N := some 11) (v := ?_) (a' := ?_) #[true, true, false, true, false, false, true, false, false, true, false, false, false, false, false, false, false] rfl rfl (take_ofW HT_.out HW_.out (by kernel_rfl)) (fun _ _ _ h => h) (Or.inl ⟨by rfl, ?_⟩) hHeld ?_ ?_
      rotate_left
      ·rintro w' ⟨s0, s1, s2, s3, s4⟩
       go_simp
       with_reducible rfl
      rotate_left
      ·simp only [Act.put, List.setIfInBounds_toArray, List.set_cons_zero, List.set_cons_succ, i64_w, i32_w]
       rfl
      refine take_ (i := 4) (N := some 14) (v := ?_) (a' := ?_) #[true, true, false, true, true, false, true, false, false, true, false, false, false, false, false, false, false] rfl rfl (take_ofW HT_.out HW_.out (by kernel_rfl)) (fun _ _ _ h => h) (Or.inl ⟨by rfl, ?_⟩) hHeld ?_ ?_
      rotate_left
      ·rintro w' ⟨s0, s1, s2, s3, s4⟩
       go_simp
       with_reducible rfl
      rotate_left
      ·simp only [Act.put, List.setIfInBounds_toArray, List.set_cons_zero, List.set_cons_succ, i64_w, i32_w]
       rfl
      refine take_ (i := 7) (N := some 17) (v := ?_) (a' := ?_) #[true, true, false, true, true, false, true, true, false, true, false, false, false, false, false, false, false] rfl rfl (take_ofW HT_.out HW_.out (by kernel_rfl)) (fun _ _ _ h => h) (Or.inl ⟨by rfl, ?_⟩) hHeld ?_ ?_
      rotate_left
      ·rintro w' ⟨s0, s1, s2, s3, s4⟩
       go_simp
       with_reducible rfl
      rotate_left
      ·simp only [Act.put, List.setIfInBounds_toArray, List.set_cons_zero, List.set_cons_succ, i64_w, i32_w]
       rfl
      refine take_ (i := 10) (N := some 20) (v := ?_) (a' := ?_) #[true, true, false, true, true, false, true, true, false, true, true, false, false, false, false, false, false] rfl rfl (take_ofW HT_.out HW_.out (by kernel_rfl)) (fun _ _ _ h => h) (Or.inl ⟨by rfl, ?_⟩) hHeld ?_ ?_
      rotate_left
      ·rintro w' ⟨s0, s1, s2, s3, s4⟩
       go_simp
       with_reducible rfl
      rotate_left
      ·simp only [Act.put, List.setIfInBounds_toArray, List.set_cons_zero, List.set_cons_succ, i64_w, i32_w]
       rfl
      refine one_ (i := 2) (N := some 12) #[true, true, true, true, true, false, true, true, false, true, true, false, false, false, false, false, false] rfl rfl (one_of HT_.out (by kernel_rfl)) (by decide) (fun K hK => ?_)
      refine goes_ Tryd.func77 (by kernel_rfl) rfl #[.int .i64 a0_1] (by rfl) rfl rfl (by (try simp only [List.map_toArray, List.map_cons, List.map_nil]); first | done | rfl | (simp only [List.length_drop, List.length_take]; rfl)) ?_
      with_reducible refine (spec_l16R.calls k a0_1 t121 _ A4.out).mono ?_
      rintro e w16 ⟨rfl, hb⟩
      refine ⟨_, rfl, ?_⟩
      have n0_ := Aside0.mk (blk_below (g := gb119) (o := .cells #[.int .i64 a0_0, .int .i64 a0_1, .int .i64 a0_2, .int .i64 a0_3, .int .i64 a0_4] 46 (0, 0)) (by (with_reducible repeat (first | refine blk_drewN ?_ _ | refine blk_drew ?_ | refine blk_alloc ?_ _)); exact BK119.out) hb)
      have n1_ := Aside0.mk (below_step (by repeat (first | (with_reducible first | exact HB.out | apply below_alloc | apply pw_below_drewN | apply below_drew1 | refine below_set ?_ GE119.out) | exact HB.out)) hb)
      clear BK119
      clear HB
      have BK119 := n0_
      have HB := n1_
      clear n0_ n1_
      (try clear hb)
      (try clear hb2)
      (try clear hk)
      (try clear hi)
      refine hK.out _ _ ⟨(blk_cell BK119.out 0).trans rfl, (blk_cell BK119.out 1).trans rfl, (blk_cell BK119.out 2).trans rfl, (blk_cell BK119.out 3).trans rfl, (blk_cell BK119.out 4).trans rfl⟩ (fun hHeld => ?_)
      clear hK K
      refine norm_ (a' := ?_) ?_ ?_
      rotate_left
      ·show Act.put _ (some 12) _ = _
       simp only [Act.put, List.setIfInBounds_toArray, List.set_cons_zero, List.set_cons_succ, i64_w, i32_w]
       rfl
      refine one_ (i := 5) (N := some 15) #[true, true, true, true, true, true, true, true, false, true, true, false, false, false, false, false, false] rfl rfl (one_of HT_.out (by kernel_rfl)) (by decide) (fun K hK => ?_)
      refine goes_ Tryd.func77 (by kernel_rfl) rfl #[.int .i64 a0_2] (by rfl) rfl rfl (by (try simp only [List.map_toArray, List.map_cons, List.map_nil]); first | done | rfl | (simp only [List.length_drop, List.length_take]; rfl)) ?_
      with_reducible refine (spec_l16R.calls k a0_2 t122 _ A5.out).mono ?_
      rintro e w17 ⟨rfl, hb⟩
      refine ⟨_, rfl, ?_⟩
      have n0_ := Aside0.mk (blk_below (g := gb119) (o := .cells #[.int .i64 a0_0, .int .i64 a0_1, .int .i64 a0_2, .int .i64 a0_3, .int .i64 a0_4] 46 (0, 0)) (by (with_reducible repeat (first | refine blk_drewN ?_ _ | refine blk_drew ?_ | refine blk_alloc ?_ _)); exact BK119.out) hb)
      have n1_ := Aside0.mk (below_step (by repeat (first | (with_reducible first | exact HB.out | apply below_alloc | apply pw_below_drewN | apply below_drew1 | refine below_set ?_ GE119.out) | exact HB.out)) hb)
      clear BK119
      clear HB
      have BK119 := n0_
      have HB := n1_
      clear n0_ n1_
      (try clear hb)
      (try clear hb2)
      (try clear hk)
      (try clear hi)
      refine hK.out _ _ ⟨(blk_cell BK119.out 0).trans rfl, (blk_cell BK119.out 1).trans rfl, (blk_cell BK119.out 2).trans rfl, (blk_cell BK119.out 3).trans rfl, (blk_cell BK119.out 4).trans rfl⟩ (fun hHeld => ?_)
      clear hK K
      refine norm_ (a' := ?_) ?_ ?_
      rotate_left
      ·show Act.put _ (some 15) _ = _
       simp only [Act.put, List.setIfInBounds_toArray, List.set_cons_zero, List.set_cons_succ, i64_w, i32_w]
       rfl
      refine one_ (i := 8) (N := some 18) #[true, true, true, true, true, true, true, true, true, true, true, false, false, false, false, false, false] rfl rfl (one_of HT_.out (by kernel_rfl)) (by decide) (fun K hK => ?_)
      refine goes_ Tryd.func77 (by kernel_rfl) rfl #[.int .i64 a0_3] (by rfl) rfl rfl (by (try simp only [List.map_toArray, List.map_cons, List.map_nil]); first | done | rfl | (simp only [List.length_drop, List.length_take]; rfl)) ?_
      with_reducible refine (spec_l16R.calls k a0_3 t123 _ A6.out).mono ?_
      rintro e w18 ⟨rfl, hb⟩
      refine ⟨_, rfl, ?_⟩
      have n0_ := Aside0.mk (blk_below (g := gb119) (o := .cells #[.int .i64 a0_0, .int .i64 a0_1, .int .i64 a0_2, .int .i64 a0_3, .int .i64 a0_4] 46 (0, 0)) (by (with_reducible repeat (first | refine blk_drewN ?_ _ | refine blk_drew ?_ | refine blk_alloc ?_ _)); exact BK119.out) hb)
      have n1_ := Aside0.mk (below_step (by repeat (first | (with_reducible first | exact HB.out | apply below_alloc | apply pw_below_drewN | apply below_drew1 | refine below_set ?_ GE119.out) | exact HB.out)) hb)
      clear BK119
      clear HB
      have BK119 := n0_
      have HB := n1_
      clear n0_ n1_
      (try clear hb)
      (try clear hb2)
      (try clear hk)
      (try clear hi)
      refine hK.out _ _ ⟨(blk_cell BK119.out 0).trans rfl, (blk_cell BK119.out 1).trans rfl, (blk_cell BK119.out 2).trans rfl, (blk_cell BK119.out 3).trans rfl, (blk_cell BK119.out 4).trans rfl⟩ (fun hHeld => ?_)
      clear hK K
      refine norm_ (a' := ?_) ?_ ?_
      rotate_left
      ·show Act.put _ (some 18) _ = _
       simp only [Act.put, List.setIfInBounds_toArray, List.set_cons_zero, List.set_cons_succ, i64_w, i32_w]
       rfl
      refine one_ (i := 11) (N := some 21) #[true, true, true, true, true, true, true, true, true, true, true, true, false, false, false, false, false] rfl rfl (one_of HT_.out (by kernel_rfl)) (by decide) (fun K hK => ?_)
      refine goes_ Tryd.func62 (by kernel_rfl) rfl #[.int .i64 a0_4] (by rfl) rfl rfl (by (try simp only [List.map_toArray, List.map_cons, List.map_nil]); first | done | rfl | (simp only [List.length_drop, List.length_take]; rfl)) ?_
      with_reducible refine (spec_l2Digits.calls k a0_4 t124 _ A7.out).mono ?_
      rintro e w19 ⟨rfl, hb⟩
      refine ⟨_, rfl, ?_⟩
      have n0_ := Aside0.mk (blk_below (g := gb119) (o := .cells #[.int .i64 a0_0, .int .i64 a0_1, .int .i64 a0_2, .int .i64 a0_3, .int .i64 a0_4] 46 (0, 0)) (by (with_reducible repeat (first | refine blk_drewN ?_ _ | refine blk_drew ?_ | refine blk_alloc ?_ _)); exact BK119.out) hb)
      have n1_ := Aside0.mk (below_step (by repeat (first | (with_reducible first | exact HB.out | apply below_alloc | apply pw_below_drewN | apply below_drew1 | refine below_set ?_ GE119.out) | exact HB.out)) hb)
      clear BK119
      clear HB
      have BK119 := n0_
      have HB := n1_
      clear n0_ n1_
      (try clear hb)
      (try clear hb2)
      (try clear hk)
      (try clear hi)
      refine hK.out _ _ ⟨(blk_cell BK119.out 0).trans rfl, (blk_cell BK119.out 1).trans rfl, (blk_cell BK119.out 2).trans rfl, (blk_cell BK119.out 3).trans rfl, (blk_cell BK119.out 4).trans rfl⟩ (fun hHeld => ?_)
      clear hK K
      refine norm_ (a' := ?_) ?_ ?_
      rotate_left
      ·show Act.put _ (some 21) _ = _
       simp only [Act.put, List.setIfInBounds_toArray, List.set_cons_zero, List.set_cons_succ, i64_w, i32_w]
       rfl
      refine pure_ (i := 12) (N := some 22) (v := ?_) (a' := ?_) #[true, true, true, true, true, true, true, true, true, true, true, true, true, false, false, false, false] rfl rfl (any_of HT_.out (by kernel_rfl)) (fun _ _ _ h => h) (Or.inl ⟨by rfl, ?_⟩) ?_ ?_
      rotate_left
      ·intro w'
       go_simp
       with_reducible rfl
      rotate_left
      ·simp only [Act.put, List.setIfInBounds_toArray, List.set_cons_zero, List.set_cons_succ, i64_w, i32_w]
       rfl
      refine pure_ (i := 13) (N := some 3) (v := ?_) (a' := ?_) #[true, true, true, true, true, true, true, true, true, true, true, true, true, true, false, false, false] rfl rfl (any_of HT_.out (by kernel_rfl)) (fun _ _ _ h => h) (Or.inl ⟨by rfl, ?_⟩) ?_ ?_
      rotate_left
      ·intro w'
       go_simp
       with_reducible rfl
      rotate_left
      ·simp only [Act.put, List.setIfInBounds_toArray, List.set_cons_zero, List.set_cons_succ, i64_w, i32_w]
       rfl
      refine pure_ (i := 14) (N := some 4) (v := ?_) (a' := ?_) #[true, true, true, true, true, true, true, true, true, true, true, true, true, true, true, false, false] rfl rfl (any_of HT_.out (by kernel_rfl)) (fun _ _ _ h => h) (Or.inl ⟨by rfl, ?_⟩) ?_ ?_
      rotate_left
      ·intro w'
       go_simp
       with_reducible rfl
      rotate_left
      ·simp only [Act.put, List.setIfInBounds_toArray, List.set_cons_zero, List.set_cons_succ, i64_w, i32_w]
       rfl
      refine pure_ (i := 15) (N := some 5) (v := ?_) (a' := ?_) #[true, true, true, true, true, true, true, true, true, true, true, true, true, true, true, true, false] rfl rfl (any_of HT_.out (by kernel_rfl)) (fun _ _ _ h => h) (Or.inl ⟨by rfl, ?_⟩) ?_ ?_
      rotate_left
      ·intro w'
       go_simp
       with_reducible rfl
      rotate_left
      ·simp only [Act.put, List.setIfInBounds_toArray, List.set_cons_zero, List.set_cons_succ, i64_w, i32_w]
       rfl
      refine pure_ (i := 16) (N := some 6) (v := ?_) (a' := ?_) #[true, true, true, true, true, true, true, true, true, true, true, true, true, true, true, true, true] rfl rfl (any_of HT_.out (by kernel_rfl)) (fun _ _ _ h => h) (Or.inl ⟨by rfl, ?_⟩) ?_ ?_
      rotate_left
      ·intro w'
       go_simp
       with_reducible rfl
      rotate_left
      ·simp only [Act.put, List.setIfInBounds_toArray, List.set_cons_zero, List.set_cons_succ, i64_w, i32_w]
       rfl
      refine done_ (done_of HT_.out (by kernel_rfl)) ?_
      have hcz20_0 : w19.cell? ⟨gb119, 0, none⟩ = some (.int .i64 a0_0) := (blk_cell BK119.out 0).trans rfl
      have hcz20_1 : w19.cell? ⟨gb119, 1, none⟩ = some (.int .i64 a0_1) := (blk_cell BK119.out 1).trans rfl
      have hcz20_2 : w19.cell? ⟨gb119, 2, none⟩ = some (.int .i64 a0_2) := (blk_cell BK119.out 2).trans rfl
      have hcz20_3 : w19.cell? ⟨gb119, 3, none⟩ = some (.int .i64 a0_3) := (blk_cell BK119.out 3).trans rfl
      have hcz20_4 : w19.cell? ⟨gb119, 4, none⟩ = some (.int .i64 a0_4) := (blk_cell BK119.out 4).trans rfl
      have hfz20_0 := blk_frozen BK119.out 0
      have hfz20_1 := blk_frozen BK119.out 1
      have hfz20_2 := blk_frozen BK119.out 2
      have hfz20_3 := blk_frozen BK119.out 3
      have hfz20_4 := blk_frozen BK119.out 4
      try go_wp2
      go_ret
      exact ⟨by first | rfl | (simp [errW_none, errW_some] <;> rfl) | (simp [*, errW_none, errW_some] <;> rfl), by repeat (first | (with_reducible first | exact HB.out | apply below_alloc | apply pw_below_drewN | apply below_drew1 | refine below_set ?_ GE119.out) | exact HB.out)⟩
     ·rw [if_neg c11] at H
      exact absurd H (by simp)
    ·rw [if_neg c10] at H
     exact absurd H (by simp)
   ·rw [if_neg c9] at H
    have c9b0 : (a0_0 == 1) = false := beq_eq_false_iff_ne.mpr c9
    have c9b1 : (a0_0 != 1) = true := bne_iff_ne.mpr c9
    by_cases c21 : a0_0 = 2
    ·rw [if_pos c21] at H
     have c21b0 : (a0_0 == 2) = true := beq_iff_eq.mpr c21
     have c21b1 : (a0_0 != 2) = false := bne_eq_false_iff_eq.mpr c21
     clear c21
     by_cases c22 : 3 + t121.size ≤ 9223372036854775807
     ·rw [if_pos c22] at H
      have c22b0 := eq_true c22
      have c22b1 : decide (3 + t121.size ≤ 9223372036854775807) = true := decide_eq_true c22
      try have c22b2 : (9223372036854775807 < 3 + t121.size) = False := eq_false (Nat.not_lt.2 c22)
      by_cases c23 : ((⟨#[97, 100, 100]⟩ : ByteArray) ++ t121).size + t122.size ≤ 9223372036854775807
      ·rw [if_pos c23] at H
       have c23b0 := eq_true c23
       have c23b1 : decide (((⟨#[97, 100, 100]⟩ : ByteArray) ++ t121).size + t122.size ≤ 9223372036854775807) = true := decide_eq_true c23
       (try (have c23n := c23; simp only [ByteArray.size_append, Tab.sz_mk, List.size_toArray, List.length_cons, List.length_nil, Nat.zero_add, Nat.reduceAdd] at c23n; have c23b4 := eq_true c23n; have c23b5 := eq_false (Nat.not_lt.2 c23n)))
       try have c23b2 : (9223372036854775807 < ((⟨#[97, 100, 100]⟩ : ByteArray) ++ t121).size + t122.size) = False := eq_false (Nat.not_lt.2 c23)
       by_cases c24 : (((⟨#[97, 100, 100]⟩ : ByteArray) ++ t121) ++ t122).size + t123.size ≤ 9223372036854775807
       ·rw [if_pos c24] at H
        have c24b0 := eq_true c24
        have c24b1 : decide ((((⟨#[97, 100, 100]⟩ : ByteArray) ++ t121) ++ t122).size + t123.size ≤ 9223372036854775807) = true := decide_eq_true c24
        (try (have c24n := c24; simp only [ByteArray.size_append, Tab.sz_mk, List.size_toArray, List.length_cons, List.length_nil, Nat.zero_add, Nat.reduceAdd] at c24n; have c24b4 := eq_true c24n; have c24b5 := eq_false (Nat.not_lt.2 c24n)))
        try have c24b2 : (9223372036854775807 < (((⟨#[97, 100, 100]⟩ : ByteArray) ++ t121) ++ t122).size + t123.size) = False := eq_false (Nat.not_lt.2 c24)
        obtain rfl := Option.some.inj H
        go_enter Tryd.func27, Tryd.ntmps27
        try go_wp2_with (first | ((with_reducible refine gate_dst (N := 1) rfl ?_); refine box_event ?hg (N := 1) ?hd (cs := #[.int .i64 a0_0, .int .i64 a0_1, .int .i64 a0_2, .int .i64 a0_3, .int .i64 a0_4]) (t := 46) ?hr ?_; (case hd => rfl); (case hg => rfl); (case hr => first | (go_simp; done) | (go_simp; rfl)); intro gb119 hg w25 hbox hb; have n0_ := Aside0.mk (below_step (by repeat (first | (with_reducible first | exact HB.out | apply below_alloc | apply pw_below_drewN | apply below_drew1) | exact HB.out)) hb); have n1_ := Aside0.mk (hbox); have n2_ := Aside0.mk ((by rw [hg]; exact (below_size (by repeat (first | (with_reducible first | exact HB.out | apply below_alloc | apply pw_below_drewN | apply below_drew1) | exact HB.out))) : w.heap.size ≤ gb119)); have n3_ := Aside0.mk ((by rw [hg]; exact (below_size (by repeat (first | (with_reducible first | exact HB.out | apply below_alloc | apply pw_below_drewN | apply below_drew1) | exact HB.out))) : w.heap.size ≤ gb119)); clear HB; have HB := n0_; have BK119 := n1_; have GW119 := n2_; have GE119 := n3_; clear n0_ n1_ n2_ n3_; clear hb hbox hg; have hcz26_0 : w25.cell? ⟨gb119, 0, none⟩ = some (.int .i64 a0_0) := (blk_cell BK119.out 0).trans rfl; have hcz26_1 : w25.cell? ⟨gb119, 1, none⟩ = some (.int .i64 a0_1) := (blk_cell BK119.out 1).trans rfl; have hcz26_2 : w25.cell? ⟨gb119, 2, none⟩ = some (.int .i64 a0_2) := (blk_cell BK119.out 2).trans rfl; have hcz26_3 : w25.cell? ⟨gb119, 3, none⟩ = some (.int .i64 a0_3) := (blk_cell BK119.out 3).trans rfl; have hcz26_4 : w25.cell? ⟨gb119, 4, none⟩ = some (.int .i64 a0_4) := (blk_cell BK119.out 4).trans rfl; have hfz26_0 := blk_frozen BK119.out 0; have hfz26_1 := blk_frozen BK119.out 1; have hfz26_2 := blk_frozen BK119.out 2; have hfz26_3 := blk_frozen BK119.out 3; have hfz26_4 := blk_frozen BK119.out 4) | ((with_reducible refine gate_callee (f := 76) rfl ?_); refine goesL_ (some 8) rfl rfl Tryd.func76 (by kernel_rfl) rfl #[.agg #[.int .i64 a0_0, .int .i64 a0_1, .int .i64 a0_2, .int .i64 a0_3, .int .i64 a0_4], .int .i64 800] rfl (by (try simp only [List.map_toArray, List.map_cons, List.map_nil]); first | done | rfl | (simp only [List.length_drop, List.length_take]; rfl)) ?_; (with_reducible refine (spec_StepOk.calls k a0_0 a0_1 a0_2 a0_3 a0_4 800 true _ A2.out).mono ?_); rintro e w27 ⟨rfl, hb⟩; refine ⟨_, rfl, ?_⟩; have n0_ := Aside0.mk (blk_below (g := gb119) (o := .cells #[.int .i64 a0_0, .int .i64 a0_1, .int .i64 a0_2, .int .i64 a0_3, .int .i64 a0_4] 46 (0, 0)) (by (with_reducible repeat (first | refine blk_drewN ?_ _ | refine blk_drew ?_ | refine blk_alloc ?_ _)); exact BK119.out) hb); have n1_ := Aside0.mk (below_step (by repeat (first | (with_reducible first | exact HB.out | apply below_alloc | apply pw_below_drewN | apply below_drew1 | refine below_set ?_ GE119.out) | exact HB.out)) hb); clear BK119; clear HB; have BK119 := n0_; have HB := n1_; clear n0_ n1_; (try clear hb); (try clear hb2); (try clear hk); (try clear hi)))
        (all_goals try (exfalso; have e1_ : (⟨#[32]⟩ : ByteArray).size = 1 := rfl; have e2_ : (⟨#[10]⟩ : ByteArray).size = 1 := rfl; simp only [ByteArray.size_append] at c23; omega))
        (all_goals try (exfalso; have e1_ : (⟨#[32]⟩ : ByteArray).size = 1 := rfl; have e2_ : (⟨#[10]⟩ : ByteArray).size = 1 := rfl; simp only [ByteArray.size_append] at c24; omega))
        have n0_ := Aside0.mk (blk_drew BK119.out)
        have n1_ := Aside0.mk (below_drew1 HB.out)
        clear BK119
        clear HB
        have BK119 := n0_
        have HB := n1_
        clear n0_ n1_
        refine start_ (n := 17) (S := fun w' => w'.cell? ⟨gb119, 0, none⟩ = some (.int .i64 a0_0) ∧ w'.cell? ⟨gb119, 1, none⟩ = some (.int .i64 a0_1) ∧ w'.cell? ⟨gb119, 2, none⟩ = some (.int .i64 a0_2) ∧ w'.cell? ⟨gb119, 3, none⟩ = some (.int .i64 a0_3) ∧ w'.cell? ⟨gb119, 4, none⟩ = some (.int .i64 a0_4)) (ds := []) #[false, false, false, false, false, false, false, false, false, false, false, false, false, false, false, false, false] (by kernel_rfl) rfl rfl ⟨(blk_cell BK119.out 0).trans rfl, (blk_cell BK119.out 1).trans rfl, (blk_cell BK119.out 2).trans rfl, (blk_cell BK119.out 3).trans rfl, (blk_cell BK119.out 4).trans rfl⟩ (fun hHeld => ?_); refine with_tabW spec_StepText.tab3 spec_StepText.bits3 (fun HT_ HW_ => ?_)
        generalize w27.drew = w28 at BK119 HB hHeld ⊢
        refine pure_ (i := 0) (N := some 10) (v := ?_) (a' := ?_) #[true, false, false, false, false, false, false, false, false, false, false, false, false, false, false, false, false] rfl rfl (any_of HT_.out (by kernel_rfl)) (fun _ _ _ h => h) (Or.inl ⟨by rfl, ?_⟩) ?_ ?_
        rotate_left
        ·intro w'
         go_simp
         with_reducible rfl
        rotate_left
        ·simp only [Act.put, List.setIfInBounds_toArray, List.set_cons_zero, List.set_cons_succ, i64_w, i32_w]
         rfl
        refine pure_ (i := 3) (N := some 13) (v := ?_) (a' := ?_) #[true, false, false, true, false, false, false, false, false, false, false, false, false, false, false, false, false] rfl rfl (any_of HT_.out (by kernel_rfl)) (fun _ _ _ h => h) (Or.inl ⟨by rfl, ?_⟩) ?_ ?_
        rotate_left
        ·intro w'
         go_simp
         with_reducible rfl
        rotate_left
        ·simp only [Act.put, List.setIfInBounds_toArray, List.set_cons_zero, List.set_cons_succ, i64_w, i32_w]
         rfl
        refine pure_ (i := 6) (N := some 16) (v := ?_) (a' := ?_) #[true, false, false, true, false, false, true, false, false, false, false, false, false, false, false, false, false] rfl rfl (any_of HT_.out (by kernel_rfl)) (fun _ _ _ h => h) (Or.inl ⟨by rfl, ?_⟩) ?_ ?_
        rotate_left
        ·intro w'
         go_simp
         with_reducible rfl
        rotate_left
        ·simp only [Act.put, List.setIfInBounds_toArray, List.set_cons_zero, List.set_cons_succ, i64_w, i32_w]
         rfl
        refine pure_ (i := 9) (N := some 19) (v := ?_) (a' := ?_) #[true, false, false, true, false, false, true, false, false, true, false, false, false, false, false, false, false] rfl rfl (any_of HT_.out (by kernel_rfl)) (fun _ _ _ h => h) (Or.inl ⟨by rfl, ?_⟩) ?_ ?_
        rotate_left
        ·intro w'
         go_simp
         with_reducible rfl
        rotate_left
        ·simp only [Act.put, List.setIfInBounds_toArray, List.set_cons_zero, List.set_cons_succ, i64_w, i32_w]
         rfl
        refine take_ (i := 1) (N := some 11) (v := ?_) (a' := ?_) #[true, true, false, true, false, false, true, false, false, true, false, false, false, false, false, false, false] rfl rfl (take_ofW HT_.out HW_.out (by kernel_rfl)) (fun _ _ _ h => h) (Or.inl ⟨by rfl, ?_⟩) hHeld ?_ ?_
        rotate_left
        ·rintro w' ⟨s0, s1, s2, s3, s4⟩
         go_simp
         with_reducible rfl
        rotate_left
        ·simp only [Act.put, List.setIfInBounds_toArray, List.set_cons_zero, List.set_cons_succ, i64_w, i32_w]
         rfl
        refine take_ (i := 4) (N := some 14) (v := ?_) (a' := ?_) #[true, true, false, true, true, false, true, false, false, true, false, false, false, false, false, false, false] rfl rfl (take_ofW HT_.out HW_.out (by kernel_rfl)) (fun _ _ _ h => h) (Or.inl ⟨by rfl, ?_⟩) hHeld ?_ ?_
        rotate_left
        ·rintro w' ⟨s0, s1, s2, s3, s4⟩
         go_simp
         with_reducible rfl
        rotate_left
        ·simp only [Act.put, List.setIfInBounds_toArray, List.set_cons_zero, List.set_cons_succ, i64_w, i32_w]
         rfl
        refine take_ (i := 7) (N := some 17) (v := ?_) (a' := ?_) #[true, true, false, true, true, false, true, true, false, true, false, false, false, false, false, false, false] rfl rfl (take_ofW HT_.out HW_.out (by kernel_rfl)) (fun _ _ _ h => h) (Or.inl ⟨by rfl, ?_⟩) hHeld ?_ ?_
        rotate_left
        ·rintro w' ⟨s0, s1, s2, s3, s4⟩
         go_simp
         with_reducible rfl
        rotate_left
        ·simp only [Act.put, List.setIfInBounds_toArray, List.set_cons_zero, List.set_cons_succ, i64_w, i32_w]
         rfl
        refine take_ (i := 10) (N := some 20) (v := ?_) (a' := ?_) #[true, true, false, true, true, false, true, true, false, true, true, false, false, false, false, false, false] rfl rfl (take_ofW HT_.out HW_.out (by kernel_rfl)) (fun _ _ _ h => h) (Or.inl ⟨by rfl, ?_⟩) hHeld ?_ ?_
        rotate_left
        ·rintro w' ⟨s0, s1, s2, s3, s4⟩
         go_simp
         with_reducible rfl
        rotate_left
        ·simp only [Act.put, List.setIfInBounds_toArray, List.set_cons_zero, List.set_cons_succ, i64_w, i32_w]
         rfl
        refine one_ (i := 2) (N := some 12) #[true, true, true, true, true, false, true, true, false, true, true, false, false, false, false, false, false] rfl rfl (one_of HT_.out (by kernel_rfl)) (by decide) (fun K hK => ?_)
        refine goes_ Tryd.func77 (by kernel_rfl) rfl #[.int .i64 a0_1] (by rfl) rfl rfl (by (try simp only [List.map_toArray, List.map_cons, List.map_nil]); first | done | rfl | (simp only [List.length_drop, List.length_take]; rfl)) ?_
        with_reducible refine (spec_l16R.calls k a0_1 t121 _ A4.out).mono ?_
        rintro e w29 ⟨rfl, hb⟩
        refine ⟨_, rfl, ?_⟩
        have n0_ := Aside0.mk (blk_below (g := gb119) (o := .cells #[.int .i64 a0_0, .int .i64 a0_1, .int .i64 a0_2, .int .i64 a0_3, .int .i64 a0_4] 46 (0, 0)) (by (with_reducible repeat (first | refine blk_drewN ?_ _ | refine blk_drew ?_ | refine blk_alloc ?_ _)); exact BK119.out) hb)
        have n1_ := Aside0.mk (below_step (by repeat (first | (with_reducible first | exact HB.out | apply below_alloc | apply pw_below_drewN | apply below_drew1 | refine below_set ?_ GE119.out) | exact HB.out)) hb)
        clear BK119
        clear HB
        have BK119 := n0_
        have HB := n1_
        clear n0_ n1_
        (try clear hb)
        (try clear hb2)
        (try clear hk)
        (try clear hi)
        refine hK.out _ _ ⟨(blk_cell BK119.out 0).trans rfl, (blk_cell BK119.out 1).trans rfl, (blk_cell BK119.out 2).trans rfl, (blk_cell BK119.out 3).trans rfl, (blk_cell BK119.out 4).trans rfl⟩ (fun hHeld => ?_)
        clear hK K
        refine norm_ (a' := ?_) ?_ ?_
        rotate_left
        ·show Act.put _ (some 12) _ = _
         simp only [Act.put, List.setIfInBounds_toArray, List.set_cons_zero, List.set_cons_succ, i64_w, i32_w]
         rfl
        refine one_ (i := 5) (N := some 15) #[true, true, true, true, true, true, true, true, false, true, true, false, false, false, false, false, false] rfl rfl (one_of HT_.out (by kernel_rfl)) (by decide) (fun K hK => ?_)
        refine goes_ Tryd.func77 (by kernel_rfl) rfl #[.int .i64 a0_2] (by rfl) rfl rfl (by (try simp only [List.map_toArray, List.map_cons, List.map_nil]); first | done | rfl | (simp only [List.length_drop, List.length_take]; rfl)) ?_
        with_reducible refine (spec_l16R.calls k a0_2 t122 _ A5.out).mono ?_
        rintro e w30 ⟨rfl, hb⟩
        refine ⟨_, rfl, ?_⟩
        have n0_ := Aside0.mk (blk_below (g := gb119) (o := .cells #[.int .i64 a0_0, .int .i64 a0_1, .int .i64 a0_2, .int .i64 a0_3, .int .i64 a0_4] 46 (0, 0)) (by (with_reducible repeat (first | refine blk_drewN ?_ _ | refine blk_drew ?_ | refine blk_alloc ?_ _)); exact BK119.out) hb)
        have n1_ := Aside0.mk (below_step (by repeat (first | (with_reducible first | exact HB.out | apply below_alloc | apply pw_below_drewN | apply below_drew1 | refine below_set ?_ GE119.out) | exact HB.out)) hb)
        clear BK119
        clear HB
        have BK119 := n0_
        have HB := n1_
        clear n0_ n1_
        (try clear hb)
        (try clear hb2)
        (try clear hk)
        (try clear hi)
        refine hK.out _ _ ⟨(blk_cell BK119.out 0).trans rfl, (blk_cell BK119.out 1).trans rfl, (blk_cell BK119.out 2).trans rfl, (blk_cell BK119.out 3).trans rfl, (blk_cell BK119.out 4).trans rfl⟩ (fun hHeld => ?_)
        clear hK K
        refine norm_ (a' := ?_) ?_ ?_
        rotate_left
        ·show Act.put _ (some 15) _ = _
         simp only [Act.put, List.setIfInBounds_toArray, List.set_cons_zero, List.set_cons_succ, i64_w, i32_w]
         rfl
        refine one_ (i := 8) (N := some 18) #[true, true, true, true, true, true, true, true, true, true, true, false, false, false, false, false, false] rfl rfl (one_of HT_.out (by kernel_rfl)) (by decide) (fun K hK => ?_)
        refine goes_ Tryd.func77 (by kernel_rfl) rfl #[.int .i64 a0_3] (by rfl) rfl rfl (by (try simp only [List.map_toArray, List.map_cons, List.map_nil]); first | done | rfl | (simp only [List.length_drop, List.length_take]; rfl)) ?_
        with_reducible refine (spec_l16R.calls k a0_3 t123 _ A6.out).mono ?_
        rintro e w31 ⟨rfl, hb⟩
        refine ⟨_, rfl, ?_⟩
        have n0_ := Aside0.mk (blk_below (g := gb119) (o := .cells #[.int .i64 a0_0, .int .i64 a0_1, .int .i64 a0_2, .int .i64 a0_3, .int .i64 a0_4] 46 (0, 0)) (by (with_reducible repeat (first | refine blk_drewN ?_ _ | refine blk_drew ?_ | refine blk_alloc ?_ _)); exact BK119.out) hb)
        have n1_ := Aside0.mk (below_step (by repeat (first | (with_reducible first | exact HB.out | apply below_alloc | apply pw_below_drewN | apply below_drew1 | refine below_set ?_ GE119.out) | exact HB.out)) hb)
        clear BK119
        clear HB
        have BK119 := n0_
        have HB := n1_
        clear n0_ n1_
        (try clear hb)
        (try clear hb2)
        (try clear hk)
        (try clear hi)
        refine hK.out _ _ ⟨(blk_cell BK119.out 0).trans rfl, (blk_cell BK119.out 1).trans rfl, (blk_cell BK119.out 2).trans rfl, (blk_cell BK119.out 3).trans rfl, (blk_cell BK119.out 4).trans rfl⟩ (fun hHeld => ?_)
        clear hK K
        refine norm_ (a' := ?_) ?_ ?_
        rotate_left
        ·show Act.put _ (some 18) _ = _
         simp only [Act.put, List.setIfInBounds_toArray, List.set_cons_zero, List.set_cons_succ, i64_w, i32_w]
         rfl
        refine one_ (i := 11) (N := some 21) #[true, true, true, true, true, true, true, true, true, true, true, true, false, false, false, false, false] rfl rfl (one_of HT_.out (by kernel_rfl)) (by decide) (fun K hK => ?_)
        refine goes_ Tryd.func62 (by kernel_rfl) rfl #[.int .i64 a0_4] (by rfl) rfl rfl (by (try simp only [List.map_toArray, List.map_cons, List.map_nil]); first | done | rfl | (simp only [List.length_drop, List.length_take]; rfl)) ?_
        with_reducible refine (spec_l2Digits.calls k a0_4 t124 _ A7.out).mono ?_
        rintro e w32 ⟨rfl, hb⟩
        refine ⟨_, rfl, ?_⟩
        have n0_ := Aside0.mk (blk_below (g := gb119) (o := .cells #[.int .i64 a0_0, .int .i64 a0_1, .int .i64 a0_2, .int .i64 a0_3, .int .i64 a0_4] 46 (0, 0)) (by (with_reducible repeat (first | refine blk_drewN ?_ _ | refine blk_drew ?_ | refine blk_alloc ?_ _)); exact BK119.out) hb)
        have n1_ := Aside0.mk (below_step (by repeat (first | (with_reducible first | exact HB.out | apply below_alloc | apply pw_below_drewN | apply below_drew1 | refine below_set ?_ GE119.out) | exact HB.out)) hb)
        clear BK119
        clear HB
        have BK119 := n0_
        have HB := n1_
        clear n0_ n1_
        (try clear hb)
        (try clear hb2)
        (try clear hk)
        (try clear hi)
        refine hK.out _ _ ⟨(blk_cell BK119.out 0).trans rfl, (blk_cell BK119.out 1).trans rfl, (blk_cell BK119.out 2).trans rfl, (blk_cell BK119.out 3).trans rfl, (blk_cell BK119.out 4).trans rfl⟩ (fun hHeld => ?_)
        clear hK K
        refine norm_ (a' := ?_) ?_ ?_
        rotate_left
        ·show Act.put _ (some 21) _ = _
         simp only [Act.put, List.setIfInBounds_toArray, List.set_cons_zero, List.set_cons_succ, i64_w, i32_w]
         rfl
        refine pure_ (i := 12) (N := some 22) (v := ?_) (a' := ?_) #[true, true, true, true, true, true, true, true, true, true, true, true, true, false, false, false, false] rfl rfl (any_of HT_.out (by kernel_rfl)) (fun _ _ _ h => h) (Or.inl ⟨by rfl, ?_⟩) ?_ ?_
        rotate_left
        ·intro w'
         go_simp
         with_reducible rfl
        rotate_left
        ·simp only [Act.put, List.setIfInBounds_toArray, List.set_cons_zero, List.set_cons_succ, i64_w, i32_w]
         rfl
        refine pure_ (i := 13) (N := some 3) (v := ?_) (a' := ?_) #[true, true, true, true, true, true, true, true, true, true, true, true, true, true, false, false, false] rfl rfl (any_of HT_.out (by kernel_rfl)) (fun _ _ _ h => h) (Or.inl ⟨by rfl, ?_⟩) ?_ ?_
        rotate_left
        ·intro w'
         go_simp
         with_reducible rfl
        rotate_left
        ·simp only [Act.put, List.setIfInBounds_toArray, List.set_cons_zero, List.set_cons_succ, i64_w, i32_w]
         rfl
        refine pure_ (i := 14) (N := some 4) (v := ?_) (a' := ?_) #[true, true, true, true, true, true, true, true, true, true, true, true, true, true, true, false, false] rfl rfl (any_of HT_.out (by kernel_rfl)) (fun _ _ _ h => h) (Or.inl ⟨by rfl, ?_⟩) ?_ ?_
        rotate_left
        ·intro w'
         go_simp
         with_reducible rfl
        rotate_left
        ·simp only [Act.put, List.setIfInBounds_toArray, List.set_cons_zero, List.set_cons_succ, i64_w, i32_w]
         rfl
        refine pure_ (i := 15) (N := some 5) (v := ?_) (a' := ?_) #[true, true, true, true, true, true, true, true, true, true, true, true, true, true, true, true, false] rfl rfl (any_of HT_.out (by kernel_rfl)) (fun _ _ _ h => h) (Or.inl ⟨by rfl, ?_⟩) ?_ ?_
        rotate_left
        ·intro w'
         go_simp
         with_reducible rfl
        rotate_left
        ·simp only [Act.put, List.setIfInBounds_toArray, List.set_cons_zero, List.set_cons_succ, i64_w, i32_w]
         rfl
        refine pure_ (i := 16) (N := some 6) (v := ?_) (a' := ?_) #[true, true, true, true, true, true, true, true, true, true, true, true, true, true, true, true, true] rfl rfl (any_of HT_.out (by kernel_rfl)) (fun _ _ _ h => h) (Or.inl ⟨by rfl, ?_⟩) ?_ ?_
        rotate_left
        ·intro w'
         go_simp
         with_reducible rfl
        rotate_left
        ·simp only [Act.put, List.setIfInBounds_toArray, List.set_cons_zero, List.set_cons_succ, i64_w, i32_w]
         rfl
        refine done_ (done_of HT_.out (by kernel_rfl)) ?_
        have hcz33_0 : w32.cell? ⟨gb119, 0, none⟩ = some (.int .i64 a0_0) := (blk_cell BK119.out 0).trans rfl
        have hcz33_1 : w32.cell? ⟨gb119, 1, none⟩ = some (.int .i64 a0_1) := (blk_cell BK119.out 1).trans rfl
        have hcz33_2 : w32.cell? ⟨gb119, 2, none⟩ = some (.int .i64 a0_2) := (blk_cell BK119.out 2).trans rfl
        have hcz33_3 : w32.cell? ⟨gb119, 3, none⟩ = some (.int .i64 a0_3) := (blk_cell BK119.out 3).trans rfl
        have hcz33_4 : w32.cell? ⟨gb119, 4, none⟩ = some (.int .i64 a0_4) := (blk_cell BK119.out 4).trans rfl
        have hfz33_0 := blk_frozen BK119.out 0
        have hfz33_1 := blk_frozen BK119.out 1
        have hfz33_2 := blk_frozen BK119.out 2
        have hfz33_3 := blk_frozen BK119.out 3
        have hfz33_4 := blk_frozen BK119.out 4
        try go_wp2
        go_ret
        exact ⟨by first | rfl | (simp [errW_none, errW_some] <;> rfl) | (simp [*, errW_none, errW_some] <;> rfl), by repeat (first | (with_reducible first | exact HB.out | apply below_alloc | apply pw_below_drewN | apply below_drew1 | refine below_set ?_ GE119.out) | exact HB.out)⟩
       ·rw [if_neg c24] at H
        exact absurd H (by simp)
      ·rw [if_neg c23] at H
       exact absurd H (by simp)
     ·rw [if_neg c22] at H
      exact absurd H (by simp)
    ·rw [if_neg c21] at H
     have c21b0 : (a0_0 == 2) = false := beq_eq_false_iff_ne.mpr c21
     have c21b1 : (a0_0 != 2) = true := bne_iff_ne.mpr c21
     by_cases c34 : a0_0 = 3
     ·rw [if_pos c34] at H
      have c34b0 : (a0_0 == 3) = true := beq_iff_eq.mpr c34
      have c34b1 : (a0_0 != 3) = false := bne_eq_false_iff_eq.mpr c34
      clear c34
      by_cases c35 : 3 + t121.size ≤ 9223372036854775807
      ·rw [if_pos c35] at H
       have c35b0 := eq_true c35
       have c35b1 : decide (3 + t121.size ≤ 9223372036854775807) = true := decide_eq_true c35
       try have c35b2 : (9223372036854775807 < 3 + t121.size) = False := eq_false (Nat.not_lt.2 c35)
       by_cases c36 : ((⟨#[115, 117, 98]⟩ : ByteArray) ++ t121).size + t122.size ≤ 9223372036854775807
       ·rw [if_pos c36] at H
        have c36b0 := eq_true c36
        have c36b1 : decide (((⟨#[115, 117, 98]⟩ : ByteArray) ++ t121).size + t122.size ≤ 9223372036854775807) = true := decide_eq_true c36
        (try (have c36n := c36; simp only [ByteArray.size_append, Tab.sz_mk, List.size_toArray, List.length_cons, List.length_nil, Nat.zero_add, Nat.reduceAdd] at c36n; have c36b4 := eq_true c36n; have c36b5 := eq_false (Nat.not_lt.2 c36n)))
        try have c36b2 : (9223372036854775807 < ((⟨#[115, 117, 98]⟩ : ByteArray) ++ t121).size + t122.size) = False := eq_false (Nat.not_lt.2 c36)
        by_cases c37 : (((⟨#[115, 117, 98]⟩ : ByteArray) ++ t121) ++ t122).size + t123.size ≤ 9223372036854775807
        ·rw [if_pos c37] at H
         have c37b0 := eq_true c37
         have c37b1 : decide ((((⟨#[115, 117, 98]⟩ : ByteArray) ++ t121) ++ t122).size + t123.size ≤ 9223372036854775807) = true := decide_eq_true c37
         (try (have c37n := c37; simp only [ByteArray.size_append, Tab.sz_mk, List.size_toArray, List.length_cons, List.length_nil, Nat.zero_add, Nat.reduceAdd] at c37n; have c37b4 := eq_true c37n; have c37b5 := eq_false (Nat.not_lt.2 c37n)))
         try have c37b2 : (9223372036854775807 < (((⟨#[115, 117, 98]⟩ : ByteArray) ++ t121) ++ t122).size + t123.size) = False := eq_false (Nat.not_lt.2 c37)
         obtain rfl := Option.some.inj H
         go_enter Tryd.func27, Tryd.ntmps27
         try go_wp2_with (first | ((with_reducible refine gate_dst (N := 1) rfl ?_); refine box_event ?hg (N := 1) ?hd (cs := #[.int .i64 a0_0, .int .i64 a0_1, .int .i64 a0_2, .int .i64 a0_3, .int .i64 a0_4]) (t := 46) ?hr ?_; (case hd => rfl); (case hg => rfl); (case hr => first | (go_simp; done) | (go_simp; rfl)); intro gb119 hg w38 hbox hb; have n0_ := Aside0.mk (below_step (by repeat (first | (with_reducible first | exact HB.out | apply below_alloc | apply pw_below_drewN | apply below_drew1) | exact HB.out)) hb); have n1_ := Aside0.mk (hbox); have n2_ := Aside0.mk ((by rw [hg]; exact (below_size (by repeat (first | (with_reducible first | exact HB.out | apply below_alloc | apply pw_below_drewN | apply below_drew1) | exact HB.out))) : w.heap.size ≤ gb119)); have n3_ := Aside0.mk ((by rw [hg]; exact (below_size (by repeat (first | (with_reducible first | exact HB.out | apply below_alloc | apply pw_below_drewN | apply below_drew1) | exact HB.out))) : w.heap.size ≤ gb119)); clear HB; have HB := n0_; have BK119 := n1_; have GW119 := n2_; have GE119 := n3_; clear n0_ n1_ n2_ n3_; clear hb hbox hg; have hcz39_0 : w38.cell? ⟨gb119, 0, none⟩ = some (.int .i64 a0_0) := (blk_cell BK119.out 0).trans rfl; have hcz39_1 : w38.cell? ⟨gb119, 1, none⟩ = some (.int .i64 a0_1) := (blk_cell BK119.out 1).trans rfl; have hcz39_2 : w38.cell? ⟨gb119, 2, none⟩ = some (.int .i64 a0_2) := (blk_cell BK119.out 2).trans rfl; have hcz39_3 : w38.cell? ⟨gb119, 3, none⟩ = some (.int .i64 a0_3) := (blk_cell BK119.out 3).trans rfl; have hcz39_4 : w38.cell? ⟨gb119, 4, none⟩ = some (.int .i64 a0_4) := (blk_cell BK119.out 4).trans rfl; have hfz39_0 := blk_frozen BK119.out 0; have hfz39_1 := blk_frozen BK119.out 1; have hfz39_2 := blk_frozen BK119.out 2; have hfz39_3 := blk_frozen BK119.out 3; have hfz39_4 := blk_frozen BK119.out 4) | ((with_reducible refine gate_callee (f := 76) rfl ?_); refine goesL_ (some 8) rfl rfl Tryd.func76 (by kernel_rfl) rfl #[.agg #[.int .i64 a0_0, .int .i64 a0_1, .int .i64 a0_2, .int .i64 a0_3, .int .i64 a0_4], .int .i64 800] rfl (by (try simp only [List.map_toArray, List.map_cons, List.map_nil]); first | done | rfl | (simp only [List.length_drop, List.length_take]; rfl)) ?_; (with_reducible refine (spec_StepOk.calls k a0_0 a0_1 a0_2 a0_3 a0_4 800 true _ A2.out).mono ?_); rintro e w40 ⟨rfl, hb⟩; refine ⟨_, rfl, ?_⟩; have n0_ := Aside0.mk (blk_below (g := gb119) (o := .cells #[.int .i64 a0_0, .int .i64 a0_1, .int .i64 a0_2, .int .i64 a0_3, .int .i64 a0_4] 46 (0, 0)) (by (with_reducible repeat (first | refine blk_drewN ?_ _ | refine blk_drew ?_ | refine blk_alloc ?_ _)); exact BK119.out) hb); have n1_ := Aside0.mk (below_step (by repeat (first | (with_reducible first | exact HB.out | apply below_alloc | apply pw_below_drewN | apply below_drew1 | refine below_set ?_ GE119.out) | exact HB.out)) hb); clear BK119; clear HB; have BK119 := n0_; have HB := n1_; clear n0_ n1_; (try clear hb); (try clear hb2); (try clear hk); (try clear hi)))
         (all_goals try (exfalso; have e1_ : (⟨#[32]⟩ : ByteArray).size = 1 := rfl; have e2_ : (⟨#[10]⟩ : ByteArray).size = 1 := rfl; simp only [ByteArray.size_append] at c36; omega))
         (all_goals try (exfalso; have e1_ : (⟨#[32]⟩ : ByteArray).size = 1 := rfl; have e2_ : (⟨#[10]⟩ : ByteArray).size = 1 := rfl; simp only [ByteArray.size_append] at c37; omega))
         have n0_ := Aside0.mk (blk_drew BK119.out)
         have n1_ := Aside0.mk (below_drew1 HB.out)
         clear BK119
         clear HB
         have BK119 := n0_
         have HB := n1_
         clear n0_ n1_
         refine start_ (n := 17) (S := fun w' => w'.cell? ⟨gb119, 0, none⟩ = some (.int .i64 a0_0) ∧ w'.cell? ⟨gb119, 1, none⟩ = some (.int .i64 a0_1) ∧ w'.cell? ⟨gb119, 2, none⟩ = some (.int .i64 a0_2) ∧ w'.cell? ⟨gb119, 3, none⟩ = some (.int .i64 a0_3) ∧ w'.cell? ⟨gb119, 4, none⟩ = some (.int .i64 a0_4)) (ds := []) #[false, false, false, false, false, false, false, false, false, false, false, false, false, false, false, false, false] (by kernel_rfl) rfl rfl ⟨(blk_cell BK119.out 0).trans rfl, (blk_cell BK119.out 1).trans rfl, (blk_cell BK119.out 2).trans rfl, (blk_cell BK119.out 3).trans rfl, (blk_cell BK119.out 4).trans rfl⟩ (fun hHeld => ?_); refine with_tabW spec_StepText.tab3 spec_StepText.bits3 (fun HT_ HW_ => ?_)
         generalize w40.drew = w41 at BK119 HB hHeld ⊢
         refine pure_ (i := 0) (N := some 10) (v := ?_) (a' := ?_) #[true, false, false, false, false, false, false, false, false, false, false, false, false, false, false, false, false] rfl rfl (any_of HT_.out (by kernel_rfl)) (fun _ _ _ h => h) (Or.inl ⟨by rfl, ?_⟩) ?_ ?_
         rotate_left
         ·intro w'
          go_simp
          with_reducible rfl
         rotate_left
         ·simp only [Act.put, List.setIfInBounds_toArray, List.set_cons_zero, List.set_cons_succ, i64_w, i32_w]
          rfl
         refine pure_ (i := 3) (N := some 13) (v := ?_) (a' := ?_) #[true, false, false, true, false, false, false, false, false, false, false, false, false, false, false, false, false] rfl rfl (any_of HT_.out (by kernel_rfl)) (fun _ _ _ h => h) (Or.inl ⟨by rfl, ?_⟩) ?_ ?_
         rotate_left
         ·intro w'
          go_simp
          with_reducible rfl
         rotate_left
         ·simp only [Act.put, List.setIfInBounds_toArray, List.set_cons_zero, List.set_cons_succ, i64_w, i32_w]
          rfl
         refine pure_ (i := 6) (N := some 16) (v := ?_) (a' := ?_) #[true, false, false, true, false, false, true, false, false, false, false, false, false, false, false, false, false] rfl rfl (any_of HT_.out (by kernel_rfl)) (fun _ _ _ h => h) (Or.inl ⟨by rfl, ?_⟩) ?_ ?_
         rotate_left
         ·intro w'
          go_simp
          with_reducible rfl
         rotate_left
         ·simp only [Act.put, List.setIfInBounds_toArray, List.set_cons_zero, List.set_cons_succ, i64_w, i32_w]
          rfl
         refine pure_ (i := 9) (N := some 19) (v := ?_) (a' := ?_) #[true, false, false, true, false, false, true, false, false, true, false, false, false, false, false, false, false] rfl rfl (any_of HT_.out (by kernel_rfl)) (fun _ _ _ h => h) (Or.inl ⟨by rfl, ?_⟩) ?_ ?_
         rotate_left
         ·intro w'
          go_simp
          with_reducible rfl
         rotate_left
         ·simp only [Act.put, List.setIfInBounds_toArray, List.set_cons_zero, List.set_cons_succ, i64_w, i32_w]
          rfl
         refine take_ (i := 1) (N := some 11) (v := ?_) (a' := ?_) #[true, true, false, true, false, false, true, false, false, true, false, false, false, false, false, false, false] rfl rfl (take_ofW HT_.out HW_.out (by kernel_rfl)) (fun _ _ _ h => h) (Or.inl ⟨by rfl, ?_⟩) hHeld ?_ ?_
         rotate_left
         ·rintro w' ⟨s0, s1, s2, s3, s4⟩
          go_simp
          with_reducible rfl
         rotate_left
         ·simp only [Act.put, List.setIfInBounds_toArray, List.set_cons_zero, List.set_cons_succ, i64_w, i32_w]
          rfl
         refine take_ (i := 4) (N := some 14) (v := ?_) (a' := ?_) #[true, true, false, true, true, false, true, false, false, true, false, false, false, false, false, false, false] rfl rfl (take_ofW HT_.out HW_.out (by kernel_rfl)) (fun _ _ _ h => h) (Or.inl ⟨by rfl, ?_⟩) hHeld ?_ ?_
         rotate_left
         ·rintro w' ⟨s0, s1, s2, s3, s4⟩
          go_simp
          with_reducible rfl
         rotate_left
         ·simp only [Act.put, List.setIfInBounds_toArray, List.set_cons_zero, List.set_cons_succ, i64_w, i32_w]
          rfl
         refine take_ (i := 7) (N := some 17) (v := ?_) (a' := ?_) #[true, true, false, true, true, false, true, true, false, true, false, false, false, false, false, false, false] rfl rfl (take_ofW HT_.out HW_.out (by kernel_rfl)) (fun _ _ _ h => h) (Or.inl ⟨by rfl, ?_⟩) hHeld ?_ ?_
         rotate_left
         ·rintro w' ⟨s0, s1, s2, s3, s4⟩
          go_simp
          with_reducible rfl
         rotate_left
         ·simp only [Act.put, List.setIfInBounds_toArray, List.set_cons_zero, List.set_cons_succ, i64_w, i32_w]
          rfl
         refine take_ (i := 10) (N := some 20) (v := ?_) (a' := ?_) #[true, true, false, true, true, false, true, true, false, true, true, false, false, false, false, false, false] rfl rfl (take_ofW HT_.out HW_.out (by kernel_rfl)) (fun _ _ _ h => h) (Or.inl ⟨by rfl, ?_⟩) hHeld ?_ ?_
         rotate_left
         ·rintro w' ⟨s0, s1, s2, s3, s4⟩
          go_simp
          with_reducible rfl
         rotate_left
         ·simp only [Act.put, List.setIfInBounds_toArray, List.set_cons_zero, List.set_cons_succ, i64_w, i32_w]
          rfl
         refine one_ (i := 2) (N := some 12) #[true, true, true, true, true, false, true, true, false, true, true, false, false, false, false, false, false] rfl rfl (one_of HT_.out (by kernel_rfl)) (by decide) (fun K hK => ?_)
         refine goes_ Tryd.func77 (by kernel_rfl) rfl #[.int .i64 a0_1] (by rfl) rfl rfl (by (try simp only [List.map_toArray, List.map_cons, List.map_nil]); first | done | rfl | (simp only [List.length_drop, List.length_take]; rfl)) ?_
         with_reducible refine (spec_l16R.calls k a0_1 t121 _ A4.out).mono ?_
         rintro e w42 ⟨rfl, hb⟩
         refine ⟨_, rfl, ?_⟩
         have n0_ := Aside0.mk (blk_below (g := gb119) (o := .cells #[.int .i64 a0_0, .int .i64 a0_1, .int .i64 a0_2, .int .i64 a0_3, .int .i64 a0_4] 46 (0, 0)) (by (with_reducible repeat (first | refine blk_drewN ?_ _ | refine blk_drew ?_ | refine blk_alloc ?_ _)); exact BK119.out) hb)
         have n1_ := Aside0.mk (below_step (by repeat (first | (with_reducible first | exact HB.out | apply below_alloc | apply pw_below_drewN | apply below_drew1 | refine below_set ?_ GE119.out) | exact HB.out)) hb)
         clear BK119
         clear HB
         have BK119 := n0_
         have HB := n1_
         clear n0_ n1_
         (try clear hb)
         (try clear hb2)
         (try clear hk)
         (try clear hi)
         refine hK.out _ _ ⟨(blk_cell BK119.out 0).trans rfl, (blk_cell BK119.out 1).trans rfl, (blk_cell BK119.out 2).trans rfl, (blk_cell BK119.out 3).trans rfl, (blk_cell BK119.out 4).trans rfl⟩ (fun hHeld => ?_)
         clear hK K
         refine norm_ (a' := ?_) ?_ ?_
         rotate_left
         ·show Act.put _ (some 12) _ = _
          simp only [Act.put, List.setIfInBounds_toArray, List.set_cons_zero, List.set_cons_succ, i64_w, i32_w]
          rfl
         refine one_ (i := 5) (N := some 15) #[true, true, true, true, true, true, true, true, false, true, true, false, false, false, false, false, false] rfl rfl (one_of HT_.out (by kernel_rfl)) (by decide) (fun K hK => ?_)
         refine goes_ Tryd.func77 (by kernel_rfl) rfl #[.int .i64 a0_2] (by rfl) rfl rfl (by (try simp only [List.map_toArray, List.map_cons, List.map_nil]); first | done | rfl | (simp only [List.length_drop, List.length_take]; rfl)) ?_
         with_reducible refine (spec_l16R.calls k a0_2 t122 _ A5.out).mono ?_
         rintro e w43 ⟨rfl, hb⟩
         refine ⟨_, rfl, ?_⟩
         have n0_ := Aside0.mk (blk_below (g := gb119) (o := .cells #[.int .i64 a0_0, .int .i64 a0_1, .int .i64 a0_2, .int .i64 a0_3, .int .i64 a0_4] 46 (0, 0)) (by (with_reducible repeat (first | refine blk_drewN ?_ _ | refine blk_drew ?_ | refine blk_alloc ?_ _)); exact BK119.out) hb)
         have n1_ := Aside0.mk (below_step (by repeat (first | (with_reducible first | exact HB.out | apply below_alloc | apply pw_below_drewN | apply below_drew1 | refine below_set ?_ GE119.out) | exact HB.out)) hb)
         clear BK119
         clear HB
         have BK119 := n0_
         have HB := n1_
         clear n0_ n1_
         (try clear hb)
         (try clear hb2)
         (try clear hk)
         (try clear hi)
         refine hK.out _ _ ⟨(blk_cell BK119.out 0).trans rfl, (blk_cell BK119.out 1).trans rfl, (blk_cell BK119.out 2).trans rfl, (blk_cell BK119.out 3).trans rfl, (blk_cell BK119.out 4).trans rfl⟩ (fun hHeld => ?_)
         clear hK K
         refine norm_ (a' := ?_) ?_ ?_
         rotate_left
         ·show Act.put _ (some 15) _ = _
          simp only [Act.put, List.setIfInBounds_toArray, List.set_cons_zero, List.set_cons_succ, i64_w, i32_w]
          rfl
         refine one_ (i := 8) (N := some 18) #[true, true, true, true, true, true, true, true, true, true, true, false, false, false, false, false, false] rfl rfl (one_of HT_.out (by kernel_rfl)) (by decide) (fun K hK => ?_)
         refine goes_ Tryd.func77 (by kernel_rfl) rfl #[.int .i64 a0_3] (by rfl) rfl rfl (by (try simp only [List.map_toArray, List.map_cons, List.map_nil]); first | done | rfl | (simp only [List.length_drop, List.length_take]; rfl)) ?_
         with_reducible refine (spec_l16R.calls k a0_3 t123 _ A6.out).mono ?_
         rintro e w44 ⟨rfl, hb⟩
         refine ⟨_, rfl, ?_⟩
         have n0_ := Aside0.mk (blk_below (g := gb119) (o := .cells #[.int .i64 a0_0, .int .i64 a0_1, .int .i64 a0_2, .int .i64 a0_3, .int .i64 a0_4] 46 (0, 0)) (by (with_reducible repeat (first | refine blk_drewN ?_ _ | refine blk_drew ?_ | refine blk_alloc ?_ _)); exact BK119.out) hb)
         have n1_ := Aside0.mk (below_step (by repeat (first | (with_reducible first | exact HB.out | apply below_alloc | apply pw_below_drewN | apply below_drew1 | refine below_set ?_ GE119.out) | exact HB.out)) hb)
         clear BK119
         clear HB
         have BK119 := n0_
         have HB := n1_
         clear n0_ n1_
         (try clear hb)
         (try clear hb2)
         (try clear hk)
         (try clear hi)
         refine hK.out _ _ ⟨(blk_cell BK119.out 0).trans rfl, (blk_cell BK119.out 1).trans rfl, (blk_cell BK119.out 2).trans rfl, (blk_cell BK119.out 3).trans rfl, (blk_cell BK119.out 4).trans rfl⟩ (fun hHeld => ?_)
         clear hK K
         refine norm_ (a' := ?_) ?_ ?_
         rotate_left
         ·show Act.put _ (some 18) _ = _
          simp only [Act.put, List.setIfInBounds_toArray, List.set_cons_zero, List.set_cons_succ, i64_w, i32_w]
          rfl
         refine one_ (i := 11) (N := some 21) #[true, true, true, true, true, true, true, true, true, true, true, true, false, false, false, false, false] rfl rfl (one_of HT_.out (by kernel_rfl)) (by decide) (fun K hK => ?_)
         refine goes_ Tryd.func62 (by kernel_rfl) rfl #[.int .i64 a0_4] (by rfl) rfl rfl (by (try simp only [List.map_toArray, List.map_cons, List.map_nil]); first | done | rfl | (simp only [List.length_drop, List.length_take]; rfl)) ?_
         with_reducible refine (spec_l2Digits.calls k a0_4 t124 _ A7.out).mono ?_
         rintro e w45 ⟨rfl, hb⟩
         refine ⟨_, rfl, ?_⟩
         have n0_ := Aside0.mk (blk_below (g := gb119) (o := .cells #[.int .i64 a0_0, .int .i64 a0_1, .int .i64 a0_2, .int .i64 a0_3, .int .i64 a0_4] 46 (0, 0)) (by (with_reducible repeat (first | refine blk_drewN ?_ _ | refine blk_drew ?_ | refine blk_alloc ?_ _)); exact BK119.out) hb)
         have n1_ := Aside0.mk (below_step (by repeat (first | (with_reducible first | exact HB.out | apply below_alloc | apply pw_below_drewN | apply below_drew1 | refine below_set ?_ GE119.out) | exact HB.out)) hb)
         clear BK119
         clear HB
         have BK119 := n0_
         have HB := n1_
         clear n0_ n1_
         (try clear hb)
         (try clear hb2)
         (try clear hk)
         (try clear hi)
         refine hK.out _ _ ⟨(blk_cell BK119.out 0).trans rfl, (blk_cell BK119.out 1).trans rfl, (blk_cell BK119.out 2).trans rfl, (blk_cell BK119.out 3).trans rfl, (blk_cell BK119.out 4).trans rfl⟩ (fun hHeld => ?_)
         clear hK K
         refine norm_ (a' := ?_) ?_ ?_
         rotate_left
         ·show Act.put _ (some 21) _ = _
          simp only [Act.put, List.setIfInBounds_toArray, List.set_cons_zero, List.set_cons_succ, i64_w, i32_w]
          rfl
         refine pure_ (i := 12) (N := some 22) (v := ?_) (a' := ?_) #[true, true, true, true, true, true, true, true, true, true, true, true, true, false, false, false, false] rfl rfl (any_of HT_.out (by kernel_rfl)) (fun _ _ _ h => h) (Or.inl ⟨by rfl, ?_⟩) ?_ ?_
         rotate_left
         ·intro w'
          go_simp
          with_reducible rfl
         rotate_left
         ·simp only [Act.put, List.setIfInBounds_toArray, List.set_cons_zero, List.set_cons_succ, i64_w, i32_w]
          rfl
         refine pure_ (i := 13) (N := some 3) (v := ?_) (a' := ?_) #[true, true, true, true, true, true, true, true, true, true, true, true, true, true, false, false, false] rfl rfl (any_of HT_.out (by kernel_rfl)) (fun _ _ _ h => h) (Or.inl ⟨by rfl, ?_⟩) ?_ ?_
         rotate_left
         ·intro w'
          go_simp
          with_reducible rfl
         rotate_left
         ·simp only [Act.put, List.setIfInBounds_toArray, List.set_cons_zero, List.set_cons_succ, i64_w, i32_w]
          rfl
         refine pure_ (i := 14) (N := some 4) (v := ?_) (a' := ?_) #[true, true, true, true, true, true, true, true, true, true, true, true, true, true, true, false, false] rfl rfl (any_of HT_.out (by kernel_rfl)) (fun _ _ _ h => h) (Or.inl ⟨by rfl, ?_⟩) ?_ ?_
         rotate_left
         ·intro w'
          go_simp
          with_reducible rfl
         rotate_left
         ·simp only [Act.put, List.setIfInBounds_toArray, List.set_cons_zero, List.set_cons_succ, i64_w, i32_w]
          rfl
         refine pure_ (i := 15) (N := some 5) (v := ?_) (a' := ?_) #[true, true, true, true, true, true, true, true, true, true, true, true, true, true, true, true, false] rfl rfl (any_of HT_.out (by kernel_rfl)) (fun _ _ _ h => h) (Or.inl ⟨by rfl, ?_⟩) ?_ ?_
         rotate_left
         ·intro w'
          go_simp
          with_reducible rfl
         rotate_left
         ·simp only [Act.put, List.setIfInBounds_toArray, List.set_cons_zero, List.set_cons_succ, i64_w, i32_w]
          rfl
         refine pure_ (i := 16) (N := some 6) (v := ?_) (a' := ?_) #[true, true, true, true, true, true, true, true, true, true, true, true, true, true, true, true, true] rfl rfl (any_of HT_.out (by kernel_rfl)) (fun _ _ _ h => h) (Or.inl ⟨by rfl, ?_⟩) ?_ ?_
         rotate_left
         ·intro w'
          go_simp
          with_reducible rfl
         rotate_left
         ·simp only [Act.put, List.setIfInBounds_toArray, List.set_cons_zero, List.set_cons_succ, i64_w, i32_w]
          rfl
         refine done_ (done_of HT_.out (by kernel_rfl)) ?_
         have hcz46_0 : w45.cell? ⟨gb119, 0, none⟩ = some (.int .i64 a0_0) := (blk_cell BK119.out 0).trans rfl
         have hcz46_1 : w45.cell? ⟨gb119, 1, none⟩ = some (.int .i64 a0_1) := (blk_cell BK119.out 1).trans rfl
         have hcz46_2 : w45.cell? ⟨gb119, 2, none⟩ = some (.int .i64 a0_2) := (blk_cell BK119.out 2).trans rfl
         have hcz46_3 : w45.cell? ⟨gb119, 3, none⟩ = some (.int .i64 a0_3) := (blk_cell BK119.out 3).trans rfl
         have hcz46_4 : w45.cell? ⟨gb119, 4, none⟩ = some (.int .i64 a0_4) := (blk_cell BK119.out 4).trans rfl
         have hfz46_0 := blk_frozen BK119.out 0
         have hfz46_1 := blk_frozen BK119.out 1
         have hfz46_2 := blk_frozen BK119.out 2
         have hfz46_3 := blk_frozen BK119.out 3
         have hfz46_4 := blk_frozen BK119.out 4
         try go_wp2
         go_ret
         exact ⟨by first | rfl | (simp [errW_none, errW_some] <;> rfl) | (simp [*, errW_none, errW_some] <;> rfl), by repeat (first | (with_reducible first | exact HB.out | apply below_alloc | apply pw_below_drewN | apply below_drew1 | refine below_set ?_ GE119.out) | exact HB.out)⟩
        ·rw [if_neg c37] at H
         exact absurd H (by simp)
       ·rw [if_neg c36] at H
        exact absurd H (by simp)
      ·rw [if_neg c35] at H
       exact absurd H (by simp)
     ·rw [if_neg c34] at H
      have c34b0 : (a0_0 == 3) = false := beq_eq_false_iff_ne.mpr c34
      have c34b1 : (a0_0 != 3) = true := bne_iff_ne.mpr c34
      by_cases c47 : a0_0 = 4
      ·rw [if_pos c47] at H
       have c47b0 : (a0_0 == 4) = true := beq_iff_eq.mpr c47
       have c47b1 : (a0_0 != 4) = false := bne_eq_false_iff_eq.mpr c47
       clear c47
       by_cases c48 : 4 + t121.size ≤ 9223372036854775807
       ·rw [if_pos c48] at H
        have c48b0 := eq_true c48
        have c48b1 : decide (4 + t121.size ≤ 9223372036854775807) = true := decide_eq_true c48
        try have c48b2 : (9223372036854775807 < 4 + t121.size) = False := eq_false (Nat.not_lt.2 c48)
        by_cases c49 : ((⟨#[108, 101, 115, 115]⟩ : ByteArray) ++ t121).size + t122.size ≤ 9223372036854775807
        ·rw [if_pos c49] at H
         have c49b0 := eq_true c49
         have c49b1 : decide (((⟨#[108, 101, 115, 115]⟩ : ByteArray) ++ t121).size + t122.size ≤ 9223372036854775807) = true := decide_eq_true c49
         (try (have c49n := c49; simp only [ByteArray.size_append, Tab.sz_mk, List.size_toArray, List.length_cons, List.length_nil, Nat.zero_add, Nat.reduceAdd] at c49n; have c49b4 := eq_true c49n; have c49b5 := eq_false (Nat.not_lt.2 c49n)))
         try have c49b2 : (9223372036854775807 < ((⟨#[108, 101, 115, 115]⟩ : ByteArray) ++ t121).size + t122.size) = False := eq_false (Nat.not_lt.2 c49)
         by_cases c50 : (((⟨#[108, 101, 115, 115]⟩ : ByteArray) ++ t121) ++ t122).size + t123.size ≤ 9223372036854775807
         ·rw [if_pos c50] at H
          have c50b0 := eq_true c50
          have c50b1 : decide ((((⟨#[108, 101, 115, 115]⟩ : ByteArray) ++ t121) ++ t122).size + t123.size ≤ 9223372036854775807) = true := decide_eq_true c50
          (try (have c50n := c50; simp only [ByteArray.size_append, Tab.sz_mk, List.size_toArray, List.length_cons, List.length_nil, Nat.zero_add, Nat.reduceAdd] at c50n; have c50b4 := eq_true c50n; have c50b5 := eq_false (Nat.not_lt.2 c50n)))
          try have c50b2 : (9223372036854775807 < (((⟨#[108, 101, 115, 115]⟩ : ByteArray) ++ t121) ++ t122).size + t123.size) = False := eq_false (Nat.not_lt.2 c50)
          obtain rfl := Option.some.inj H
          go_enter Tryd.func27, Tryd.ntmps27
          try go_wp2_with (first | ((with_reducible refine gate_dst (N := 1) rfl ?_); refine box_event ?hg (N := 1) ?hd (cs := #[.int .i64 a0_0, .int .i64 a0_1, .int .i64 a0_2, .int .i64 a0_3, .int .i64 a0_4]) (t := 46) ?hr ?_; (case hd => rfl); (case hg => rfl); (case hr => first | (go_simp; done) | (go_simp; rfl)); intro gb119 hg w51 hbox hb; have n0_ := Aside0.mk (below_step (by repeat (first | (with_reducible first | exact HB.out | apply below_alloc | apply pw_below_drewN | apply below_drew1) | exact HB.out)) hb); have n1_ := Aside0.mk (hbox); have n2_ := Aside0.mk ((by rw [hg]; exact (below_size (by repeat (first | (with_reducible first | exact HB.out | apply below_alloc | apply pw_below_drewN | apply below_drew1) | exact HB.out))) : w.heap.size ≤ gb119)); have n3_ := Aside0.mk ((by rw [hg]; exact (below_size (by repeat (first | (with_reducible first | exact HB.out | apply below_alloc | apply pw_below_drewN | apply below_drew1) | exact HB.out))) : w.heap.size ≤ gb119)); clear HB; have HB := n0_; have BK119 := n1_; have GW119 := n2_; have GE119 := n3_; clear n0_ n1_ n2_ n3_; clear hb hbox hg; have hcz52_0 : w51.cell? ⟨gb119, 0, none⟩ = some (.int .i64 a0_0) := (blk_cell BK119.out 0).trans rfl; have hcz52_1 : w51.cell? ⟨gb119, 1, none⟩ = some (.int .i64 a0_1) := (blk_cell BK119.out 1).trans rfl; have hcz52_2 : w51.cell? ⟨gb119, 2, none⟩ = some (.int .i64 a0_2) := (blk_cell BK119.out 2).trans rfl; have hcz52_3 : w51.cell? ⟨gb119, 3, none⟩ = some (.int .i64 a0_3) := (blk_cell BK119.out 3).trans rfl; have hcz52_4 : w51.cell? ⟨gb119, 4, none⟩ = some (.int .i64 a0_4) := (blk_cell BK119.out 4).trans rfl; have hfz52_0 := blk_frozen BK119.out 0; have hfz52_1 := blk_frozen BK119.out 1; have hfz52_2 := blk_frozen BK119.out 2; have hfz52_3 := blk_frozen BK119.out 3; have hfz52_4 := blk_frozen BK119.out 4) | ((with_reducible refine gate_callee (f := 76) rfl ?_); refine goesL_ (some 8) rfl rfl Tryd.func76 (by kernel_rfl) rfl #[.agg #[.int .i64 a0_0, .int .i64 a0_1, .int .i64 a0_2, .int .i64 a0_3, .int .i64 a0_4], .int .i64 800] rfl (by (try simp only [List.map_toArray, List.map_cons, List.map_nil]); first | done | rfl | (simp only [List.length_drop, List.length_take]; rfl)) ?_; (with_reducible refine (spec_StepOk.calls k a0_0 a0_1 a0_2 a0_3 a0_4 800 true _ A2.out).mono ?_); rintro e w53 ⟨rfl, hb⟩; refine ⟨_, rfl, ?_⟩; have n0_ := Aside0.mk (blk_below (g := gb119) (o := .cells #[.int .i64 a0_0, .int .i64 a0_1, .int .i64 a0_2, .int .i64 a0_3, .int .i64 a0_4] 46 (0, 0)) (by (with_reducible repeat (first | refine blk_drewN ?_ _ | refine blk_drew ?_ | refine blk_alloc ?_ _)); exact BK119.out) hb); have n1_ := Aside0.mk (below_step (by repeat (first | (with_reducible first | exact HB.out | apply below_alloc | apply pw_below_drewN | apply below_drew1 | refine below_set ?_ GE119.out) | exact HB.out)) hb); clear BK119; clear HB; have BK119 := n0_; have HB := n1_; clear n0_ n1_; (try clear hb); (try clear hb2); (try clear hk); (try clear hi)))
          (all_goals try (exfalso; have e1_ : (⟨#[32]⟩ : ByteArray).size = 1 := rfl; have e2_ : (⟨#[10]⟩ : ByteArray).size = 1 := rfl; simp only [ByteArray.size_append] at c49; omega))
          (all_goals try (exfalso; have e1_ : (⟨#[32]⟩ : ByteArray).size = 1 := rfl; have e2_ : (⟨#[10]⟩ : ByteArray).size = 1 := rfl; simp only [ByteArray.size_append] at c50; omega))
          have n0_ := Aside0.mk (blk_drew BK119.out)
          have n1_ := Aside0.mk (below_drew1 HB.out)
          clear BK119
          clear HB
          have BK119 := n0_
          have HB := n1_
          clear n0_ n1_
          refine start_ (n := 17) (S := fun w' => w'.cell? ⟨gb119, 0, none⟩ = some (.int .i64 a0_0) ∧ w'.cell? ⟨gb119, 1, none⟩ = some (.int .i64 a0_1) ∧ w'.cell? ⟨gb119, 2, none⟩ = some (.int .i64 a0_2) ∧ w'.cell? ⟨gb119, 3, none⟩ = some (.int .i64 a0_3) ∧ w'.cell? ⟨gb119, 4, none⟩ = some (.int .i64 a0_4)) (ds := []) #[false, false, false, false, false, false, false, false, false, false, false, false, false, false, false, false, false] (by kernel_rfl) rfl rfl ⟨(blk_cell BK119.out 0).trans rfl, (blk_cell BK119.out 1).trans rfl, (blk_cell BK119.out 2).trans rfl, (blk_cell BK119.out 3).trans rfl, (blk_cell BK119.out 4).trans rfl⟩ (fun hHeld => ?_); refine with_tabW spec_StepText.tab3 spec_StepText.bits3 (fun HT_ HW_ => ?_)
          generalize w53.drew = w54 at BK119 HB hHeld ⊢
          refine pure_ (i := 0) (N := some 10) (v := ?_) (a' := ?_) #[true, false, false, false, false, false, false, false, false, false, false, false, false, false, false, false, false] rfl rfl (any_of HT_.out (by kernel_rfl)) (fun _ _ _ h => h) (Or.inl ⟨by rfl, ?_⟩) ?_ ?_
          rotate_left
          ·intro w'
           go_simp
           with_reducible rfl
          rotate_left
          ·simp only [Act.put, List.setIfInBounds_toArray, List.set_cons_zero, List.set_cons_succ, i64_w, i32_w]
           rfl
          refine pure_ (i := 3) (N := some 13) (v := ?_) (a' := ?_) #[true, false, false, true, false, false, false, false, false, false, false, false, false, false, false, false, false] rfl rfl (any_of HT_.out (by kernel_rfl)) (fun _ _ _ h => h) (Or.inl ⟨by rfl, ?_⟩) ?_ ?_
          rotate_left
          ·intro w'
           go_simp
           with_reducible rfl
          rotate_left
          ·simp only [Act.put, List.setIfInBounds_toArray, List.set_cons_zero, List.set_cons_succ, i64_w, i32_w]
           rfl
          refine pure_ (i := 6) (N := some 16) (v := ?_) (a' := ?_) #[true, false, false, true, false, false, true, false, false, false, false, false, false, false, false, false, false] rfl rfl (any_of HT_.out (by kernel_rfl)) (fun _ _ _ h => h) (Or.inl ⟨by rfl, ?_⟩) ?_ ?_
          rotate_left
          ·intro w'
           go_simp
           with_reducible rfl
          rotate_left
          ·simp only [Act.put, List.setIfInBounds_toArray, List.set_cons_zero, List.set_cons_succ, i64_w, i32_w]
           rfl
          refine pure_ (i := 9) (N := some 19) (v := ?_) (a' := ?_) #[true, false, false, true, false, false, true, false, false, true, false, false, false, false, false, false, false] rfl rfl (any_of HT_.out (by kernel_rfl)) (fun _ _ _ h => h) (Or.inl ⟨by rfl, ?_⟩) ?_ ?_
          rotate_left
          ·intro w'
           go_simp
           with_reducible rfl
          rotate_left
          ·simp only [Act.put, List.setIfInBounds_toArray, List.set_cons_zero, List.set_cons_succ, i64_w, i32_w]
           rfl
          refine take_ (i := 1) (N := some 11) (v := ?_) (a' := ?_) #[true, true, false, true, false, false, true, false, false, true, false, false, false, false, false, false, false] rfl rfl (take_ofW HT_.out HW_.out (by kernel_rfl)) (fun _ _ _ h => h) (Or.inl ⟨by rfl, ?_⟩) hHeld ?_ ?_
          rotate_left
          ·rintro w' ⟨s0, s1, s2, s3, s4⟩
           go_simp
           with_reducible rfl
          rotate_left
          ·simp only [Act.put, List.setIfInBounds_toArray, List.set_cons_zero, List.set_cons_succ, i64_w, i32_w]
           rfl
          refine take_ (i := 4) (N := some 14) (v := ?_) (a' := ?_) #[true, true, false, true, true, false, true, false, false, true, false, false, false, false, false, false, false] rfl rfl (take_ofW HT_.out HW_.out (by kernel_rfl)) (fun _ _ _ h => h) (Or.inl ⟨by rfl, ?_⟩) hHeld ?_ ?_
          rotate_left
          ·rintro w' ⟨s0, s1, s2, s3, s4⟩
           go_simp
           with_reducible rfl
          rotate_left
          ·simp only [Act.put, List.setIfInBounds_toArray, List.set_cons_zero, List.set_cons_succ, i64_w, i32_w]
           rfl
          refine take_ (i := 7) (N := some 17) (v := ?_) (a' := ?_) #[true, true, false, true, true, false, true, true, false, true, false, false, false, false, false, false, false] rfl rfl (take_ofW HT_.out HW_.out (by kernel_rfl)) (fun _ _ _ h => h) (Or.inl ⟨by rfl, ?_⟩) hHeld ?_ ?_
          rotate_left
          ·rintro w' ⟨s0, s1, s2, s3, s4⟩
           go_simp
           with_reducible rfl
          rotate_left
          ·simp only [Act.put, List.setIfInBounds_toArray, List.set_cons_zero, List.set_cons_succ, i64_w, i32_w]
           rfl
          refine take_ (i := 10) (N := some 20) (v := ?_) (a' := ?_) #[true, true, false, true, true, false, true, true, false, true, true, false, false, false, false, false, false] rfl rfl (take_ofW HT_.out HW_.out (by kernel_rfl)) (fun _ _ _ h => h) (Or.inl ⟨by rfl, ?_⟩) hHeld ?_ ?_
          rotate_left
          ·rintro w' ⟨s0, s1, s2, s3, s4⟩
           go_simp
           with_reducible rfl
          rotate_left
          ·simp only [Act.put, List.setIfInBounds_toArray, List.set_cons_zero, List.set_cons_succ, i64_w, i32_w]
           rfl
          refine one_ (i := 2) (N := some 12) #[true, true, true, true, true, false, true, true, false, true, true, false, false, false, false, false, false] rfl rfl (one_of HT_.out (by kernel_rfl)) (by decide) (fun K hK => ?_)
          refine goes_ Tryd.func77 (by kernel_rfl) rfl #[.int .i64 a0_1] (by rfl) rfl rfl (by (try simp only [List.map_toArray, List.map_cons, List.map_nil]); first | done | rfl | (simp only [List.length_drop, List.length_take]; rfl)) ?_
          with_reducible refine (spec_l16R.calls k a0_1 t121 _ A4.out).mono ?_
          rintro e w55 ⟨rfl, hb⟩
          refine ⟨_, rfl, ?_⟩
          have n0_ := Aside0.mk (blk_below (g := gb119) (o := .cells #[.int .i64 a0_0, .int .i64 a0_1, .int .i64 a0_2, .int .i64 a0_3, .int .i64 a0_4] 46 (0, 0)) (by (with_reducible repeat (first | refine blk_drewN ?_ _ | refine blk_drew ?_ | refine blk_alloc ?_ _)); exact BK119.out) hb)
          have n1_ := Aside0.mk (below_step (by repeat (first | (with_reducible first | exact HB.out | apply below_alloc | apply pw_below_drewN | apply below_drew1 | refine below_set ?_ GE119.out) | exact HB.out)) hb)
          clear BK119
          clear HB
          have BK119 := n0_
          have HB := n1_
          clear n0_ n1_
          (try clear hb)
          (try clear hb2)
          (try clear hk)
          (try clear hi)
          refine hK.out _ _ ⟨(blk_cell BK119.out 0).trans rfl, (blk_cell BK119.out 1).trans rfl, (blk_cell BK119.out 2).trans rfl, (blk_cell BK119.out 3).trans rfl, (blk_cell BK119.out 4).trans rfl⟩ (fun hHeld => ?_)
          clear hK K
          refine norm_ (a' := ?_) ?_ ?_
          rotate_left
          ·show Act.put _ (some 12) _ = _
           simp only [Act.put, List.setIfInBounds_toArray, List.set_cons_zero, List.set_cons_succ, i64_w, i32_w]
           rfl
          refine one_ (i := 5) (N := some 15) #[true, true, true, true, true, true, true, true, false, true, true, false, false, false, false, false, false] rfl rfl (one_of HT_.out (by kernel_rfl)) (by decide) (fun K hK => ?_)
          refine goes_ Tryd.func77 (by kernel_rfl) rfl #[.int .i64 a0_2] (by rfl) rfl rfl (by (try simp only [List.map_toArray, List.map_cons, List.map_nil]); first | done | rfl | (simp only [List.length_drop, List.length_take]; rfl)) ?_
          with_reducible refine (spec_l16R.calls k a0_2 t122 _ A5.out).mono ?_
          rintro e w56 ⟨rfl, hb⟩
          refine ⟨_, rfl, ?_⟩
          have n0_ := Aside0.mk (blk_below (g := gb119) (o := .cells #[.int .i64 a0_0, .int .i64 a0_1, .int .i64 a0_2, .int .i64 a0_3, .int .i64 a0_4] 46 (0, 0)) (by (with_reducible repeat (first | refine blk_drewN ?_ _ | refine blk_drew ?_ | refine blk_alloc ?_ _)); exact BK119.out) hb)
          have n1_ := Aside0.mk (below_step (by repeat (first | (with_reducible first | exact HB.out | apply below_alloc | apply pw_below_drewN | apply below_drew1 | refine below_set ?_ GE119.out) | exact HB.out)) hb)
          clear BK119
          clear HB
          have BK119 := n0_
          have HB := n1_
          clear n0_ n1_
          (try clear hb)
          (try clear hb2)
          (try clear hk)
          (try clear hi)
          refine hK.out _ _ ⟨(blk_cell BK119.out 0).trans rfl, (blk_cell BK119.out 1).trans rfl, (blk_cell BK119.out 2).trans rfl, (blk_cell BK119.out 3).trans rfl, (blk_cell BK119.out 4).trans rfl⟩ (fun hHeld => ?_)
          clear hK K
          refine norm_ (a' := ?_) ?_ ?_
          rotate_left
          ·show Act.put _ (some 15) _ = _
           simp only [Act.put, List.setIfInBounds_toArray, List.set_cons_zero, List.set_cons_succ, i64_w, i32_w]
           rfl
          refine one_ (i := 8) (N := some 18) #[true, true, true, true, true, true, true, true, true, true, true, false, false, false, false, false, false] rfl rfl (one_of HT_.out (by kernel_rfl)) (by decide) (fun K hK => ?_)
          refine goes_ Tryd.func77 (by kernel_rfl) rfl #[.int .i64 a0_3] (by rfl) rfl rfl (by (try simp only [List.map_toArray, List.map_cons, List.map_nil]); first | done | rfl | (simp only [List.length_drop, List.length_take]; rfl)) ?_
          with_reducible refine (spec_l16R.calls k a0_3 t123 _ A6.out).mono ?_
          rintro e w57 ⟨rfl, hb⟩
          refine ⟨_, rfl, ?_⟩
          have n0_ := Aside0.mk (blk_below (g := gb119) (o := .cells #[.int .i64 a0_0, .int .i64 a0_1, .int .i64 a0_2, .int .i64 a0_3, .int .i64 a0_4] 46 (0, 0)) (by (with_reducible repeat (first | refine blk_drewN ?_ _ | refine blk_drew ?_ | refine blk_alloc ?_ _)); exact BK119.out) hb)
          have n1_ := Aside0.mk (below_step (by repeat (first | (with_reducible first | exact HB.out | apply below_alloc | apply pw_below_drewN | apply below_drew1 | refine below_set ?_ GE119.out) | exact HB.out)) hb)
          clear BK119
          clear HB
          have BK119 := n0_
          have HB := n1_
          clear n0_ n1_
          (try clear hb)
          (try clear hb2)
          (try clear hk)
          (try clear hi)
          refine hK.out _ _ ⟨(blk_cell BK119.out 0).trans rfl, (blk_cell BK119.out 1).trans rfl, (blk_cell BK119.out 2).trans rfl, (blk_cell BK119.out 3).trans rfl, (blk_cell BK119.out 4).trans rfl⟩ (fun hHeld => ?_)
          clear hK K
          refine norm_ (a' := ?_) ?_ ?_
          rotate_left
          ·show Act.put _ (some 18) _ = _
           simp only [Act.put, List.setIfInBounds_toArray, List.set_cons_zero, List.set_cons_succ, i64_w, i32_w]
           rfl
          refine one_ (i := 11) (N := some 21) #[true, true, true, true, true, true, true, true, true, true, true, true, false, false, false, false, false] rfl rfl (one_of HT_.out (by kernel_rfl)) (by decide) (fun K hK => ?_)
          refine goes_ Tryd.func62 (by kernel_rfl) rfl #[.int .i64 a0_4] (by rfl) rfl rfl (by (try simp only [List.map_toArray, List.map_cons, List.map_nil]); first | done | rfl | (simp only [List.length_drop, List.length_take]; rfl)) ?_
          with_reducible refine (spec_l2Digits.calls k a0_4 t124 _ A7.out).mono ?_
          rintro e w58 ⟨rfl, hb⟩
          refine ⟨_, rfl, ?_⟩
          have n0_ := Aside0.mk (blk_below (g := gb119) (o := .cells #[.int .i64 a0_0, .int .i64 a0_1, .int .i64 a0_2, .int .i64 a0_3, .int .i64 a0_4] 46 (0, 0)) (by (with_reducible repeat (first | refine blk_drewN ?_ _ | refine blk_drew ?_ | refine blk_alloc ?_ _)); exact BK119.out) hb)
          have n1_ := Aside0.mk (below_step (by repeat (first | (with_reducible first | exact HB.out | apply below_alloc | apply pw_below_drewN | apply below_drew1 | refine below_set ?_ GE119.out) | exact HB.out)) hb)
          clear BK119
          clear HB
          have BK119 := n0_
          have HB := n1_
          clear n0_ n1_
          (try clear hb)
          (try clear hb2)
          (try clear hk)
          (try clear hi)
          refine hK.out _ _ ⟨(blk_cell BK119.out 0).trans rfl, (blk_cell BK119.out 1).trans rfl, (blk_cell BK119.out 2).trans rfl, (blk_cell BK119.out 3).trans rfl, (blk_cell BK119.out 4).trans rfl⟩ (fun hHeld => ?_)
          clear hK K
          refine norm_ (a' := ?_) ?_ ?_
          rotate_left
          ·show Act.put _ (some 21) _ = _
           simp only [Act.put, List.setIfInBounds_toArray, List.set_cons_zero, List.set_cons_succ, i64_w, i32_w]
           rfl
          refine pure_ (i := 12) (N := some 22) (v := ?_) (a' := ?_) #[true, true, true, true, true, true, true, true, true, true, true, true, true, false, false, false, false] rfl rfl (any_of HT_.out (by kernel_rfl)) (fun _ _ _ h => h) (Or.inl ⟨by rfl, ?_⟩) ?_ ?_
          rotate_left
          ·intro w'
           go_simp
           with_reducible rfl
          rotate_left
          ·simp only [Act.put, List.setIfInBounds_toArray, List.set_cons_zero, List.set_cons_succ, i64_w, i32_w]
           rfl
          refine pure_ (i := 13) (N := some 3) (v := ?_) (a' := ?_) #[true, true, true, true, true, true, true, true, true, true, true, true, true, true, false, false, false] rfl rfl (any_of HT_.out (by kernel_rfl)) (fun _ _ _ h => h) (Or.inl ⟨by rfl, ?_⟩) ?_ ?_
          rotate_left
          ·intro w'
           go_simp
           with_reducible rfl
          rotate_left
          ·simp only [Act.put, List.setIfInBounds_toArray, List.set_cons_zero, List.set_cons_succ, i64_w, i32_w]
           rfl
          refine pure_ (i := 14) (N := some 4) (v := ?_) (a' := ?_) #[true, true, true, true, true, true, true, true, true, true, true, true, true, true, true, false, false] rfl rfl (any_of HT_.out (by kernel_rfl)) (fun _ _ _ h => h) (Or.inl ⟨by rfl, ?_⟩) ?_ ?_
          rotate_left
          ·intro w'
           go_simp
           with_reducible rfl
          rotate_left
          ·simp only [Act.put, List.setIfInBounds_toArray, List.set_cons_zero, List.set_cons_succ, i64_w, i32_w]
           rfl
          refine pure_ (i := 15) (N := some 5) (v := ?_) (a' := ?_) #[true, true, true, true, true, true, true, true, true, true, true, true, true, true, true, true, false] rfl rfl (any_of HT_.out (by kernel_rfl)) (fun _ _ _ h => h) (Or.inl ⟨by rfl, ?_⟩) ?_ ?_
          rotate_left
          ·intro w'
           go_simp
           with_reducible rfl
          rotate_left
          ·simp only [Act.put, List.setIfInBounds_toArray, List.set_cons_zero, List.set_cons_succ, i64_w, i32_w]
           rfl
          refine pure_ (i := 16) (N := some 6) (v := ?_) (a' := ?_) #[true, true, true, true, true, true, true, true, true, true, true, true, true, true, true, true, true] rfl rfl (any_of HT_.out (by kernel_rfl)) (fun _ _ _ h => h) (Or.inl ⟨by rfl, ?_⟩) ?_ ?_
          rotate_left
          ·intro w'
           go_simp
           with_reducible rfl
          rotate_left
          ·simp only [Act.put, List.setIfInBounds_toArray, List.set_cons_zero, List.set_cons_succ, i64_w, i32_w]
           rfl
          refine done_ (done_of HT_.out (by kernel_rfl)) ?_
          have hcz59_0 : w58.cell? ⟨gb119, 0, none⟩ = some (.int .i64 a0_0) := (blk_cell BK119.out 0).trans rfl
          have hcz59_1 : w58.cell? ⟨gb119, 1, none⟩ = some (.int .i64 a0_1) := (blk_cell BK119.out 1).trans rfl
          have hcz59_2 : w58.cell? ⟨gb119, 2, none⟩ = some (.int .i64 a0_2) := (blk_cell BK119.out 2).trans rfl
          have hcz59_3 : w58.cell? ⟨gb119, 3, none⟩ = some (.int .i64 a0_3) := (blk_cell BK119.out 3).trans rfl
          have hcz59_4 : w58.cell? ⟨gb119, 4, none⟩ = some (.int .i64 a0_4) := (blk_cell BK119.out 4).trans rfl
          have hfz59_0 := blk_frozen BK119.out 0
          have hfz59_1 := blk_frozen BK119.out 1
          have hfz59_2 := blk_frozen BK119.out 2
          have hfz59_3 := blk_frozen BK119.out 3
          have hfz59_4 := blk_frozen BK119.out 4
          try go_wp2
          go_ret
          exact ⟨by first | rfl | (simp [errW_none, errW_some] <;> rfl) | (simp [*, errW_none, errW_some] <;> rfl), by repeat (first | (with_reducible first | exact HB.out | apply below_alloc | apply pw_below_drewN | apply below_drew1 | refine below_set ?_ GE119.out) | exact HB.out)⟩
         ·rw [if_neg c50] at H
          exact absurd H (by simp)
        ·rw [if_neg c49] at H
         exact absurd H (by simp)
       ·rw [if_neg c48] at H
        exact absurd H (by simp)
      ·rw [if_neg c47] at H
       have c47b0 : (a0_0 == 4) = false := beq_eq_false_iff_ne.mpr c47
       have c47b1 : (a0_0 != 4) = true := bne_iff_ne.mpr c47
       by_cases c60 : a0_0 = 5
       ·rw [if_pos c60] at H
        have c60b0 : (a0_0 == 5) = true := beq_iff_eq.mpr c60
        have c60b1 : (a0_0 != 5) = false := bne_eq_false_iff_eq.mpr c60
        clear c60
        by_cases c61 : 4 + t121.size ≤ 9223372036854775807
        ·rw [if_pos c61] at H
         have c61b0 := eq_true c61
         have c61b1 : decide (4 + t121.size ≤ 9223372036854775807) = true := decide_eq_true c61
         try have c61b2 : (9223372036854775807 < 4 + t121.size) = False := eq_false (Nat.not_lt.2 c61)
         replace H := Option.bind_eq_some_iff.mp H
         obtain ⟨t125, A620, H⟩ := H
         replace H : (if ((⟨#[108, 111, 97, 100]⟩ : ByteArray) ++ t121).size + t125.size ≤ 9223372036854775807 then (some (((⟨#[108, 111, 97, 100]⟩ : ByteArray) ++ t121) ++ t125)) else (none)) = some r := H
         have A62 := Aside0.mk A620
         clear A620
         by_cases c63 : ((⟨#[108, 111, 97, 100]⟩ : ByteArray) ++ t121).size + t125.size ≤ 9223372036854775807
         ·rw [if_pos c63] at H
          have c63b0 := eq_true c63
          have c63b1 : decide (((⟨#[108, 111, 97, 100]⟩ : ByteArray) ++ t121).size + t125.size ≤ 9223372036854775807) = true := decide_eq_true c63
          (try (have c63n := c63; simp only [ByteArray.size_append, Tab.sz_mk, List.size_toArray, List.length_cons, List.length_nil, Nat.zero_add, Nat.reduceAdd] at c63n; have c63b4 := eq_true c63n; have c63b5 := eq_false (Nat.not_lt.2 c63n)))
          try have c63b2 : (9223372036854775807 < ((⟨#[108, 111, 97, 100]⟩ : ByteArray) ++ t121).size + t125.size) = False := eq_false (Nat.not_lt.2 c63)
          obtain rfl := Option.some.inj H
          go_enter Tryd.func27, Tryd.ntmps27
          try go_wp2_with (first | ((with_reducible refine gate_dst (N := 1) rfl ?_); refine box_event ?hg (N := 1) ?hd (cs := #[.int .i64 a0_0, .int .i64 a0_1, .int .i64 a0_2, .int .i64 a0_3, .int .i64 a0_4]) (t := 46) ?hr ?_; (case hd => rfl); (case hg => rfl); (case hr => first | (go_simp; done) | (go_simp; rfl)); intro gb119 hg w64 hbox hb; have n0_ := Aside0.mk (below_step (by repeat (first | (with_reducible first | exact HB.out | apply below_alloc | apply pw_below_drewN | apply below_drew1) | exact HB.out)) hb); have n1_ := Aside0.mk (hbox); have n2_ := Aside0.mk ((by rw [hg]; exact (below_size (by repeat (first | (with_reducible first | exact HB.out | apply below_alloc | apply pw_below_drewN | apply below_drew1) | exact HB.out))) : w.heap.size ≤ gb119)); have n3_ := Aside0.mk ((by rw [hg]; exact (below_size (by repeat (first | (with_reducible first | exact HB.out | apply below_alloc | apply pw_below_drewN | apply below_drew1) | exact HB.out))) : w.heap.size ≤ gb119)); clear HB; have HB := n0_; have BK119 := n1_; have GW119 := n2_; have GE119 := n3_; clear n0_ n1_ n2_ n3_; clear hb hbox hg; have hcz65_0 : w64.cell? ⟨gb119, 0, none⟩ = some (.int .i64 a0_0) := (blk_cell BK119.out 0).trans rfl; have hcz65_1 : w64.cell? ⟨gb119, 1, none⟩ = some (.int .i64 a0_1) := (blk_cell BK119.out 1).trans rfl; have hcz65_2 : w64.cell? ⟨gb119, 2, none⟩ = some (.int .i64 a0_2) := (blk_cell BK119.out 2).trans rfl; have hcz65_3 : w64.cell? ⟨gb119, 3, none⟩ = some (.int .i64 a0_3) := (blk_cell BK119.out 3).trans rfl; have hcz65_4 : w64.cell? ⟨gb119, 4, none⟩ = some (.int .i64 a0_4) := (blk_cell BK119.out 4).trans rfl; have hfz65_0 := blk_frozen BK119.out 0; have hfz65_1 := blk_frozen BK119.out 1; have hfz65_2 := blk_frozen BK119.out 2; have hfz65_3 := blk_frozen BK119.out 3; have hfz65_4 := blk_frozen BK119.out 4) | ((with_reducible refine gate_callee (f := 76) rfl ?_); refine goesL_ (some 8) rfl rfl Tryd.func76 (by kernel_rfl) rfl #[.agg #[.int .i64 a0_0, .int .i64 a0_1, .int .i64 a0_2, .int .i64 a0_3, .int .i64 a0_4], .int .i64 800] rfl (by (try simp only [List.map_toArray, List.map_cons, List.map_nil]); first | done | rfl | (simp only [List.length_drop, List.length_take]; rfl)) ?_; (with_reducible refine (spec_StepOk.calls k a0_0 a0_1 a0_2 a0_3 a0_4 800 true _ A2.out).mono ?_); rintro e w66 ⟨rfl, hb⟩; refine ⟨_, rfl, ?_⟩; have n0_ := Aside0.mk (blk_below (g := gb119) (o := .cells #[.int .i64 a0_0, .int .i64 a0_1, .int .i64 a0_2, .int .i64 a0_3, .int .i64 a0_4] 46 (0, 0)) (by (with_reducible repeat (first | refine blk_drewN ?_ _ | refine blk_drew ?_ | refine blk_alloc ?_ _)); exact BK119.out) hb); have n1_ := Aside0.mk (below_step (by repeat (first | (with_reducible first | exact HB.out | apply below_alloc | apply pw_below_drewN | apply below_drew1 | refine below_set ?_ GE119.out) | exact HB.out)) hb); clear BK119; clear HB; have BK119 := n0_; have HB := n1_; clear n0_ n1_; (try clear hb); (try clear hb2); (try clear hk); (try clear hi)))
          (all_goals try (exfalso; have e1_ : (⟨#[32]⟩ : ByteArray).size = 1 := rfl; have e2_ : (⟨#[10]⟩ : ByteArray).size = 1 := rfl; simp only [ByteArray.size_append] at c63; omega))
          have n0_ := Aside0.mk (blk_drew BK119.out)
          have n1_ := Aside0.mk (below_drew1 HB.out)
          clear BK119
          clear HB
          have BK119 := n0_
          have HB := n1_
          clear n0_ n1_
          refine start_ (n := 17) (S := fun w' => w'.cell? ⟨gb119, 0, none⟩ = some (.int .i64 a0_0) ∧ w'.cell? ⟨gb119, 1, none⟩ = some (.int .i64 a0_1) ∧ w'.cell? ⟨gb119, 2, none⟩ = some (.int .i64 a0_2) ∧ w'.cell? ⟨gb119, 3, none⟩ = some (.int .i64 a0_3) ∧ w'.cell? ⟨gb119, 4, none⟩ = some (.int .i64 a0_4)) (ds := []) #[false, false, false, false, false, false, false, false, false, false, false, false, false, false, false, false, false] (by kernel_rfl) rfl rfl ⟨(blk_cell BK119.out 0).trans rfl, (blk_cell BK119.out 1).trans rfl, (blk_cell BK119.out 2).trans rfl, (blk_cell BK119.out 3).trans rfl, (blk_cell BK119.out 4).trans rfl⟩ (fun hHeld => ?_); refine with_tabW spec_StepText.tab3 spec_StepText.bits3 (fun HT_ HW_ => ?_)
          generalize w66.drew = w67 at BK119 HB hHeld ⊢
          refine pure_ (i := 0) (N := some 10) (v := ?_) (a' := ?_) #[true, false, false, false, false, false, false, false, false, false, false, false, false, false, false, false, false] rfl rfl (any_of HT_.out (by kernel_rfl)) (fun _ _ _ h => h) (Or.inl ⟨by rfl, ?_⟩) ?_ ?_
          rotate_left
          ·intro w'
           go_simp
           with_reducible rfl
          rotate_left
          ·simp only [Act.put, List.setIfInBounds_toArray, List.set_cons_zero, List.set_cons_succ, i64_w, i32_w]
           rfl
          refine pure_ (i := 3) (N := some 13) (v := ?_) (a' := ?_) #[true, false, false, true, false, false, false, false, false, false, false, false, false, false, false, false, false] rfl rfl (any_of HT_.out (by kernel_rfl)) (fun _ _ _ h => h) (Or.inl ⟨by rfl, ?_⟩) ?_ ?_
          rotate_left
          ·intro w'
           go_simp
           with_reducible rfl
          rotate_left
          ·simp only [Act.put, List.setIfInBounds_toArray, List.set_cons_zero, List.set_cons_succ, i64_w, i32_w]
           rfl
          refine pure_ (i := 6) (N := some 16) (v := ?_) (a' := ?_) #[true, false, false, true, false, false, true, false, false, false, false, false, false, false, false, false, false] rfl rfl (any_of HT_.out (by kernel_rfl)) (fun _ _ _ h => h) (Or.inl ⟨by rfl, ?_⟩) ?_ ?_
          rotate_left
          ·intro w'
           go_simp
           with_reducible rfl
          rotate_left
          ·simp only [Act.put, List.setIfInBounds_toArray, List.set_cons_zero, List.set_cons_succ, i64_w, i32_w]
           rfl
          refine pure_ (i := 9) (N := some 19) (v := ?_) (a' := ?_) #[true, false, false, true, false, false, true, false, false, true, false, false, false, false, false, false, false] rfl rfl (any_of HT_.out (by kernel_rfl)) (fun _ _ _ h => h) (Or.inl ⟨by rfl, ?_⟩) ?_ ?_
          rotate_left
          ·intro w'
           go_simp
           with_reducible rfl
          rotate_left
          ·simp only [Act.put, List.setIfInBounds_toArray, List.set_cons_zero, List.set_cons_succ, i64_w, i32_w]
           rfl
          refine take_ (i := 1) (N := some 11) (v := ?_) (a' := ?_) #[true, true, false, true, false, false, true, false, false, true, false, false, false, false, false, false, false] rfl rfl (take_ofW HT_.out HW_.out (by kernel_rfl)) (fun _ _ _ h => h) (Or.inl ⟨by rfl, ?_⟩) hHeld ?_ ?_
          rotate_left
          ·rintro w' ⟨s0, s1, s2, s3, s4⟩
           go_simp
           with_reducible rfl
          rotate_left
          ·simp only [Act.put, List.setIfInBounds_toArray, List.set_cons_zero, List.set_cons_succ, i64_w, i32_w]
           rfl
          refine take_ (i := 4) (N := some 14) (v := ?_) (a' := ?_) #[true, true, false, true, true, false, true, false, false, true, false, false, false, false, false, false, false] rfl rfl (take_ofW HT_.out HW_.out (by kernel_rfl)) (fun _ _ _ h => h) (Or.inl ⟨by rfl, ?_⟩) hHeld ?_ ?_
          rotate_left
          ·rintro w' ⟨s0, s1, s2, s3, s4⟩
           go_simp
           with_reducible rfl
          rotate_left
          ·simp only [Act.put, List.setIfInBounds_toArray, List.set_cons_zero, List.set_cons_succ, i64_w, i32_w]
           rfl
          refine take_ (i := 7) (N := some 17) (v := ?_) (a' := ?_) #[true, true, false, true, true, false, true, true, false, true, false, false, false, false, false, false, false] rfl rfl (take_ofW HT_.out HW_.out (by kernel_rfl)) (fun _ _ _ h => h) (Or.inl ⟨by rfl, ?_⟩) hHeld ?_ ?_
          rotate_left
          ·rintro w' ⟨s0, s1, s2, s3, s4⟩
           go_simp
           with_reducible rfl
          rotate_left
          ·simp only [Act.put, List.setIfInBounds_toArray, List.set_cons_zero, List.set_cons_succ, i64_w, i32_w]
           rfl
          refine take_ (i := 10) (N := some 20) (v := ?_) (a' := ?_) #[true, true, false, true, true, false, true, true, false, true, true, false, false, false, false, false, false] rfl rfl (take_ofW HT_.out HW_.out (by kernel_rfl)) (fun _ _ _ h => h) (Or.inl ⟨by rfl, ?_⟩) hHeld ?_ ?_
          rotate_left
          ·rintro w' ⟨s0, s1, s2, s3, s4⟩
           go_simp
           with_reducible rfl
          rotate_left
          ·simp only [Act.put, List.setIfInBounds_toArray, List.set_cons_zero, List.set_cons_succ, i64_w, i32_w]
           rfl
          refine one_ (i := 2) (N := some 12) #[true, true, true, true, true, false, true, true, false, true, true, false, false, false, false, false, false] rfl rfl (one_of HT_.out (by kernel_rfl)) (by decide) (fun K hK => ?_)
          refine goes_ Tryd.func77 (by kernel_rfl) rfl #[.int .i64 a0_1] (by rfl) rfl rfl (by (try simp only [List.map_toArray, List.map_cons, List.map_nil]); first | done | rfl | (simp only [List.length_drop, List.length_take]; rfl)) ?_
          with_reducible refine (spec_l16R.calls k a0_1 t121 _ A4.out).mono ?_
          rintro e w68 ⟨rfl, hb⟩
          refine ⟨_, rfl, ?_⟩
          have n0_ := Aside0.mk (blk_below (g := gb119) (o := .cells #[.int .i64 a0_0, .int .i64 a0_1, .int .i64 a0_2, .int .i64 a0_3, .int .i64 a0_4] 46 (0, 0)) (by (with_reducible repeat (first | refine blk_drewN ?_ _ | refine blk_drew ?_ | refine blk_alloc ?_ _)); exact BK119.out) hb)
          have n1_ := Aside0.mk (below_step (by repeat (first | (with_reducible first | exact HB.out | apply below_alloc | apply pw_below_drewN | apply below_drew1 | refine below_set ?_ GE119.out) | exact HB.out)) hb)
          clear BK119
          clear HB
          have BK119 := n0_
          have HB := n1_
          clear n0_ n1_
          (try clear hb)
          (try clear hb2)
          (try clear hk)
          (try clear hi)
          refine hK.out _ _ ⟨(blk_cell BK119.out 0).trans rfl, (blk_cell BK119.out 1).trans rfl, (blk_cell BK119.out 2).trans rfl, (blk_cell BK119.out 3).trans rfl, (blk_cell BK119.out 4).trans rfl⟩ (fun hHeld => ?_)
          clear hK K
          refine norm_ (a' := ?_) ?_ ?_
          rotate_left
          ·show Act.put _ (some 12) _ = _
           simp only [Act.put, List.setIfInBounds_toArray, List.set_cons_zero, List.set_cons_succ, i64_w, i32_w]
           rfl
          refine one_ (i := 5) (N := some 15) #[true, true, true, true, true, true, true, true, false, true, true, false, false, false, false, false, false] rfl rfl (one_of HT_.out (by kernel_rfl)) (by decide) (fun K hK => ?_)
          refine goes_ Tryd.func77 (by kernel_rfl) rfl #[.int .i64 a0_2] (by rfl) rfl rfl (by (try simp only [List.map_toArray, List.map_cons, List.map_nil]); first | done | rfl | (simp only [List.length_drop, List.length_take]; rfl)) ?_
          with_reducible refine (spec_l16R.calls k a0_2 t122 _ A5.out).mono ?_
          rintro e w69 ⟨rfl, hb⟩
          refine ⟨_, rfl, ?_⟩
          have n0_ := Aside0.mk (blk_below (g := gb119) (o := .cells #[.int .i64 a0_0, .int .i64 a0_1, .int .i64 a0_2, .int .i64 a0_3, .int .i64 a0_4] 46 (0, 0)) (by (with_reducible repeat (first | refine blk_drewN ?_ _ | refine blk_drew ?_ | refine blk_alloc ?_ _)); exact BK119.out) hb)
          have n1_ := Aside0.mk (below_step (by repeat (first | (with_reducible first | exact HB.out | apply below_alloc | apply pw_below_drewN | apply below_drew1 | refine below_set ?_ GE119.out) | exact HB.out)) hb)
          clear BK119
          clear HB
          have BK119 := n0_
          have HB := n1_
          clear n0_ n1_
          (try clear hb)
          (try clear hb2)
          (try clear hk)
          (try clear hi)
          refine hK.out _ _ ⟨(blk_cell BK119.out 0).trans rfl, (blk_cell BK119.out 1).trans rfl, (blk_cell BK119.out 2).trans rfl, (blk_cell BK119.out 3).trans rfl, (blk_cell BK119.out 4).trans rfl⟩ (fun hHeld => ?_)
          clear hK K
          refine norm_ (a' := ?_) ?_ ?_
          rotate_left
          ·show Act.put _ (some 15) _ = _
           simp only [Act.put, List.setIfInBounds_toArray, List.set_cons_zero, List.set_cons_succ, i64_w, i32_w]
           rfl
          refine one_ (i := 8) (N := some 18) #[true, true, true, true, true, true, true, true, true, true, true, false, false, false, false, false, false] rfl rfl (one_of HT_.out (by kernel_rfl)) (by decide) (fun K hK => ?_)
          refine goes_ Tryd.func77 (by kernel_rfl) rfl #[.int .i64 a0_3] (by rfl) rfl rfl (by (try simp only [List.map_toArray, List.map_cons, List.map_nil]); first | done | rfl | (simp only [List.length_drop, List.length_take]; rfl)) ?_
          with_reducible refine (spec_l16R.calls k a0_3 t123 _ A6.out).mono ?_
          rintro e w70 ⟨rfl, hb⟩
          refine ⟨_, rfl, ?_⟩
          have n0_ := Aside0.mk (blk_below (g := gb119) (o := .cells #[.int .i64 a0_0, .int .i64 a0_1, .int .i64 a0_2, .int .i64 a0_3, .int .i64 a0_4] 46 (0, 0)) (by (with_reducible repeat (first | refine blk_drewN ?_ _ | refine blk_drew ?_ | refine blk_alloc ?_ _)); exact BK119.out) hb)
          have n1_ := Aside0.mk (below_step (by repeat (first | (with_reducible first | exact HB.out | apply below_alloc | apply pw_below_drewN | apply below_drew1 | refine below_set ?_ GE119.out) | exact HB.out)) hb)
          clear BK119
          clear HB
          have BK119 := n0_
          have HB := n1_
          clear n0_ n1_
          (try clear hb)
          (try clear hb2)
          (try clear hk)
          (try clear hi)
          refine hK.out _ _ ⟨(blk_cell BK119.out 0).trans rfl, (blk_cell BK119.out 1).trans rfl, (blk_cell BK119.out 2).trans rfl, (blk_cell BK119.out 3).trans rfl, (blk_cell BK119.out 4).trans rfl⟩ (fun hHeld => ?_)
          clear hK K
          refine norm_ (a' := ?_) ?_ ?_
          rotate_left
          ·show Act.put _ (some 18) _ = _
           simp only [Act.put, List.setIfInBounds_toArray, List.set_cons_zero, List.set_cons_succ, i64_w, i32_w]
           rfl
          refine one_ (i := 11) (N := some 21) #[true, true, true, true, true, true, true, true, true, true, true, true, false, false, false, false, false] rfl rfl (one_of HT_.out (by kernel_rfl)) (by decide) (fun K hK => ?_)
          refine goes_ Tryd.func62 (by kernel_rfl) rfl #[.int .i64 a0_4] (by rfl) rfl rfl (by (try simp only [List.map_toArray, List.map_cons, List.map_nil]); first | done | rfl | (simp only [List.length_drop, List.length_take]; rfl)) ?_
          with_reducible refine (spec_l2Digits.calls k a0_4 t124 _ A7.out).mono ?_
          rintro e w71 ⟨rfl, hb⟩
          refine ⟨_, rfl, ?_⟩
          have n0_ := Aside0.mk (blk_below (g := gb119) (o := .cells #[.int .i64 a0_0, .int .i64 a0_1, .int .i64 a0_2, .int .i64 a0_3, .int .i64 a0_4] 46 (0, 0)) (by (with_reducible repeat (first | refine blk_drewN ?_ _ | refine blk_drew ?_ | refine blk_alloc ?_ _)); exact BK119.out) hb)
          have n1_ := Aside0.mk (below_step (by repeat (first | (with_reducible first | exact HB.out | apply below_alloc | apply pw_below_drewN | apply below_drew1 | refine below_set ?_ GE119.out) | exact HB.out)) hb)
          clear BK119
          clear HB
          have BK119 := n0_
          have HB := n1_
          clear n0_ n1_
          (try clear hb)
          (try clear hb2)
          (try clear hk)
          (try clear hi)
          refine hK.out _ _ ⟨(blk_cell BK119.out 0).trans rfl, (blk_cell BK119.out 1).trans rfl, (blk_cell BK119.out 2).trans rfl, (blk_cell BK119.out 3).trans rfl, (blk_cell BK119.out 4).trans rfl⟩ (fun hHeld => ?_)
          clear hK K
          refine norm_ (a' := ?_) ?_ ?_
          rotate_left
          ·show Act.put _ (some 21) _ = _
           simp only [Act.put, List.setIfInBounds_toArray, List.set_cons_zero, List.set_cons_succ, i64_w, i32_w]
           rfl
          refine pure_ (i := 12) (N := some 22) (v := ?_) (a' := ?_) #[true, true, true, true, true, true, true, true, true, true, true, true, true, false, false, false, false] rfl rfl (any_of HT_.out (by kernel_rfl)) (fun _ _ _ h => h) (Or.inl ⟨by rfl, ?_⟩) ?_ ?_
          rotate_left
          ·intro w'
           go_simp
           with_reducible rfl
          rotate_left
          ·simp only [Act.put, List.setIfInBounds_toArray, List.set_cons_zero, List.set_cons_succ, i64_w, i32_w]
           rfl
          refine pure_ (i := 13) (N := some 3) (v := ?_) (a' := ?_) #[true, true, true, true, true, true, true, true, true, true, true, true, true, true, false, false, false] rfl rfl (any_of HT_.out (by kernel_rfl)) (fun _ _ _ h => h) (Or.inl ⟨by rfl, ?_⟩) ?_ ?_
          rotate_left
          ·intro w'
           go_simp
           with_reducible rfl
          rotate_left
          ·simp only [Act.put, List.setIfInBounds_toArray, List.set_cons_zero, List.set_cons_succ, i64_w, i32_w]
           rfl
          refine pure_ (i := 14) (N := some 4) (v := ?_) (a' := ?_) #[true, true, true, true, true, true, true, true, true, true, true, true, true, true, true, false, false] rfl rfl (any_of HT_.out (by kernel_rfl)) (fun _ _ _ h => h) (Or.inl ⟨by rfl, ?_⟩) ?_ ?_
          rotate_left
          ·intro w'
           go_simp
           with_reducible rfl
          rotate_left
          ·simp only [Act.put, List.setIfInBounds_toArray, List.set_cons_zero, List.set_cons_succ, i64_w, i32_w]
           rfl
          refine pure_ (i := 15) (N := some 5) (v := ?_) (a' := ?_) #[true, true, true, true, true, true, true, true, true, true, true, true, true, true, true, true, false] rfl rfl (any_of HT_.out (by kernel_rfl)) (fun _ _ _ h => h) (Or.inl ⟨by rfl, ?_⟩) ?_ ?_
          rotate_left
          ·intro w'
           go_simp
           with_reducible rfl
          rotate_left
          ·simp only [Act.put, List.setIfInBounds_toArray, List.set_cons_zero, List.set_cons_succ, i64_w, i32_w]
           rfl
          refine pure_ (i := 16) (N := some 6) (v := ?_) (a' := ?_) #[true, true, true, true, true, true, true, true, true, true, true, true, true, true, true, true, true] rfl rfl (any_of HT_.out (by kernel_rfl)) (fun _ _ _ h => h) (Or.inl ⟨by rfl, ?_⟩) ?_ ?_
          rotate_left
          ·intro w'
           go_simp
           with_reducible rfl
          rotate_left
          ·simp only [Act.put, List.setIfInBounds_toArray, List.set_cons_zero, List.set_cons_succ, i64_w, i32_w]
           rfl
          refine done_ (done_of HT_.out (by kernel_rfl)) ?_
          have hcz72_0 : w71.cell? ⟨gb119, 0, none⟩ = some (.int .i64 a0_0) := (blk_cell BK119.out 0).trans rfl
          have hcz72_1 : w71.cell? ⟨gb119, 1, none⟩ = some (.int .i64 a0_1) := (blk_cell BK119.out 1).trans rfl
          have hcz72_2 : w71.cell? ⟨gb119, 2, none⟩ = some (.int .i64 a0_2) := (blk_cell BK119.out 2).trans rfl
          have hcz72_3 : w71.cell? ⟨gb119, 3, none⟩ = some (.int .i64 a0_3) := (blk_cell BK119.out 3).trans rfl
          have hcz72_4 : w71.cell? ⟨gb119, 4, none⟩ = some (.int .i64 a0_4) := (blk_cell BK119.out 4).trans rfl
          have hfz72_0 := blk_frozen BK119.out 0
          have hfz72_1 := blk_frozen BK119.out 1
          have hfz72_2 := blk_frozen BK119.out 2
          have hfz72_3 := blk_frozen BK119.out 3
          have hfz72_4 := blk_frozen BK119.out 4
          try go_wp2_with (first | ((with_reducible refine gate_callee (f := 78) rfl ?_); refine goesL_ (some 60) rfl rfl Tryd.func78 (by kernel_rfl) rfl #[.agg #[.int .i64 a0_0, .int .i64 a0_1, .int .i64 a0_2, .int .i64 a0_3, .int .i64 a0_4]] rfl (by (try simp only [List.map_toArray, List.map_cons, List.map_nil]); first | done | rfl | (simp only [List.length_drop, List.length_take]; rfl)) ?_; (with_reducible refine (spec_l16Cell.calls k a0_0 a0_1 a0_2 a0_3 a0_4 t125 _ A62.out).mono ?_); rintro e w73 ⟨rfl, hb⟩; refine ⟨_, rfl, ?_⟩; have n0_ := Aside0.mk (blk_below (g := gb119) (o := .cells #[.int .i64 a0_0, .int .i64 a0_1, .int .i64 a0_2, .int .i64 a0_3, .int .i64 a0_4] 46 (0, 0)) (by (with_reducible repeat (first | refine blk_drewN ?_ _ | refine blk_drew ?_ | refine blk_alloc ?_ _)); exact BK119.out) hb); have n1_ := Aside0.mk (below_step (by repeat (first | (with_reducible first | exact HB.out | apply below_alloc | apply pw_below_drewN | apply below_drew1 | refine below_set ?_ GE119.out) | exact HB.out)) hb); clear BK119; clear HB; have BK119 := n0_; have HB := n1_; clear n0_ n1_; (try clear hb); (try clear hb2); (try clear hk); (try clear hi)))
          (all_goals try (exfalso; have e1_ : (⟨#[32]⟩ : ByteArray).size = 1 := rfl; have e2_ : (⟨#[10]⟩ : ByteArray).size = 1 := rfl; simp only [ByteArray.size_append] at c63; omega))
          go_ret
          exact ⟨by first | rfl | (simp [errW_none, errW_some] <;> rfl) | (simp [*, errW_none, errW_some] <;> rfl), by repeat (first | (with_reducible first | exact HB.out | apply below_alloc | apply pw_below_drewN | apply below_drew1 | refine below_set ?_ GE119.out) | exact HB.out)⟩
         ·rw [if_neg c63] at H
          exact absurd H (by simp)
        ·rw [if_neg c61] at H
         exact absurd H (by simp)
       ·exfalso; omega
  ·rw [if_neg c8] at H
   exact absurd H (by simp)
 ·replace c3 := Bool.eq_false_iff.mpr c3
  subst c3
  have H1 : (some (⟨#[]⟩ : ByteArray)) = some r := by rw [if_neg (show ¬ (false = true) by decide)] at H; exact H
  clear H
  have H := H1
  clear H1
  obtain rfl := Option.some.inj H
  go_enter Tryd.func27, Tryd.ntmps27
  go_wp2_with (first | ((with_reducible refine gate_dst (N := 1) rfl ?_); refine box_event ?hg (N := 1) ?hd (cs := #[.int .i64 a0_0, .int .i64 a0_1, .int .i64 a0_2, .int .i64 a0_3, .int .i64 a0_4]) (t := 46) ?hr ?_; (case hd => rfl); (case hg => rfl); (case hr => first | (go_simp; done) | (go_simp; rfl)); intro gb119 hg w170 hbox hb; have n0_ := Aside0.mk (below_step (by repeat (first | (with_reducible first | exact HB.out | apply below_alloc | apply pw_below_drewN | apply below_drew1) | exact HB.out)) hb); have n1_ := Aside0.mk (hbox); have n2_ := Aside0.mk ((by rw [hg]; exact (below_size (by repeat (first | (with_reducible first | exact HB.out | apply below_alloc | apply pw_below_drewN | apply below_drew1) | exact HB.out))) : w.heap.size ≤ gb119)); have n3_ := Aside0.mk ((by rw [hg]; exact (below_size (by repeat (first | (with_reducible first | exact HB.out | apply below_alloc | apply pw_below_drewN | apply below_drew1) | exact HB.out))) : w.heap.size ≤ gb119)); clear HB; have HB := n0_; have BK119 := n1_; have GW119 := n2_; have GE119 := n3_; clear n0_ n1_ n2_ n3_; clear hb hbox hg; have hcz171_0 : w170.cell? ⟨gb119, 0, none⟩ = some (.int .i64 a0_0) := (blk_cell BK119.out 0).trans rfl; have hcz171_1 : w170.cell? ⟨gb119, 1, none⟩ = some (.int .i64 a0_1) := (blk_cell BK119.out 1).trans rfl; have hcz171_2 : w170.cell? ⟨gb119, 2, none⟩ = some (.int .i64 a0_2) := (blk_cell BK119.out 2).trans rfl; have hcz171_3 : w170.cell? ⟨gb119, 3, none⟩ = some (.int .i64 a0_3) := (blk_cell BK119.out 3).trans rfl; have hcz171_4 : w170.cell? ⟨gb119, 4, none⟩ = some (.int .i64 a0_4) := (blk_cell BK119.out 4).trans rfl; have hfz171_0 := blk_frozen BK119.out 0; have hfz171_1 := blk_frozen BK119.out 1; have hfz171_2 := blk_frozen BK119.out 2; have hfz171_3 := blk_frozen BK119.out 3; have hfz171_4 := blk_frozen BK119.out 4) | ((with_reducible refine gate_callee (f := 76) rfl ?_); refine goesL_ (some 8) rfl rfl Tryd.func76 (by kernel_rfl) rfl #[.agg #[.int .i64 a0_0, .int .i64 a0_1, .int .i64 a0_2, .int .i64 a0_3, .int .i64 a0_4], .int .i64 800] rfl (by (try simp only [List.map_toArray, List.map_cons, List.map_nil]); first | done | rfl | (simp only [List.length_drop, List.length_take]; rfl)) ?_; (with_reducible refine (spec_StepOk.calls k a0_0 a0_1 a0_2 a0_3 a0_4 800 false _ A2.out).mono ?_); rintro e w172 ⟨rfl, hb⟩; refine ⟨_, rfl, ?_⟩; have n0_ := Aside0.mk (blk_below (g := gb119) (o := .cells #[.int .i64 a0_0, .int .i64 a0_1, .int .i64 a0_2, .int .i64 a0_3, .int .i64 a0_4] 46 (0, 0)) (by (with_reducible repeat (first | refine blk_drewN ?_ _ | refine blk_drew ?_ | refine blk_alloc ?_ _)); exact BK119.out) hb); have n1_ := Aside0.mk (below_step (by repeat (first | (with_reducible first | exact HB.out | apply below_alloc | apply pw_below_drewN | apply below_drew1 | refine below_set ?_ GE119.out) | exact HB.out)) hb); clear BK119; clear HB; have BK119 := n0_; have HB := n1_; clear n0_ n1_; (try clear hb); (try clear hb2); (try clear hk); (try clear hi)))
  go_ret
  exact ⟨by first | rfl | (simp [errW_none, errW_some] <;> rfl) | (simp [*, errW_none, errW_some] <;> rfl), by repeat (first | (with_reducible first | exact HB.out | apply below_alloc | apply pw_below_drewN | apply below_drew1 | refine below_set ?_ GE119.out) | exact HB.out)⟩
end Go.Proofs.YtkjfcmgpplapeaaDoor.PFnExactCodeText
