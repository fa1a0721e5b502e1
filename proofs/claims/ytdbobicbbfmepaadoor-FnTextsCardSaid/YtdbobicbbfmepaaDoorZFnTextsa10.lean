/- A part of the proof that the law FnTexts holds for every input: the words, functions and walks that its row needs, without a condition of their own. -/
import Derived.Test.YtdbobicbbfmepaaDoorZFnTextsa4
import Derived.Test.YtdbobicbbfmepaaDoorZFnTextsa9
import Derived.Test.YtdbobicbbfmepaaDoorZFnTextss
namespace Go.Proofs.YtdbobicbbfmepaaDoor.PFnTexts
open Go.RowKit Go.Proofs.YtdbobicbbfmepaaDoorW.PrintWords Go.Proofs.YtdbobicbbfmepaaDoorW.PrintLast Go.Proofs.YtdbobicbbfmepaaDoorW.PrintMore
attribute [local go_sem] max2_int min2_int max_two min_two max_three min_three max_four min_four   -- for this text's walks alone
set_option linter.unusedVariables false
set_option linter.unusedSimpArgs false
def impl_StepText.f (k : Nat) (a0_0 : Int) (a0_1 : Int) (a0_2 : Int) (a0_3 : Int) (a0_4 : Int) : Option (ByteArray) := (impl_StepOk.f k a0_0 a0_1 a0_2 a0_3 a0_4 800).bind fun t401 => (if t401 = true then (if a0_0 = 1 then ((impl_reg.f a0_1).bind fun t402 => (if 4 + t402.size ≤ 9223372036854775807 then (if ((⟨#[115, 101, 116, 32]⟩ : ByteArray) ++ t402).size + 1 ≤ 9223372036854775807 then ((impl_digits.f a0_4).bind fun t403 => (if (((⟨#[115, 101, 116, 32]⟩ : ByteArray) ++ t402) ++ (⟨#[32]⟩ : ByteArray)).size + t403.size ≤ 9223372036854775807 then (some ((((⟨#[115, 101, 116, 32]⟩ : ByteArray) ++ t402) ++ (⟨#[32]⟩ : ByteArray)) ++ t403)) else (none))) else (none)) else (none))) else (if a0_0 = 2 then ((impl_threeText.f a0_0 a0_1 a0_2 a0_3 a0_4).bind fun t404 => (if 4 + t404.size ≤ 9223372036854775807 then (some ((⟨#[97, 100, 100, 32]⟩ : ByteArray) ++ t404)) else (none))) else (if a0_0 = 3 then ((impl_threeText.f a0_0 a0_1 a0_2 a0_3 a0_4).bind fun t405 => (if 4 + t405.size ≤ 9223372036854775807 then (some ((⟨#[115, 117, 98, 32]⟩ : ByteArray) ++ t405)) else (none))) else (if a0_0 = 4 then ((impl_threeText.f a0_0 a0_1 a0_2 a0_3 a0_4).bind fun t406 => (if 5 + t406.size ≤ 9223372036854775807 then (some ((⟨#[108, 101, 115, 115, 32]⟩ : ByteArray) ++ t406)) else (none))) else (if a0_0 = 5 then ((impl_reg.f a0_1).bind fun t407 => (if 5 + t407.size ≤ 9223372036854775807 then (if ((⟨#[108, 111, 97, 100, 32]⟩ : ByteArray) ++ t407).size + 1 ≤ 9223372036854775807 then ((impl_cellText.f k a0_0 a0_1 a0_2 a0_3 a0_4).bind fun t408 => (if (((⟨#[108, 111, 97, 100, 32]⟩ : ByteArray) ++ t407) ++ (⟨#[32]⟩ : ByteArray)).size + t408.size ≤ 9223372036854775807 then (some ((((⟨#[108, 111, 97, 100, 32]⟩ : ByteArray) ++ t407) ++ (⟨#[32]⟩ : ByteArray)) ++ t408)) else (none))) else (none)) else (none))) else (if a0_0 = 6 then ((impl_cellText.f k a0_0 a0_1 a0_2 a0_3 a0_4).bind fun t409 => (if 6 + t409.size ≤ 9223372036854775807 then (if ((⟨#[115, 116, 111, 114, 101, 32]⟩ : ByteArray) ++ t409).size + 1 ≤ 9223372036854775807 then ((impl_reg.f a0_3).bind fun t410 => (if (((⟨#[115, 116, 111, 114, 101, 32]⟩ : ByteArray) ++ t409) ++ (⟨#[32]⟩ : ByteArray)).size + t410.size ≤ 9223372036854775807 then (some ((((⟨#[115, 116, 111, 114, 101, 32]⟩ : ByteArray) ++ t409) ++ (⟨#[32]⟩ : ByteArray)) ++ t410)) else (none))) else (none)) else (none))) else (if a0_0 = 7 then ((impl_cellText.f k a0_0 a0_1 a0_2 a0_3 a0_4).bind fun t411 => (if 4 + t411.size ≤ 9223372036854775807 then (if ((⟨#[108, 101, 116, 32]⟩ : ByteArray) ++ t411).size + 1 ≤ 9223372036854775807 then ((impl_reg.f a0_3).bind fun t412 => (if (((⟨#[108, 101, 116, 32]⟩ : ByteArray) ++ t411) ++ (⟨#[32]⟩ : ByteArray)).size + t412.size ≤ 9223372036854775807 then (some ((((⟨#[108, 101, 116, 32]⟩ : ByteArray) ++ t411) ++ (⟨#[32]⟩ : ByteArray)) ++ t412)) else (none))) else (none)) else (none))) else (if a0_0 = 8 then ((impl_reg.f a0_1).bind fun t413 => (if 5 + t413.size ≤ 9223372036854775807 then (if ((⟨#[115, 119, 97, 112, 32]⟩ : ByteArray) ++ t413).size + 1 ≤ 9223372036854775807 then ((impl_cellText.f k a0_0 a0_1 a0_2 a0_3 a0_4).bind fun t414 => (if (((⟨#[115, 119, 97, 112, 32]⟩ : ByteArray) ++ t413) ++ (⟨#[32]⟩ : ByteArray)).size + t414.size ≤ 9223372036854775807 then (if ((((⟨#[115, 119, 97, 112, 32]⟩ : ByteArray) ++ t413) ++ (⟨#[32]⟩ : ByteArray)) ++ t414).size + 1 ≤ 9223372036854775807 then ((impl_reg.f a0_3).bind fun t415 => (if (((((⟨#[115, 119, 97, 112, 32]⟩ : ByteArray) ++ t413) ++ (⟨#[32]⟩ : ByteArray)) ++ t414) ++ (⟨#[32]⟩ : ByteArray)).size + t415.size ≤ 9223372036854775807 then (some ((((((⟨#[115, 119, 97, 112, 32]⟩ : ByteArray) ++ t413) ++ (⟨#[32]⟩ : ByteArray)) ++ t414) ++ (⟨#[32]⟩ : ByteArray)) ++ t415)) else (none))) else (none)) else (none))) else (none)) else (none))) else (if a0_0 = 9 then ((impl_reg.f a0_2).bind fun t416 => (if 6 + t416.size ≤ 9223372036854775807 then (some ((⟨#[112, 114, 105, 110, 116, 32]⟩ : ByteArray) ++ t416)) else (none))) else (if a0_0 = 10 then ((impl_digits.f a0_4).bind fun t417 => (if 5 + t417.size ≤ 9223372036854775807 then (some ((⟨#[106, 117, 109, 112, 32]⟩ : ByteArray) ++ t417)) else (none))) else (if a0_0 = 11 then ((impl_reg.f a0_2).bind fun t418 => (if 5 + t418.size ≤ 9223372036854775807 then (if ((⟨#[122, 101, 114, 111, 32]⟩ : ByteArray) ++ t418).size + 1 ≤ 9223372036854775807 then ((impl_digits.f a0_4).bind fun t419 => (if (((⟨#[122, 101, 114, 111, 32]⟩ : ByteArray) ++ t418) ++ (⟨#[32]⟩ : ByteArray)).size + t419.size ≤ 9223372036854775807 then (some ((((⟨#[122, 101, 114, 111, 32]⟩ : ByteArray) ++ t418) ++ (⟨#[32]⟩ : ByteArray)) ++ t419)) else (none))) else (none)) else (none))) else (if a0_0 = 12 then (some (⟨#[101, 110, 100]⟩ : ByteArray)) else (some (⟨#[102, 97, 117, 108, 116]⟩ : ByteArray)))))))))))))) else (some (⟨#[]⟩ : ByteArray)))
def impl_StepText.T5 : Bool × List (List Nat × List Nat) := (true, [([], []), ([0], [0]), ([1], [1]), ([2], [2]), ([3], [3]), ([], []), ([5], [5]), ([6, 2], [6]), ([4, 7], [4, 7]), ([8, 7, 0, 1, 2, 3, 4, 5, 6, 7, 8], [8])])
def impl_StepText.B5 : List Nat := [0, 1, 3, 7, 15, 0, 32, 103, 255, 511]
theorem impl_StepText.tab5 : rtab .any (opsOf Tryd.f11 5) = impl_StepText.T5 := by kernel_rfl
theorem impl_StepText.bits5 : waitsOk impl_StepText.T5.2 impl_StepText.B5 = true := by kernel_rfl
def impl_StepText.T13 : Bool × List (List Nat × List Nat) := (true, [([], []), ([0], [0]), ([1], [1]), ([2], [2]), ([3], [3]), ([], []), ([5, 2], [5]), ([4, 6], [4, 6]), ([7, 6, 0, 1, 2, 3, 4, 5, 6, 7], [7])])
def impl_StepText.B13 : List Nat := [0, 1, 3, 7, 15, 0, 39, 127, 255]
theorem impl_StepText.tab13 : rtab .any (opsOf Tryd.f11 13) = impl_StepText.T13 := by kernel_rfl
theorem impl_StepText.bits13 : waitsOk impl_StepText.T13.2 impl_StepText.B13 = true := by kernel_rfl
def impl_StepText.T15 : Bool × List (List Nat × List Nat) := (true, [([], []), ([0], [0]), ([1], [1]), ([2], [2]), ([], []), ([4], [4]), ([5, 1], [5]), ([3, 6], [3, 6]), ([7, 6, 0, 1, 2, 3, 4, 5, 6, 7], [7])])
def impl_StepText.B15 : List Nat := [0, 1, 3, 7, 0, 16, 51, 127, 255]
theorem impl_StepText.tab15 : rtab .any (opsOf Tryd.f11 15) = impl_StepText.T15 := by kernel_rfl
theorem impl_StepText.bits15 : waitsOk impl_StepText.T15.2 impl_StepText.B15 = true := by kernel_rfl
def impl_StepText.T17 : Bool × List (List Nat × List Nat) := (true, [([], []), ([0], [0]), ([1], [1]), ([2], [2]), ([], []), ([4], [4]), ([5, 1], [5]), ([3, 6], [3, 6]), ([7, 6, 0, 1, 2, 3, 4, 5, 6, 7], [7])])
def impl_StepText.B17 : List Nat := [0, 1, 3, 7, 0, 16, 51, 127, 255]
theorem impl_StepText.tab17 : rtab .any (opsOf Tryd.f11 17) = impl_StepText.T17 := by kernel_rfl
theorem impl_StepText.bits17 : waitsOk impl_StepText.T17.2 impl_StepText.B17 = true := by kernel_rfl
def impl_StepText.T19 : Bool × List (List Nat × List Nat) := (true, [([], []), ([0], [0]), ([1], [1]), ([2], [2]), ([3], [3]), ([], []), ([5, 2], [5]), ([4, 6], [4, 6]), ([7], [7]), ([], []), ([9], [9]), ([10, 6], [10]), ([8, 11], [8, 11]), ([12, 11, 0, 1, 2, 3, 4, 5, 6, 7, 8, 9, 10, 11, 12], [12])])
def impl_StepText.B19 : List Nat := [0, 1, 3, 7, 15, 0, 39, 127, 255, 0, 512, 1639, 4095, 8191]
theorem impl_StepText.tab19 : rtab .any (opsOf Tryd.f11 19) = impl_StepText.T19 := by kernel_rfl
theorem impl_StepText.bits19 : waitsOk impl_StepText.T19.2 impl_StepText.B19 = true := by kernel_rfl
def impl_StepText.T25 : Bool × List (List Nat × List Nat) := (true, [([], []), ([0], [0]), ([1], [1]), ([2], [2]), ([3], [3]), ([], []), ([5], [5]), ([6, 2], [6]), ([4, 7], [4, 7]), ([8, 7, 0, 1, 2, 3, 4, 5, 6, 7, 8], [8])])
def impl_StepText.B25 : List Nat := [0, 1, 3, 7, 15, 0, 32, 103, 255, 511]
theorem impl_StepText.tab25 : rtab .any (opsOf Tryd.f11 25) = impl_StepText.T25 := by kernel_rfl
theorem impl_StepText.bits25 : waitsOk impl_StepText.T25.2 impl_StepText.B25 = true := by kernel_rfl
set_option maxHeartbeats 8000000 in
set_option maxRecDepth 100000 in
theorem impl_StepText.calls (k : Nat) (a0_0 : Int) (a0_1 : Int) (a0_2 : Int) (a0_3 : Int) (a0_4 : Int) (r : ByteArray) (w : World) (h : impl_StepText.f k a0_0 a0_1 a0_2 a0_3 a0_4 = some r) (hT : Tab.Laid w) :
  Calls Tryd.prog 11 #[.agg #[.int .i64 a0_0, .int .i64 a0_1, .int .i64 a0_2, .int .i64 a0_3, .int .i64 a0_4]] w fun e w' => e = .returned (.string r) ∧ Below w.heap.size w w' := by
 have hu25 := Tryd.underlying25
 have HB := aM_ (Below.refl w.heap.size w)
 have H : ((impl_StepOk.f k a0_0 a0_1 a0_2 a0_3 a0_4 800).bind fun t401 => (if t401 = true then (if a0_0 = 1 then ((impl_reg.f a0_1).bind fun t402 => (if 4 + t402.size ≤ 9223372036854775807 then (if ((⟨#[115, 101, 116, 32]⟩ : ByteArray) ++ t402).size + 1 ≤ 9223372036854775807 then ((impl_digits.f a0_4).bind fun t403 => (if (((⟨#[115, 101, 116, 32]⟩ : ByteArray) ++ t402) ++ (⟨#[32]⟩ : ByteArray)).size + t403.size ≤ 9223372036854775807 then (some ((((⟨#[115, 101, 116, 32]⟩ : ByteArray) ++ t402) ++ (⟨#[32]⟩ : ByteArray)) ++ t403)) else (none))) else (none)) else (none))) else (if a0_0 = 2 then ((impl_threeText.f a0_0 a0_1 a0_2 a0_3 a0_4).bind fun t404 => (if 4 + t404.size ≤ 9223372036854775807 then (some ((⟨#[97, 100, 100, 32]⟩ : ByteArray) ++ t404)) else (none))) else (if a0_0 = 3 then ((impl_threeText.f a0_0 a0_1 a0_2 a0_3 a0_4).bind fun t405 => (if 4 + t405.size ≤ 9223372036854775807 then (some ((⟨#[115, 117, 98, 32]⟩ : ByteArray) ++ t405)) else (none))) else (if a0_0 = 4 then ((impl_threeText.f a0_0 a0_1 a0_2 a0_3 a0_4).bind fun t406 => (if 5 + t406.size ≤ 9223372036854775807 then (some ((⟨#[108, 101, 115, 115, 32]⟩ : ByteArray) ++ t406)) else (none))) else (if a0_0 = 5 then ((impl_reg.f a0_1).bind fun t407 => (if 5 + t407.size ≤ 9223372036854775807 then (if ((⟨#[108, 111, 97, 100, 32]⟩ : ByteArray) ++ t407).size + 1 ≤ 9223372036854775807 then ((impl_cellText.f k a0_0 a0_1 a0_2 a0_3 a0_4).bind fun t408 => (if (((⟨#[108, 111, 97, 100, 32]⟩ : ByteArray) ++ t407) ++ (⟨#[32]⟩ : ByteArray)).size + t408.size ≤ 9223372036854775807 then (some ((((⟨#[108, 111, 97, 100, 32]⟩ : ByteArray) ++ t407) ++ (⟨#[32]⟩ : ByteArray)) ++ t408)) else (none))) else (none)) else (none))) else (if a0_0 = 6 then ((impl_cellText.f k a0_0 a0_1 a0_2 a0_3 a0_4).bind fun t409 => (if 6 + t409.size ≤ 9223372036854775807 then (if ((⟨#[115, 116, 111, 114, 101, 32]⟩ : ByteArray) ++ t409).size + 1 ≤ 9223372036854775807 then ((impl_reg.f a0_3).bind fun t410 => (if (((⟨#[115, 116, 111, 114, 101, 32]⟩ : ByteArray) ++ t409) ++ (⟨#[32]⟩ : ByteArray)).size + t410.size ≤ 9223372036854775807 then (some ((((⟨#[115, 116, 111, 114, 101, 32]⟩ : ByteArray) ++ t409) ++ (⟨#[32]⟩ : ByteArray)) ++ t410)) else (none))) else (none)) else (none))) else (if a0_0 = 7 then ((impl_cellText.f k a0_0 a0_1 a0_2 a0_3 a0_4).bind fun t411 => (if 4 + t411.size ≤ 9223372036854775807 then (if ((⟨#[108, 101, 116, 32]⟩ : ByteArray) ++ t411).size + 1 ≤ 9223372036854775807 then ((impl_reg.f a0_3).bind fun t412 => (if (((⟨#[108, 101, 116, 32]⟩ : ByteArray) ++ t411) ++ (⟨#[32]⟩ : ByteArray)).size + t412.size ≤ 9223372036854775807 then (some ((((⟨#[108, 101, 116, 32]⟩ : ByteArray) ++ t411) ++ (⟨#[32]⟩ : ByteArray)) ++ t412)) else (none))) else (none)) else (none))) else (if a0_0 = 8 then ((impl_reg.f a0_1).bind fun t413 => (if 5 + t413.size ≤ 9223372036854775807 then (if ((⟨#[115, 119, 97, 112, 32]⟩ : ByteArray) ++ t413).size + 1 ≤ 9223372036854775807 then ((impl_cellText.f k a0_0 a0_1 a0_2 a0_3 a0_4).bind fun t414 => (if (((⟨#[115, 119, 97, 112, 32]⟩ : ByteArray) ++ t413) ++ (⟨#[32]⟩ : ByteArray)).size + t414.size ≤ 9223372036854775807 then (if ((((⟨#[115, 119, 97, 112, 32]⟩ : ByteArray) ++ t413) ++ (⟨#[32]⟩ : ByteArray)) ++ t414).size + 1 ≤ 9223372036854775807 then ((impl_reg.f a0_3).bind fun t415 => (if (((((⟨#[115, 119, 97, 112, 32]⟩ : ByteArray) ++ t413) ++ (⟨#[32]⟩ : ByteArray)) ++ t414) ++ (⟨#[32]⟩ : ByteArray)).size + t415.size ≤ 9223372036854775807 then (some ((((((⟨#[115, 119, 97, 112, 32]⟩ : ByteArray) ++ t413) ++ (⟨#[32]⟩ : ByteArray)) ++ t414) ++ (⟨#[32]⟩ : ByteArray)) ++ t415)) else (none))) else (none)) else (none))) else (none)) else (none))) else (if a0_0 = 9 then ((impl_reg.f a0_2).bind fun t416 => (if 6 + t416.size ≤ 9223372036854775807 then (some ((⟨#[112, 114, 105, 110, 116, 32]⟩ : ByteArray) ++ t416)) else (none))) else (if a0_0 = 10 then ((impl_digits.f a0_4).bind fun t417 => (if 5 + t417.size ≤ 9223372036854775807 then (some ((⟨#[106, 117, 109, 112, 32]⟩ : ByteArray) ++ t417)) else (none))) else (if a0_0 = 11 then ((impl_reg.f a0_2).bind fun t418 => (if 5 + t418.size ≤ 9223372036854775807 then (if ((⟨#[122, 101, 114, 111, 32]⟩ : ByteArray) ++ t418).size + 1 ≤ 9223372036854775807 then ((impl_digits.f a0_4).bind fun t419 => (if (((⟨#[122, 101, 114, 111, 32]⟩ : ByteArray) ++ t418) ++ (⟨#[32]⟩ : ByteArray)).size + t419.size ≤ 9223372036854775807 then (some ((((⟨#[122, 101, 114, 111, 32]⟩ : ByteArray) ++ t418) ++ (⟨#[32]⟩ : ByteArray)) ++ t419)) else (none))) else (none)) else (none))) else (if a0_0 = 12 then (some (⟨#[101, 110, 100]⟩ : ByteArray)) else (some (⟨#[102, 97, 117, 108, 116]⟩ : ByteArray)))))))))))))) else (some (⟨#[]⟩ : ByteArray)))) = some r := h
 clear h
 replace H := Option.bind_eq_some_iff.mp H
 obtain ⟨t401, A20, H⟩ := H
 replace H : (if t401 = true then (if a0_0 = 1 then ((impl_reg.f a0_1).bind fun t402 => (if 4 + t402.size ≤ 9223372036854775807 then (if ((⟨#[115, 101, 116, 32]⟩ : ByteArray) ++ t402).size + 1 ≤ 9223372036854775807 then ((impl_digits.f a0_4).bind fun t403 => (if (((⟨#[115, 101, 116, 32]⟩ : ByteArray) ++ t402) ++ (⟨#[32]⟩ : ByteArray)).size + t403.size ≤ 9223372036854775807 then (some ((((⟨#[115, 101, 116, 32]⟩ : ByteArray) ++ t402) ++ (⟨#[32]⟩ : ByteArray)) ++ t403)) else (none))) else (none)) else (none))) else (if a0_0 = 2 then ((impl_threeText.f a0_0 a0_1 a0_2 a0_3 a0_4).bind fun t404 => (if 4 + t404.size ≤ 9223372036854775807 then (some ((⟨#[97, 100, 100, 32]⟩ : ByteArray) ++ t404)) else (none))) else (if a0_0 = 3 then ((impl_threeText.f a0_0 a0_1 a0_2 a0_3 a0_4).bind fun t405 => (if 4 + t405.size ≤ 9223372036854775807 then (some ((⟨#[115, 117, 98, 32]⟩ : ByteArray) ++ t405)) else (none))) else (if a0_0 = 4 then ((impl_threeText.f a0_0 a0_1 a0_2 a0_3 a0_4).bind fun t406 => (if 5 + t406.size ≤ 9223372036854775807 then (some ((⟨#[108, 101, 115, 115, 32]⟩ : ByteArray) ++ t406)) else (none))) else (if a0_0 = 5 then ((impl_reg.f a0_1).bind fun t407 => (if 5 + t407.size ≤ 9223372036854775807 then (if ((⟨#[108, 111, 97, 100, 32]⟩ : ByteArray) ++ t407).size + 1 ≤ 9223372036854775807 then ((impl_cellText.f k a0_0 a0_1 a0_2 a0_3 a0_4).bind fun t408 => (if (((⟨#[108, 111, 97, 100, 32]⟩ : ByteArray) ++ t407) ++ (⟨#[32]⟩ : ByteArray)).size + t408.size ≤ 9223372036854775807 then (some ((((⟨#[108, 111, 97, 100, 32]⟩ : ByteArray) ++ t407) ++ (⟨#[32]⟩ : ByteArray)) ++ t408)) else (none))) else (none)) else (none))) else (if a0_0 = 6 then ((impl_cellText.f k a0_0 a0_1 a0_2 a0_3 a0_4).bind fun t409 => (if 6 + t409.size ≤ 9223372036854775807 then (if ((⟨#[115, 116, 111, 114, 101, 32]⟩ : ByteArray) ++ t409).size + 1 ≤ 9223372036854775807 then ((impl_reg.f a0_3).bind fun t410 => (if (((⟨#[115, 116, 111, 114, 101, 32]⟩ : ByteArray) ++ t409) ++ (⟨#[32]⟩ : ByteArray)).size + t410.size ≤ 9223372036854775807 then (some ((((⟨#[115, 116, 111, 114, 101, 32]⟩ : ByteArray) ++ t409) ++ (⟨#[32]⟩ : ByteArray)) ++ t410)) else (none))) else (none)) else (none))) else (if a0_0 = 7 then ((impl_cellText.f k a0_0 a0_1 a0_2 a0_3 a0_4).bind fun t411 => (if 4 + t411.size ≤ 9223372036854775807 then (if ((⟨#[108, 101, 116, 32]⟩ : ByteArray) ++ t411).size + 1 ≤ 9223372036854775807 then ((impl_reg.f a0_3).bind fun t412 => (if (((⟨#[108, 101, 116, 32]⟩ : ByteArray) ++ t411) ++ (⟨#[32]⟩ : ByteArray)).size + t412.size ≤ 9223372036854775807 then (some ((((⟨#[108, 101, 116, 32]⟩ : ByteArray) ++ t411) ++ (⟨#[32]⟩ : ByteArray)) ++ t412)) else (none))) else (none)) else (none))) else (if a0_0 = 8 then ((impl_reg.f a0_1).bind fun t413 => (if 5 + t413.size ≤ 9223372036854775807 then (if ((⟨#[115, 119, 97, 112, 32]⟩ : ByteArray) ++ t413).size + 1 ≤ 9223372036854775807 then ((impl_cellText.f k a0_0 a0_1 a0_2 a0_3 a0_4).bind fun t414 => (if (((⟨#[115, 119, 97, 112, 32]⟩ : ByteArray) ++ t413) ++ (⟨#[32]⟩ : ByteArray)).size + t414.size ≤ 9223372036854775807 then (if ((((⟨#[115, 119, 97, 112, 32]⟩ : ByteArray) ++ t413) ++ (⟨#[32]⟩ : ByteArray)) ++ t414).size + 1 ≤ 9223372036854775807 then ((impl_reg.f a0_3).bind fun t415 => (if (((((⟨#[115, 119, 97, 112, 32]⟩ : ByteArray) ++ t413) ++ (⟨#[32]⟩ : ByteArray)) ++ t414) ++ (⟨#[32]⟩ : ByteArray)).size + t415.size ≤ 9223372036854775807 then (some ((((((⟨#[115, 119, 97, 112, 32]⟩ : ByteArray) ++ t413) ++ (⟨#[32]⟩ : ByteArray)) ++ t414) ++ (⟨#[32]⟩ : ByteArray)) ++ t415)) else (none))) else (none)) else (none))) else (none)) else (none))) else (if a0_0 = 9 then ((impl_reg.f a0_2).bind fun t416 => (if 6 + t416.size ≤ 9223372036854775807 then (some ((⟨#[112, 114, 105, 110, 116, 32]⟩ : ByteArray) ++ t416)) else (none))) else (if a0_0 = 10 then ((impl_digits.f a0_4).bind fun t417 => (if 5 + t417.size ≤ 9223372036854775807 then (some ((⟨#[106, 117, 109, 112, 32]⟩ : ByteArray) ++ t417)) else (none))) else (if a0_0 = 11 then ((impl_reg.f a0_2).bind fun t418 => (if 5 + t418.size ≤ 9223372036854775807 then (if ((⟨#[122, 101, 114, 111, 32]⟩ : ByteArray) ++ t418).size + 1 ≤ 9223372036854775807 then ((impl_digits.f a0_4).bind fun t419 => (if (((⟨#[122, 101, 114, 111, 32]⟩ : ByteArray) ++ t418) ++ (⟨#[32]⟩ : ByteArray)).size + t419.size ≤ 9223372036854775807 then (some ((((⟨#[122, 101, 114, 111, 32]⟩ : ByteArray) ++ t418) ++ (⟨#[32]⟩ : ByteArray)) ++ t419)) else (none))) else (none)) else (none))) else (if a0_0 = 12 then (some (⟨#[101, 110, 100]⟩ : ByteArray)) else (some (⟨#[102, 97, 117, 108, 116]⟩ : ByteArray)))))))))))))) else (some (⟨#[]⟩ : ByteArray))) = some r := H
 have A2 := aM_ A20
 clear A20
 by_cases c3 : t401 = true
 ·subst c3
  have H1 : (if a0_0 = 1 then ((impl_reg.f a0_1).bind fun t402 => (if 4 + t402.size ≤ 9223372036854775807 then (if ((⟨#[115, 101, 116, 32]⟩ : ByteArray) ++ t402).size + 1 ≤ 9223372036854775807 then ((impl_digits.f a0_4).bind fun t403 => (if (((⟨#[115, 101, 116, 32]⟩ : ByteArray) ++ t402) ++ (⟨#[32]⟩ : ByteArray)).size + t403.size ≤ 9223372036854775807 then (some ((((⟨#[115, 101, 116, 32]⟩ : ByteArray) ++ t402) ++ (⟨#[32]⟩ : ByteArray)) ++ t403)) else (none))) else (none)) else (none))) else (if a0_0 = 2 then ((impl_threeText.f a0_0 a0_1 a0_2 a0_3 a0_4).bind fun t404 => (if 4 + t404.size ≤ 9223372036854775807 then (some ((⟨#[97, 100, 100, 32]⟩ : ByteArray) ++ t404)) else (none))) else (if a0_0 = 3 then ((impl_threeText.f a0_0 a0_1 a0_2 a0_3 a0_4).bind fun t405 => (if 4 + t405.size ≤ 9223372036854775807 then (some ((⟨#[115, 117, 98, 32]⟩ : ByteArray) ++ t405)) else (none))) else (if a0_0 = 4 then ((impl_threeText.f a0_0 a0_1 a0_2 a0_3 a0_4).bind fun t406 => (if 5 + t406.size ≤ 9223372036854775807 then (some ((⟨#[108, 101, 115, 115, 32]⟩ : ByteArray) ++ t406)) else (none))) else (if a0_0 = 5 then ((impl_reg.f a0_1).bind fun t407 => (if 5 + t407.size ≤ 9223372036854775807 then (if ((⟨#[108, 111, 97, 100, 32]⟩ : ByteArray) ++ t407).size + 1 ≤ 9223372036854775807 then ((impl_cellText.f k a0_0 a0_1 a0_2 a0_3 a0_4).bind fun t408 => (if (((⟨#[108, 111, 97, 100, 32]⟩ : ByteArray) ++ t407) ++ (⟨#[32]⟩ : ByteArray)).size + t408.size ≤ 9223372036854775807 then (some ((((⟨#[108, 111, 97, 100, 32]⟩ : ByteArray) ++ t407) ++ (⟨#[32]⟩ : ByteArray)) ++ t408)) else (none))) else (none)) else (none))) else (if a0_0 = 6 then ((impl_cellText.f k a0_0 a0_1 a0_2 a0_3 a0_4).bind fun t409 => (if 6 + t409.size ≤ 9223372036854775807 then (if ((⟨#[115, 116, 111, 114, 101, 32]⟩ : ByteArray) ++ t409).size + 1 ≤ 9223372036854775807 then ((impl_reg.f a0_3).bind fun t410 => (if (((⟨#[115, 116, 111, 114, 101, 32]⟩ : ByteArray) ++ t409) ++ (⟨#[32]⟩ : ByteArray)).size + t410.size ≤ 9223372036854775807 then (some ((((⟨#[115, 116, 111, 114, 101, 32]⟩ : ByteArray) ++ t409) ++ (⟨#[32]⟩ : ByteArray)) ++ t410)) else (none))) else (none)) else (none))) else (if a0_0 = 7 then ((impl_cellText.f k a0_0 a0_1 a0_2 a0_3 a0_4).bind fun t411 => (if 4 + t411.size ≤ 9223372036854775807 then (if ((⟨#[108, 101, 116, 32]⟩ : ByteArray) ++ t411).size + 1 ≤ 9223372036854775807 then ((impl_reg.f a0_3).bind fun t412 => (if (((⟨#[108, 101, 116, 32]⟩ : ByteArray) ++ t411) ++ (⟨#[32]⟩ : ByteArray)).size + t412.size ≤ 9223372036854775807 then (some ((((⟨#[108, 101, 116, 32]⟩ : ByteArray) ++ t411) ++ (⟨#[32]⟩ : ByteArray)) ++ t412)) else (none))) else (none)) else (none))) else (if a0_0 = 8 then ((impl_reg.f a0_1).bind fun t413 => (if 5 + t413.size ≤ 9223372036854775807 then (if ((⟨#[115, 119, 97, 112, 32]⟩ : ByteArray) ++ t413).size + 1 ≤ 9223372036854775807 then ((impl_cellText.f k a0_0 a0_1 a0_2 a0_3 a0_4).bind fun t414 => (if (((⟨#[115, 119, 97, 112, 32]⟩ : ByteArray) ++ t413) ++ (⟨#[32]⟩ : ByteArray)).size + t414.size ≤ 9223372036854775807 then (if ((((⟨#[115, 119, 97, 112, 32]⟩ : ByteArray) ++ t413) ++ (⟨#[32]⟩ : ByteArray)) ++ t414).size + 1 ≤ 9223372036854775807 then ((impl_reg.f a0_3).bind fun t415 => (if (((((⟨#[115, 119, 97, 112, 32]⟩ : ByteArray) ++ t413) ++ (⟨#[32]⟩ : ByteArray)) ++ t414) ++ (⟨#[32]⟩ : ByteArray)).size + t415.size ≤ 9223372036854775807 then (some ((((((⟨#[115, 119, 97, 112, 32]⟩ : ByteArray) ++ t413) ++ (⟨#[32]⟩ : ByteArray)) ++ t414) ++ (⟨#[32]⟩ : ByteArray)) ++ t415)) else (none))) else (none)) else (none))) else (none)) else (none))) else (if a0_0 = 9 then ((impl_reg.f a0_2).bind fun t416 => (if 6 + t416.size ≤ 9223372036854775807 then (some ((⟨#[112, 114, 105, 110, 116, 32]⟩ : ByteArray) ++ t416)) else (none))) else (if a0_0 = 10 then ((impl_digits.f a0_4).bind fun t417 => (if 5 + t417.size ≤ 9223372036854775807 then (some ((⟨#[106, 117, 109, 112, 32]⟩ : ByteArray) ++ t417)) else (none))) else (if a0_0 = 11 then ((impl_reg.f a0_2).bind fun t418 => (if 5 + t418.size ≤ 9223372036854775807 then (if ((⟨#[122, 101, 114, 111, 32]⟩ : ByteArray) ++ t418).size + 1 ≤ 9223372036854775807 then ((impl_digits.f a0_4).bind fun t419 => (if (((⟨#[122, 101, 114, 111, 32]⟩ : ByteArray) ++ t418) ++ (⟨#[32]⟩ : ByteArray)).size + t419.size ≤ 9223372036854775807 then (some ((((⟨#[122, 101, 114, 111, 32]⟩ : ByteArray) ++ t418) ++ (⟨#[32]⟩ : ByteArray)) ++ t419)) else (none))) else (none)) else (none))) else (if a0_0 = 12 then (some (⟨#[101, 110, 100]⟩ : ByteArray)) else (some (⟨#[102, 97, 117, 108, 116]⟩ : ByteArray)))))))))))))) = some r := by rw [if_pos rfl] at H; exact H
  clear H
  have H := H1
  clear H1
  by_cases c4 : a0_0 = 1
  ·rw [if_pos c4] at H
   have c4b0 : (a0_0 == 1) = true := beq_iff_eq.mpr c4
   have c4b1 : (a0_0 != 1) = false := bne_eq_false_iff_eq.mpr c4
   clear c4
   replace H := Option.bind_eq_some_iff.mp H
   obtain ⟨t402, A50, H⟩ := H
   replace H : (if 4 + t402.size ≤ 9223372036854775807 then (if ((⟨#[115, 101, 116, 32]⟩ : ByteArray) ++ t402).size + 1 ≤ 9223372036854775807 then ((impl_digits.f a0_4).bind fun t403 => (if (((⟨#[115, 101, 116, 32]⟩ : ByteArray) ++ t402) ++ (⟨#[32]⟩ : ByteArray)).size + t403.size ≤ 9223372036854775807 then (some ((((⟨#[115, 101, 116, 32]⟩ : ByteArray) ++ t402) ++ (⟨#[32]⟩ : ByteArray)) ++ t403)) else (none))) else (none)) else (none)) = some r := H
   have A5 := aM_ A50
   clear A50
   by_cases c6 : 4 + t402.size ≤ 9223372036854775807
   ·rw [if_pos c6] at H
    have c6b0 := eq_true c6
    have c6b1 : decide (4 + t402.size ≤ 9223372036854775807) = true := decide_eq_true c6
    try have c6b2 : (9223372036854775807 < 4 + t402.size) = False := eq_false (Nat.not_lt.2 c6)
    by_cases c7 : ((⟨#[115, 101, 116, 32]⟩ : ByteArray) ++ t402).size + 1 ≤ 9223372036854775807
    ·rw [if_pos c7] at H
     have c7b0 := eq_true c7
     have c7b1 : decide (((⟨#[115, 101, 116, 32]⟩ : ByteArray) ++ t402).size + 1 ≤ 9223372036854775807) = true := decide_eq_true c7
     (try (have c7n := c7; simp only [ByteArray.size_append, Tab.sz_mk, List.size_toArray, List.length_cons, List.length_nil, Nat.zero_add, Nat.reduceAdd] at c7n; have c7b4 := eq_true c7n; have c7b5 := eq_false (Nat.not_lt.2 c7n)))
     try have c7b2 : (9223372036854775807 < ((⟨#[115, 101, 116, 32]⟩ : ByteArray) ++ t402).size + 1) = False := eq_false (Nat.not_lt.2 c7)
     replace H := Option.bind_eq_some_iff.mp H
     obtain ⟨t403, A80, H⟩ := H
     replace H : (if (((⟨#[115, 101, 116, 32]⟩ : ByteArray) ++ t402) ++ (⟨#[32]⟩ : ByteArray)).size + t403.size ≤ 9223372036854775807 then (some ((((⟨#[115, 101, 116, 32]⟩ : ByteArray) ++ t402) ++ (⟨#[32]⟩ : ByteArray)) ++ t403)) else (none)) = some r := H
     have A8 := aM_ A80
     clear A80
     by_cases c9 : (((⟨#[115, 101, 116, 32]⟩ : ByteArray) ++ t402) ++ (⟨#[32]⟩ : ByteArray)).size + t403.size ≤ 9223372036854775807
     ·rw [if_pos c9] at H
      have c9b0 := eq_true c9
      have c9b1 : decide ((((⟨#[115, 101, 116, 32]⟩ : ByteArray) ++ t402) ++ (⟨#[32]⟩ : ByteArray)).size + t403.size ≤ 9223372036854775807) = true := decide_eq_true c9
      (try (have c9n := c9; simp only [ByteArray.size_append, Tab.sz_mk, List.size_toArray, List.length_cons, List.length_nil, Nat.zero_add, Nat.reduceAdd] at c9n; have c9b4 := eq_true c9n; have c9b5 := eq_false (Nat.not_lt.2 c9n)))
      try have c9b2 : (9223372036854775807 < (((⟨#[115, 101, 116, 32]⟩ : ByteArray) ++ t402) ++ (⟨#[32]⟩ : ByteArray)).size + t403.size) = False := eq_false (Nat.not_lt.2 c9)
      obtain rfl := Option.some.inj H
      go_enter Tryd.func11, Tryd.ntmps11
      try go_wp2_with (first | ((with_reducible refine gate_dst (N := 1) rfl ?_); refine bX_ 1 (cs := #[.int .i64 a0_0, .int .i64 a0_1, .int .i64 a0_2, .int .i64 a0_3, .int .i64 a0_4]) (t := 25) ?_; intro gb400 hg w10 hbox hb; have n0 := aM_ (sT_ HB.out hb); have n1 := aM_ (hbox); have n2 := aM_ (sZ_ hg HB.out); have n3 := aM_ (sZ_ hg HB.out); clear HB; have HB := n0; have BK400 := n1; have GW400 := n2; have GE400 := n3; clear n0 n1 n2 n3; clear hb hbox hg; obtain ⟨hcz11_0, hcz11_1, hcz11_2, hcz11_3, hcz11_4, hfz11_0, hfz11_1, hfz11_2, hfz11_3, hfz11_4⟩ := bR5_ BK400.out) | ((with_reducible refine gate_callee (f := 19) rfl ?_); refine gL_ (some 4) Tryd.func19 #[.agg #[.int .i64 a0_0, .int .i64 a0_1, .int .i64 a0_2, .int .i64 a0_3, .int .i64 a0_4], .int .i64 800] ?_; (with_reducible refine (impl_StepOk.calls k a0_0 a0_1 a0_2 a0_3 a0_4 800 true _ A2.out).mono ?_); rintro e w12 ⟨rfl, hb⟩; refine ⟨_, rfl, ?_⟩; have n0 := aM_ (nB_ BK400.out hb); have n1 := aM_ (sT_ HB.out hb); clear BK400; clear HB; have BK400 := n0; have HB := n1; clear n0 n1; obtain ⟨hcz13_0, hcz13_1, hcz13_2, hcz13_3, hcz13_4, hfz13_0, hfz13_1, hfz13_2, hfz13_3, hfz13_4⟩ := bR5_ BK400.out))
      (all_goals try (exfalso; have e1_ : (⟨#[32]⟩ : ByteArray).size = 1 := rfl; have e2_ : (⟨#[10]⟩ : ByteArray).size = 1 := rfl; simp only [ByteArray.size_append] at c7; omega))
      (all_goals try (exfalso; have e1_ : (⟨#[32]⟩ : ByteArray).size = 1 := rfl; have e2_ : (⟨#[10]⟩ : ByteArray).size = 1 := rfl; simp only [ByteArray.size_append] at c9; omega))
      have n0 := aM_ (blk_drew BK400.out)
      have n1 := aM_ (below_drew1 HB.out)
      clear BK400
      clear HB
      have BK400 := n0
      have HB := n1
      clear n0 n1
      refine start_ (n := 10) (S := fun w' => w'.cell? ⟨gb400, 0, none⟩ = some (.int .i64 a0_0) ∧ w'.cell? ⟨gb400, 1, none⟩ = some (.int .i64 a0_1) ∧ w'.cell? ⟨gb400, 2, none⟩ = some (.int .i64 a0_2) ∧ w'.cell? ⟨gb400, 3, none⟩ = some (.int .i64 a0_3) ∧ w'.cell? ⟨gb400, 4, none⟩ = some (.int .i64 a0_4)) (ds := []) (mk_ 10 0) (by kernel_rfl) rfl rfl (bC5_ BK400.out) (fun hHeld => ?_); refine with_tabW impl_StepText.tab5 impl_StepText.bits5 (fun HT_ HW_ => ?_)
      generalize w12.drew = w14 at BK400 HB hHeld ⊢
      refine pU_ 0 (some 10) (mk_ 10 1) ?_
      refine pU_ 5 (some 15) (mk_ 10 33) ?_
      refine tK5_ 1 (some 11) (mk_ 10 35) ?_
      refine tK5_ 6 (some 16) (mk_ 10 99) ?_
      refine oN_ 2 (some 12) (mk_ 10 103) (fun K hK => ?_)
      refine gO_ Tryd.func39 #[.int .i64 a0_1] ?_
      with_reducible refine (impl_reg.calls a0_1 t402 _ A5.out ?sT).mono ?_
      (case sT => exact TabL_ hT HB.out)
      rintro e w15 ⟨rfl, hb⟩
      refine ⟨_, rfl, ?_⟩
      have n0 := aM_ (nB_ BK400.out hb)
      have n1 := aM_ (sT_ HB.out hb)
      clear BK400
      clear HB
      have BK400 := n0
      have HB := n1
      clear n0 n1
      (try clear hb)
      (try clear hb2)
      (try clear hk)
      (try clear hi)
      refine hK.out _ _ (bC5_ BK400.out) (fun hHeld => ?_)
      clear hK K
      refine norm_ (a' := ?_) ?_ ?_
      rotate_left
      ·show Act.put _ (some 12) _ = _
       simp only [pt_, pn_, sI_, s0_, s1_, i64_w, i32_w]
       rfl
      refine pU_ 3 (some 13) (mk_ 10 111) ?_
      refine pU_ 4 (some 14) (mk_ 10 127) ?_
      refine oN_ 7 (some 17) (mk_ 10 255) (fun K hK => ?_)
      refine gO_ Tryd.func40 #[.int .i64 a0_4] ?_
      with_reducible refine (impl_digits.calls a0_4 t403 _ A8.out ?sT).mono ?_
      (case sT => exact TabL_ hT HB.out)
      rintro e w16 ⟨rfl, hb⟩
      refine ⟨_, rfl, ?_⟩
      have n0 := aM_ (nB_ BK400.out hb)
      have n1 := aM_ (sT_ HB.out hb)
      clear BK400
      clear HB
      have BK400 := n0
      have HB := n1
      clear n0 n1
      (try clear hb)
      (try clear hb2)
      (try clear hk)
      (try clear hi)
      refine hK.out _ _ (bC5_ BK400.out) (fun hHeld => ?_)
      clear hK K
      refine norm_ (a' := ?_) ?_ ?_
      rotate_left
      ·show Act.put _ (some 17) _ = _
       simp only [pt_, pn_, sI_, s0_, s1_, i64_w, i32_w]
       rfl
      refine pU_ 8 (some 18) (mk_ 10 511) ?_
      refine pU_ 9 (some 2) (mk_ 10 1023) ?_
      refine done_ (done_of HT_.out (by kernel_rfl)) ?_
      try go_wp2
      go_ret
      exact fI_ HB.out
     ·rw [if_neg c9] at H
      exact absurd H (by simp)
    ·rw [if_neg c7] at H
     exact absurd H (by simp)
   ·rw [if_neg c6] at H
    exact absurd H (by simp)
  ·rw [if_neg c4] at H
   have c4b0 : (a0_0 == 1) = false := beq_eq_false_iff_ne.mpr c4
   have c4b1 : (a0_0 != 1) = true := bne_iff_ne.mpr c4
   by_cases c17 : a0_0 = 2
   ·rw [if_pos c17] at H
    have c17b0 : (a0_0 == 2) = true := beq_iff_eq.mpr c17
    have c17b1 : (a0_0 != 2) = false := bne_eq_false_iff_eq.mpr c17
    clear c17
    replace H := Option.bind_eq_some_iff.mp H
    obtain ⟨t404, A180, H⟩ := H
    replace H : (if 4 + t404.size ≤ 9223372036854775807 then (some ((⟨#[97, 100, 100, 32]⟩ : ByteArray) ++ t404)) else (none)) = some r := H
    have A18 := aM_ A180
    clear A180
    by_cases c19 : 4 + t404.size ≤ 9223372036854775807
    ·rw [if_pos c19] at H
     have c19b0 := eq_true c19
     have c19b1 : decide (4 + t404.size ≤ 9223372036854775807) = true := decide_eq_true c19
     try have c19b2 : (9223372036854775807 < 4 + t404.size) = False := eq_false (Nat.not_lt.2 c19)
     obtain rfl := Option.some.inj H
     go_enter Tryd.func11, Tryd.ntmps11
     go_wp2_with (first | ((with_reducible refine gate_dst (N := 1) rfl ?_); refine bX_ 1 (cs := #[.int .i64 a0_0, .int .i64 a0_1, .int .i64 a0_2, .int .i64 a0_3, .int .i64 a0_4]) (t := 25) ?_; intro gb400 hg w20 hbox hb; have n0 := aM_ (sT_ HB.out hb); have n1 := aM_ (hbox); have n2 := aM_ (sZ_ hg HB.out); have n3 := aM_ (sZ_ hg HB.out); clear HB; have HB := n0; have BK400 := n1; have GW400 := n2; have GE400 := n3; clear n0 n1 n2 n3; clear hb hbox hg; obtain ⟨hcz21_0, hcz21_1, hcz21_2, hcz21_3, hcz21_4, hfz21_0, hfz21_1, hfz21_2, hfz21_3, hfz21_4⟩ := bR5_ BK400.out) | ((with_reducible refine gate_callee (f := 19) rfl ?_); refine gL_ (some 4) Tryd.func19 #[.agg #[.int .i64 a0_0, .int .i64 a0_1, .int .i64 a0_2, .int .i64 a0_3, .int .i64 a0_4], .int .i64 800] ?_; (with_reducible refine (impl_StepOk.calls k a0_0 a0_1 a0_2 a0_3 a0_4 800 true _ A2.out).mono ?_); rintro e w22 ⟨rfl, hb⟩; refine ⟨_, rfl, ?_⟩; have n0 := aM_ (nB_ BK400.out hb); have n1 := aM_ (sT_ HB.out hb); clear BK400; clear HB; have BK400 := n0; have HB := n1; clear n0 n1; obtain ⟨hcz23_0, hcz23_1, hcz23_2, hcz23_3, hcz23_4, hfz23_0, hfz23_1, hfz23_2, hfz23_3, hfz23_4⟩ := bR5_ BK400.out) | ((with_reducible refine gate_callee (f := 41) rfl ?_); refine gL_ (some 22) Tryd.func41 #[.agg #[.int .i64 a0_0, .int .i64 a0_1, .int .i64 a0_2, .int .i64 a0_3, .int .i64 a0_4]] ?_; (with_reducible refine (impl_threeText.calls a0_0 a0_1 a0_2 a0_3 a0_4 t404 _ A18.out ?sT).mono ?_); (case sT => exact TabL_ hT HB.out); rintro e w24 ⟨rfl, hb⟩; refine ⟨_, rfl, ?_⟩; have n0 := aM_ (nB_ BK400.out hb); have n1 := aM_ (sT_ HB.out hb); clear BK400; clear HB; have BK400 := n0; have HB := n1; clear n0 n1))
     go_ret
     exact fI_ HB.out
    ·rw [if_neg c19] at H
     exact absurd H (by simp)
   ·rw [if_neg c17] at H
    have c17b0 : (a0_0 == 2) = false := beq_eq_false_iff_ne.mpr c17
    have c17b1 : (a0_0 != 2) = true := bne_iff_ne.mpr c17
    by_cases c25 : a0_0 = 3
    ·rw [if_pos c25] at H
     have c25b0 : (a0_0 == 3) = true := beq_iff_eq.mpr c25
     have c25b1 : (a0_0 != 3) = false := bne_eq_false_iff_eq.mpr c25
     clear c25
     replace H := Option.bind_eq_some_iff.mp H
     obtain ⟨t405, A260, H⟩ := H
     replace H : (if 4 + t405.size ≤ 9223372036854775807 then (some ((⟨#[115, 117, 98, 32]⟩ : ByteArray) ++ t405)) else (none)) = some r := H
     have A26 := aM_ A260
     clear A260
     by_cases c27 : 4 + t405.size ≤ 9223372036854775807
     ·rw [if_pos c27] at H
      have c27b0 := eq_true c27
      have c27b1 : decide (4 + t405.size ≤ 9223372036854775807) = true := decide_eq_true c27
      try have c27b2 : (9223372036854775807 < 4 + t405.size) = False := eq_false (Nat.not_lt.2 c27)
      obtain rfl := Option.some.inj H
      go_enter Tryd.func11, Tryd.ntmps11
      go_wp2_with (first | ((with_reducible refine gate_dst (N := 1) rfl ?_); refine bX_ 1 (cs := #[.int .i64 a0_0, .int .i64 a0_1, .int .i64 a0_2, .int .i64 a0_3, .int .i64 a0_4]) (t := 25) ?_; intro gb400 hg w28 hbox hb; have n0 := aM_ (sT_ HB.out hb); have n1 := aM_ (hbox); have n2 := aM_ (sZ_ hg HB.out); have n3 := aM_ (sZ_ hg HB.out); clear HB; have HB := n0; have BK400 := n1; have GW400 := n2; have GE400 := n3; clear n0 n1 n2 n3; clear hb hbox hg; obtain ⟨hcz29_0, hcz29_1, hcz29_2, hcz29_3, hcz29_4, hfz29_0, hfz29_1, hfz29_2, hfz29_3, hfz29_4⟩ := bR5_ BK400.out) | ((with_reducible refine gate_callee (f := 19) rfl ?_); refine gL_ (some 4) Tryd.func19 #[.agg #[.int .i64 a0_0, .int .i64 a0_1, .int .i64 a0_2, .int .i64 a0_3, .int .i64 a0_4], .int .i64 800] ?_; (with_reducible refine (impl_StepOk.calls k a0_0 a0_1 a0_2 a0_3 a0_4 800 true _ A2.out).mono ?_); rintro e w30 ⟨rfl, hb⟩; refine ⟨_, rfl, ?_⟩; have n0 := aM_ (nB_ BK400.out hb); have n1 := aM_ (sT_ HB.out hb); clear BK400; clear HB; have BK400 := n0; have HB := n1; clear n0 n1; obtain ⟨hcz31_0, hcz31_1, hcz31_2, hcz31_3, hcz31_4, hfz31_0, hfz31_1, hfz31_2, hfz31_3, hfz31_4⟩ := bR5_ BK400.out) | ((with_reducible refine gate_callee (f := 41) rfl ?_); refine gL_ (some 27) Tryd.func41 #[.agg #[.int .i64 a0_0, .int .i64 a0_1, .int .i64 a0_2, .int .i64 a0_3, .int .i64 a0_4]] ?_; (with_reducible refine (impl_threeText.calls a0_0 a0_1 a0_2 a0_3 a0_4 t405 _ A26.out ?sT).mono ?_); (case sT => exact TabL_ hT HB.out); rintro e w32 ⟨rfl, hb⟩; refine ⟨_, rfl, ?_⟩; have n0 := aM_ (nB_ BK400.out hb); have n1 := aM_ (sT_ HB.out hb); clear BK400; clear HB; have BK400 := n0; have HB := n1; clear n0 n1))
      go_ret
      exact fI_ HB.out
     ·rw [if_neg c27] at H
      exact absurd H (by simp)
    ·rw [if_neg c25] at H
     have c25b0 : (a0_0 == 3) = false := beq_eq_false_iff_ne.mpr c25
     have c25b1 : (a0_0 != 3) = true := bne_iff_ne.mpr c25
     by_cases c33 : a0_0 = 4
     ·rw [if_pos c33] at H
      have c33b0 : (a0_0 == 4) = true := beq_iff_eq.mpr c33
      have c33b1 : (a0_0 != 4) = false := bne_eq_false_iff_eq.mpr c33
      clear c33
      replace H := Option.bind_eq_some_iff.mp H
      obtain ⟨t406, A340, H⟩ := H
      replace H : (if 5 + t406.size ≤ 9223372036854775807 then (some ((⟨#[108, 101, 115, 115, 32]⟩ : ByteArray) ++ t406)) else (none)) = some r := H
      have A34 := aM_ A340
      clear A340
      by_cases c35 : 5 + t406.size ≤ 9223372036854775807
      ·rw [if_pos c35] at H
       have c35b0 := eq_true c35
       have c35b1 : decide (5 + t406.size ≤ 9223372036854775807) = true := decide_eq_true c35
       try have c35b2 : (9223372036854775807 < 5 + t406.size) = False := eq_false (Nat.not_lt.2 c35)
       obtain rfl := Option.some.inj H
       go_enter Tryd.func11, Tryd.ntmps11
       go_wp2_with (first | ((with_reducible refine gate_dst (N := 1) rfl ?_); refine bX_ 1 (cs := #[.int .i64 a0_0, .int .i64 a0_1, .int .i64 a0_2, .int .i64 a0_3, .int .i64 a0_4]) (t := 25) ?_; intro gb400 hg w36 hbox hb; have n0 := aM_ (sT_ HB.out hb); have n1 := aM_ (hbox); have n2 := aM_ (sZ_ hg HB.out); have n3 := aM_ (sZ_ hg HB.out); clear HB; have HB := n0; have BK400 := n1; have GW400 := n2; have GE400 := n3; clear n0 n1 n2 n3; clear hb hbox hg; obtain ⟨hcz37_0, hcz37_1, hcz37_2, hcz37_3, hcz37_4, hfz37_0, hfz37_1, hfz37_2, hfz37_3, hfz37_4⟩ := bR5_ BK400.out) | ((with_reducible refine gate_callee (f := 19) rfl ?_); refine gL_ (some 4) Tryd.func19 #[.agg #[.int .i64 a0_0, .int .i64 a0_1, .int .i64 a0_2, .int .i64 a0_3, .int .i64 a0_4], .int .i64 800] ?_; (with_reducible refine (impl_StepOk.calls k a0_0 a0_1 a0_2 a0_3 a0_4 800 true _ A2.out).mono ?_); rintro e w38 ⟨rfl, hb⟩; refine ⟨_, rfl, ?_⟩; have n0 := aM_ (nB_ BK400.out hb); have n1 := aM_ (sT_ HB.out hb); clear BK400; clear HB; have BK400 := n0; have HB := n1; clear n0 n1; obtain ⟨hcz39_0, hcz39_1, hcz39_2, hcz39_3, hcz39_4, hfz39_0, hfz39_1, hfz39_2, hfz39_3, hfz39_4⟩ := bR5_ BK400.out) | ((with_reducible refine gate_callee (f := 41) rfl ?_); refine gL_ (some 32) Tryd.func41 #[.agg #[.int .i64 a0_0, .int .i64 a0_1, .int .i64 a0_2, .int .i64 a0_3, .int .i64 a0_4]] ?_; (with_reducible refine (impl_threeText.calls a0_0 a0_1 a0_2 a0_3 a0_4 t406 _ A34.out ?sT).mono ?_); (case sT => exact TabL_ hT HB.out); rintro e w40 ⟨rfl, hb⟩; refine ⟨_, rfl, ?_⟩; have n0 := aM_ (nB_ BK400.out hb); have n1 := aM_ (sT_ HB.out hb); clear BK400; clear HB; have BK400 := n0; have HB := n1; clear n0 n1))
       go_ret
       exact fI_ HB.out
      ·rw [if_neg c35] at H
       exact absurd H (by simp)
     ·rw [if_neg c33] at H
      have c33b0 : (a0_0 == 4) = false := beq_eq_false_iff_ne.mpr c33
      have c33b1 : (a0_0 != 4) = true := bne_iff_ne.mpr c33
      by_cases c41 : a0_0 = 5
      ·rw [if_pos c41] at H
       have c41b0 : (a0_0 == 5) = true := beq_iff_eq.mpr c41
       have c41b1 : (a0_0 != 5) = false := bne_eq_false_iff_eq.mpr c41
       clear c41
       replace H := Option.bind_eq_some_iff.mp H
       obtain ⟨t407, A420, H⟩ := H
       replace H : (if 5 + t407.size ≤ 9223372036854775807 then (if ((⟨#[108, 111, 97, 100, 32]⟩ : ByteArray) ++ t407).size + 1 ≤ 9223372036854775807 then ((impl_cellText.f k a0_0 a0_1 a0_2 a0_3 a0_4).bind fun t408 => (if (((⟨#[108, 111, 97, 100, 32]⟩ : ByteArray) ++ t407) ++ (⟨#[32]⟩ : ByteArray)).size + t408.size ≤ 9223372036854775807 then (some ((((⟨#[108, 111, 97, 100, 32]⟩ : ByteArray) ++ t407) ++ (⟨#[32]⟩ : ByteArray)) ++ t408)) else (none))) else (none)) else (none)) = some r := H
       have A42 := aM_ A420
       clear A420
       by_cases c43 : 5 + t407.size ≤ 9223372036854775807
       ·rw [if_pos c43] at H
        have c43b0 := eq_true c43
        have c43b1 : decide (5 + t407.size ≤ 9223372036854775807) = true := decide_eq_true c43
        try have c43b2 : (9223372036854775807 < 5 + t407.size) = False := eq_false (Nat.not_lt.2 c43)
        by_cases c44 : ((⟨#[108, 111, 97, 100, 32]⟩ : ByteArray) ++ t407).size + 1 ≤ 9223372036854775807
        ·rw [if_pos c44] at H
         have c44b0 := eq_true c44
         have c44b1 : decide (((⟨#[108, 111, 97, 100, 32]⟩ : ByteArray) ++ t407).size + 1 ≤ 9223372036854775807) = true := decide_eq_true c44
         (try (have c44n := c44; simp only [ByteArray.size_append, Tab.sz_mk, List.size_toArray, List.length_cons, List.length_nil, Nat.zero_add, Nat.reduceAdd] at c44n; have c44b4 := eq_true c44n; have c44b5 := eq_false (Nat.not_lt.2 c44n)))
         try have c44b2 : (9223372036854775807 < ((⟨#[108, 111, 97, 100, 32]⟩ : ByteArray) ++ t407).size + 1) = False := eq_false (Nat.not_lt.2 c44)
         replace H := Option.bind_eq_some_iff.mp H
         obtain ⟨t408, A450, H⟩ := H
         replace H : (if (((⟨#[108, 111, 97, 100, 32]⟩ : ByteArray) ++ t407) ++ (⟨#[32]⟩ : ByteArray)).size + t408.size ≤ 9223372036854775807 then (some ((((⟨#[108, 111, 97, 100, 32]⟩ : ByteArray) ++ t407) ++ (⟨#[32]⟩ : ByteArray)) ++ t408)) else (none)) = some r := H
         have A45 := aM_ A450
         clear A450
         by_cases c46 : (((⟨#[108, 111, 97, 100, 32]⟩ : ByteArray) ++ t407) ++ (⟨#[32]⟩ : ByteArray)).size + t408.size ≤ 9223372036854775807
         ·rw [if_pos c46] at H
          have c46b0 := eq_true c46
          have c46b1 : decide ((((⟨#[108, 111, 97, 100, 32]⟩ : ByteArray) ++ t407) ++ (⟨#[32]⟩ : ByteArray)).size + t408.size ≤ 9223372036854775807) = true := decide_eq_true c46
          (try (have c46n := c46; simp only [ByteArray.size_append, Tab.sz_mk, List.size_toArray, List.length_cons, List.length_nil, Nat.zero_add, Nat.reduceAdd] at c46n; have c46b4 := eq_true c46n; have c46b5 := eq_false (Nat.not_lt.2 c46n)))
          try have c46b2 : (9223372036854775807 < (((⟨#[108, 111, 97, 100, 32]⟩ : ByteArray) ++ t407) ++ (⟨#[32]⟩ : ByteArray)).size + t408.size) = False := eq_false (Nat.not_lt.2 c46)
          obtain rfl := Option.some.inj H
          go_enter Tryd.func11, Tryd.ntmps11
          try go_wp2_with (first | ((with_reducible refine gate_dst (N := 1) rfl ?_); refine bX_ 1 (cs := #[.int .i64 a0_0, .int .i64 a0_1, .int .i64 a0_2, .int .i64 a0_3, .int .i64 a0_4]) (t := 25) ?_; intro gb400 hg w47 hbox hb; have n0 := aM_ (sT_ HB.out hb); have n1 := aM_ (hbox); have n2 := aM_ (sZ_ hg HB.out); have n3 := aM_ (sZ_ hg HB.out); clear HB; have HB := n0; have BK400 := n1; have GW400 := n2; have GE400 := n3; clear n0 n1 n2 n3; clear hb hbox hg; obtain ⟨hcz48_0, hcz48_1, hcz48_2, hcz48_3, hcz48_4, hfz48_0, hfz48_1, hfz48_2, hfz48_3, hfz48_4⟩ := bR5_ BK400.out) | ((with_reducible refine gate_callee (f := 19) rfl ?_); refine gL_ (some 4) Tryd.func19 #[.agg #[.int .i64 a0_0, .int .i64 a0_1, .int .i64 a0_2, .int .i64 a0_3, .int .i64 a0_4], .int .i64 800] ?_; (with_reducible refine (impl_StepOk.calls k a0_0 a0_1 a0_2 a0_3 a0_4 800 true _ A2.out).mono ?_); rintro e w49 ⟨rfl, hb⟩; refine ⟨_, rfl, ?_⟩; have n0 := aM_ (nB_ BK400.out hb); have n1 := aM_ (sT_ HB.out hb); clear BK400; clear HB; have BK400 := n0; have HB := n1; clear n0 n1; obtain ⟨hcz50_0, hcz50_1, hcz50_2, hcz50_3, hcz50_4, hfz50_0, hfz50_1, hfz50_2, hfz50_3, hfz50_4⟩ := bR5_ BK400.out))
          (all_goals try (exfalso; have e1_ : (⟨#[32]⟩ : ByteArray).size = 1 := rfl; have e2_ : (⟨#[10]⟩ : ByteArray).size = 1 := rfl; simp only [ByteArray.size_append] at c44; omega))
          (all_goals try (exfalso; have e1_ : (⟨#[32]⟩ : ByteArray).size = 1 := rfl; have e2_ : (⟨#[10]⟩ : ByteArray).size = 1 := rfl; simp only [ByteArray.size_append] at c46; omega))
          have n0 := aM_ (blk_drew BK400.out)
          have n1 := aM_ (below_drew1 HB.out)
          clear BK400
          clear HB
          have BK400 := n0
          have HB := n1
          clear n0 n1
          refine start_ (n := 9) (S := fun w' => w'.cell? ⟨gb400, 0, none⟩ = some (.int .i64 a0_0) ∧ w'.cell? ⟨gb400, 1, none⟩ = some (.int .i64 a0_1) ∧ w'.cell? ⟨gb400, 2, none⟩ = some (.int .i64 a0_2) ∧ w'.cell? ⟨gb400, 3, none⟩ = some (.int .i64 a0_3) ∧ w'.cell? ⟨gb400, 4, none⟩ = some (.int .i64 a0_4)) (ds := []) (mk_ 9 0) (by kernel_rfl) rfl rfl (bC5_ BK400.out) (fun hHeld => ?_); refine with_tabW impl_StepText.tab13 impl_StepText.bits13 (fun HT_ HW_ => ?_)
          generalize w49.drew = w51 at BK400 HB hHeld ⊢
          refine pU_ 0 (some 36) (mk_ 9 1) ?_
          refine tK5_ 1 (some 37) (mk_ 9 3) ?_
          refine tK5_ 5 (some 41) (mk_ 9 35) ?_
          refine oN_ 2 (some 38) (mk_ 9 39) (fun K hK => ?_)
          refine gO_ Tryd.func39 #[.int .i64 a0_1] ?_
          with_reducible refine (impl_reg.calls a0_1 t407 _ A42.out ?sT).mono ?_
          (case sT => exact TabL_ hT HB.out)
          rintro e w52 ⟨rfl, hb⟩
          refine ⟨_, rfl, ?_⟩
          have n0 := aM_ (nB_ BK400.out hb)
          have n1 := aM_ (sT_ HB.out hb)
          clear BK400
          clear HB
          have BK400 := n0
          have HB := n1
          clear n0 n1
          (try clear hb)
          (try clear hb2)
          (try clear hk)
          (try clear hi)
          refine hK.out _ _ (bC5_ BK400.out) (fun hHeld => ?_)
          clear hK K
          refine norm_ (a' := ?_) ?_ ?_
          rotate_left
          ·show Act.put _ (some 38) _ = _
           simp only [pt_, pn_, sI_, s0_, s1_, i64_w, i32_w]
           rfl
          refine pU_ 3 (some 39) (mk_ 9 47) ?_
          refine pU_ 4 (some 40) (mk_ 9 63) ?_
          refine oN_ 6 (some 42) (mk_ 9 127) (fun K hK => ?_)
          refine gO_ Tryd.func42 #[.agg #[.int .i64 a0_0, .int .i64 a0_1, .int .i64 a0_2, .int .i64 a0_3, .int .i64 a0_4]] ?_
          with_reducible refine (impl_cellText.calls k a0_0 a0_1 a0_2 a0_3 a0_4 t408 _ A45.out ?sT).mono ?_
          (case sT => exact TabL_ hT HB.out)
          rintro e w53 ⟨rfl, hb⟩
          refine ⟨_, rfl, ?_⟩
          have n0 := aM_ (nB_ BK400.out hb)
          have n1 := aM_ (sT_ HB.out hb)
          clear BK400
          clear HB
          have BK400 := n0
          have HB := n1
          clear n0 n1
          (try clear hb)
          (try clear hb2)
          (try clear hk)
          (try clear hi)
          refine hK.out _ _ (bC5_ BK400.out) (fun hHeld => ?_)
          clear hK K
          refine norm_ (a' := ?_) ?_ ?_
          rotate_left
          ·show Act.put _ (some 42) _ = _
           simp only [pt_, pn_, sI_, s0_, s1_, i64_w, i32_w]
           rfl
          refine pU_ 7 (some 43) (mk_ 9 255) ?_
          refine pU_ 8 (some 2) (mk_ 9 511) ?_
          refine done_ (done_of HT_.out (by kernel_rfl)) ?_
          try go_wp2
          go_ret
          exact fI_ HB.out
         ·rw [if_neg c46] at H
          exact absurd H (by simp)
        ·rw [if_neg c44] at H
         exact absurd H (by simp)
       ·rw [if_neg c43] at H
        exact absurd H (by simp)
      ·rw [if_neg c41] at H
       have c41b0 : (a0_0 == 5) = false := beq_eq_false_iff_ne.mpr c41
       have c41b1 : (a0_0 != 5) = true := bne_iff_ne.mpr c41
       by_cases c54 : a0_0 = 6
       ·rw [if_pos c54] at H
        have c54b0 : (a0_0 == 6) = true := beq_iff_eq.mpr c54
        have c54b1 : (a0_0 != 6) = false := bne_eq_false_iff_eq.mpr c54
        clear c54
        replace H := Option.bind_eq_some_iff.mp H
        obtain ⟨t409, A550, H⟩ := H
        replace H : (if 6 + t409.size ≤ 9223372036854775807 then (if ((⟨#[115, 116, 111, 114, 101, 32]⟩ : ByteArray) ++ t409).size + 1 ≤ 9223372036854775807 then ((impl_reg.f a0_3).bind fun t410 => (if (((⟨#[115, 116, 111, 114, 101, 32]⟩ : ByteArray) ++ t409) ++ (⟨#[32]⟩ : ByteArray)).size + t410.size ≤ 9223372036854775807 then (some ((((⟨#[115, 116, 111, 114, 101, 32]⟩ : ByteArray) ++ t409) ++ (⟨#[32]⟩ : ByteArray)) ++ t410)) else (none))) else (none)) else (none)) = some r := H
        have A55 := aM_ A550
        clear A550
        by_cases c56 : 6 + t409.size ≤ 9223372036854775807
        ·rw [if_pos c56] at H
         have c56b0 := eq_true c56
         have c56b1 : decide (6 + t409.size ≤ 9223372036854775807) = true := decide_eq_true c56
         try have c56b2 : (9223372036854775807 < 6 + t409.size) = False := eq_false (Nat.not_lt.2 c56)
         by_cases c57 : ((⟨#[115, 116, 111, 114, 101, 32]⟩ : ByteArray) ++ t409).size + 1 ≤ 9223372036854775807
         ·rw [if_pos c57] at H
          have c57b0 := eq_true c57
          have c57b1 : decide (((⟨#[115, 116, 111, 114, 101, 32]⟩ : ByteArray) ++ t409).size + 1 ≤ 9223372036854775807) = true := decide_eq_true c57
          (try (have c57n := c57; simp only [ByteArray.size_append, Tab.sz_mk, List.size_toArray, List.length_cons, List.length_nil, Nat.zero_add, Nat.reduceAdd] at c57n; have c57b4 := eq_true c57n; have c57b5 := eq_false (Nat.not_lt.2 c57n)))
          try have c57b2 : (9223372036854775807 < ((⟨#[115, 116, 111, 114, 101, 32]⟩ : ByteArray) ++ t409).size + 1) = False := eq_false (Nat.not_lt.2 c57)
          replace H := Option.bind_eq_some_iff.mp H
          obtain ⟨t410, A580, H⟩ := H
          replace H : (if (((⟨#[115, 116, 111, 114, 101, 32]⟩ : ByteArray) ++ t409) ++ (⟨#[32]⟩ : ByteArray)).size + t410.size ≤ 9223372036854775807 then (some ((((⟨#[115, 116, 111, 114, 101, 32]⟩ : ByteArray) ++ t409) ++ (⟨#[32]⟩ : ByteArray)) ++ t410)) else (none)) = some r := H
          have A58 := aM_ A580
          clear A580
          by_cases c59 : (((⟨#[115, 116, 111, 114, 101, 32]⟩ : ByteArray) ++ t409) ++ (⟨#[32]⟩ : ByteArray)).size + t410.size ≤ 9223372036854775807
          ·rw [if_pos c59] at H
           have c59b0 := eq_true c59
           have c59b1 : decide ((((⟨#[115, 116, 111, 114, 101, 32]⟩ : ByteArray) ++ t409) ++ (⟨#[32]⟩ : ByteArray)).size + t410.size ≤ 9223372036854775807) = true := decide_eq_true c59
           (try (have c59n := c59; simp only [ByteArray.size_append, Tab.sz_mk, List.size_toArray, List.length_cons, List.length_nil, Nat.zero_add, Nat.reduceAdd] at c59n; have c59b4 := eq_true c59n; have c59b5 := eq_false (Nat.not_lt.2 c59n)))
           try have c59b2 : (9223372036854775807 < (((⟨#[115, 116, 111, 114, 101, 32]⟩ : ByteArray) ++ t409) ++ (⟨#[32]⟩ : ByteArray)).size + t410.size) = False := eq_false (Nat.not_lt.2 c59)
           obtain rfl := Option.some.inj H
           go_enter Tryd.func11, Tryd.ntmps11
           try go_wp2_with (first | ((with_reducible refine gate_dst (N := 1) rfl ?_); refine bX_ 1 (cs := #[.int .i64 a0_0, .int .i64 a0_1, .int .i64 a0_2, .int .i64 a0_3, .int .i64 a0_4]) (t := 25) ?_; intro gb400 hg w60 hbox hb; have n0 := aM_ (sT_ HB.out hb); have n1 := aM_ (hbox); have n2 := aM_ (sZ_ hg HB.out); have n3 := aM_ (sZ_ hg HB.out); clear HB; have HB := n0; have BK400 := n1; have GW400 := n2; have GE400 := n3; clear n0 n1 n2 n3; clear hb hbox hg; obtain ⟨hcz61_0, hcz61_1, hcz61_2, hcz61_3, hcz61_4, hfz61_0, hfz61_1, hfz61_2, hfz61_3, hfz61_4⟩ := bR5_ BK400.out) | ((with_reducible refine gate_callee (f := 19) rfl ?_); refine gL_ (some 4) Tryd.func19 #[.agg #[.int .i64 a0_0, .int .i64 a0_1, .int .i64 a0_2, .int .i64 a0_3, .int .i64 a0_4], .int .i64 800] ?_; (with_reducible refine (impl_StepOk.calls k a0_0 a0_1 a0_2 a0_3 a0_4 800 true _ A2.out).mono ?_); rintro e w62 ⟨rfl, hb⟩; refine ⟨_, rfl, ?_⟩; have n0 := aM_ (nB_ BK400.out hb); have n1 := aM_ (sT_ HB.out hb); clear BK400; clear HB; have BK400 := n0; have HB := n1; clear n0 n1; obtain ⟨hcz63_0, hcz63_1, hcz63_2, hcz63_3, hcz63_4, hfz63_0, hfz63_1, hfz63_2, hfz63_3, hfz63_4⟩ := bR5_ BK400.out))
           (all_goals try (exfalso; have e1_ : (⟨#[32]⟩ : ByteArray).size = 1 := rfl; have e2_ : (⟨#[10]⟩ : ByteArray).size = 1 := rfl; simp only [ByteArray.size_append] at c57; omega))
           (all_goals try (exfalso; have e1_ : (⟨#[32]⟩ : ByteArray).size = 1 := rfl; have e2_ : (⟨#[10]⟩ : ByteArray).size = 1 := rfl; simp only [ByteArray.size_append] at c59; omega))
           have n0 := aM_ (blk_drew BK400.out)
           have n1 := aM_ (below_drew1 HB.out)
           clear BK400
           clear HB
           have BK400 := n0
           have HB := n1
           clear n0 n1
           refine start_ (n := 9) (S := fun w' => w'.cell? ⟨gb400, 0, none⟩ = some (.int .i64 a0_0) ∧ w'.cell? ⟨gb400, 1, none⟩ = some (.int .i64 a0_1) ∧ w'.cell? ⟨gb400, 2, none⟩ = some (.int .i64 a0_2) ∧ w'.cell? ⟨gb400, 3, none⟩ = some (.int .i64 a0_3) ∧ w'.cell? ⟨gb400, 4, none⟩ = some (.int .i64 a0_4)) (ds := []) (mk_ 9 0) (by kernel_rfl) rfl rfl (bC5_ BK400.out) (fun hHeld => ?_); refine with_tabW impl_StepText.tab15 impl_StepText.bits15 (fun HT_ HW_ => ?_)
           generalize w62.drew = w64 at BK400 HB hHeld ⊢
           refine pU_ 4 (some 50) (mk_ 9 16) ?_
           refine tK5_ 0 (some 46) (mk_ 9 17) ?_
           refine tK5_ 5 (some 51) (mk_ 9 49) ?_
           refine oN_ 1 (some 47) (mk_ 9 51) (fun K hK => ?_)
           refine gO_ Tryd.func42 #[.agg #[.int .i64 a0_0, .int .i64 a0_1, .int .i64 a0_2, .int .i64 a0_3, .int .i64 a0_4]] ?_
           with_reducible refine (impl_cellText.calls k a0_0 a0_1 a0_2 a0_3 a0_4 t409 _ A55.out ?sT).mono ?_
           (case sT => exact TabL_ hT HB.out)
           rintro e w65 ⟨rfl, hb⟩
           refine ⟨_, rfl, ?_⟩
           have n0 := aM_ (nB_ BK400.out hb)
           have n1 := aM_ (sT_ HB.out hb)
           clear BK400
           clear HB
           have BK400 := n0
           have HB := n1
           clear n0 n1
           (try clear hb)
           (try clear hb2)
           (try clear hk)
           (try clear hi)
           refine hK.out _ _ (bC5_ BK400.out) (fun hHeld => ?_)
           clear hK K
           refine norm_ (a' := ?_) ?_ ?_
           rotate_left
           ·show Act.put _ (some 47) _ = _
            simp only [pt_, pn_, sI_, s0_, s1_, i64_w, i32_w]
            rfl
           refine pU_ 2 (some 48) (mk_ 9 55) ?_
           refine pU_ 3 (some 49) (mk_ 9 63) ?_
           refine oN_ 6 (some 52) (mk_ 9 127) (fun K hK => ?_)
           refine gO_ Tryd.func39 #[.int .i64 a0_3] ?_
           with_reducible refine (impl_reg.calls a0_3 t410 _ A58.out ?sT).mono ?_
           (case sT => exact TabL_ hT HB.out)
           rintro e w66 ⟨rfl, hb⟩
           refine ⟨_, rfl, ?_⟩
           have n0 := aM_ (nB_ BK400.out hb)
           have n1 := aM_ (sT_ HB.out hb)
           clear BK400
           clear HB
           have BK400 := n0
           have HB := n1
           clear n0 n1
           (try clear hb)
           (try clear hb2)
           (try clear hk)
           (try clear hi)
           refine hK.out _ _ (bC5_ BK400.out) (fun hHeld => ?_)
           clear hK K
           refine norm_ (a' := ?_) ?_ ?_
           rotate_left
           ·show Act.put _ (some 52) _ = _
            simp only [pt_, pn_, sI_, s0_, s1_, i64_w, i32_w]
            rfl
           refine pU_ 7 (some 53) (mk_ 9 255) ?_
           refine pU_ 8 (some 2) (mk_ 9 511) ?_
           refine done_ (done_of HT_.out (by kernel_rfl)) ?_
           try go_wp2
           go_ret
           exact fI_ HB.out
          ·rw [if_neg c59] at H
           exact absurd H (by simp)
         ·rw [if_neg c57] at H
          exact absurd H (by simp)
        ·rw [if_neg c56] at H
         exact absurd H (by simp)
       ·rw [if_neg c54] at H
        have c54b0 : (a0_0 == 6) = false := beq_eq_false_iff_ne.mpr c54
        have c54b1 : (a0_0 != 6) = true := bne_iff_ne.mpr c54
        by_cases c67 : a0_0 = 7
        ·rw [if_pos c67] at H
         have c67b0 : (a0_0 == 7) = true := beq_iff_eq.mpr c67
         have c67b1 : (a0_0 != 7) = false := bne_eq_false_iff_eq.mpr c67
         clear c67
         replace H := Option.bind_eq_some_iff.mp H
         obtain ⟨t411, A680, H⟩ := H
         replace H : (if 4 + t411.size ≤ 9223372036854775807 then (if ((⟨#[108, 101, 116, 32]⟩ : ByteArray) ++ t411).size + 1 ≤ 9223372036854775807 then ((impl_reg.f a0_3).bind fun t412 => (if (((⟨#[108, 101, 116, 32]⟩ : ByteArray) ++ t411) ++ (⟨#[32]⟩ : ByteArray)).size + t412.size ≤ 9223372036854775807 then (some ((((⟨#[108, 101, 116, 32]⟩ : ByteArray) ++ t411) ++ (⟨#[32]⟩ : ByteArray)) ++ t412)) else (none))) else (none)) else (none)) = some r := H
         have A68 := aM_ A680
         clear A680
         by_cases c69 : 4 + t411.size ≤ 9223372036854775807
         ·rw [if_pos c69] at H
          have c69b0 := eq_true c69
          have c69b1 : decide (4 + t411.size ≤ 9223372036854775807) = true := decide_eq_true c69
          try have c69b2 : (9223372036854775807 < 4 + t411.size) = False := eq_false (Nat.not_lt.2 c69)
          by_cases c70 : ((⟨#[108, 101, 116, 32]⟩ : ByteArray) ++ t411).size + 1 ≤ 9223372036854775807
          ·rw [if_pos c70] at H
           have c70b0 := eq_true c70
           have c70b1 : decide (((⟨#[108, 101, 116, 32]⟩ : ByteArray) ++ t411).size + 1 ≤ 9223372036854775807) = true := decide_eq_true c70
           (try (have c70n := c70; simp only [ByteArray.size_append, Tab.sz_mk, List.size_toArray, List.length_cons, List.length_nil, Nat.zero_add, Nat.reduceAdd] at c70n; have c70b4 := eq_true c70n; have c70b5 := eq_false (Nat.not_lt.2 c70n)))
           try have c70b2 : (9223372036854775807 < ((⟨#[108, 101, 116, 32]⟩ : ByteArray) ++ t411).size + 1) = False := eq_false (Nat.not_lt.2 c70)
           replace H := Option.bind_eq_some_iff.mp H
           obtain ⟨t412, A710, H⟩ := H
           replace H : (if (((⟨#[108, 101, 116, 32]⟩ : ByteArray) ++ t411) ++ (⟨#[32]⟩ : ByteArray)).size + t412.size ≤ 9223372036854775807 then (some ((((⟨#[108, 101, 116, 32]⟩ : ByteArray) ++ t411) ++ (⟨#[32]⟩ : ByteArray)) ++ t412)) else (none)) = some r := H
           have A71 := aM_ A710
           clear A710
           by_cases c72 : (((⟨#[108, 101, 116, 32]⟩ : ByteArray) ++ t411) ++ (⟨#[32]⟩ : ByteArray)).size + t412.size ≤ 9223372036854775807
           ·rw [if_pos c72] at H
            have c72b0 := eq_true c72
            have c72b1 : decide ((((⟨#[108, 101, 116, 32]⟩ : ByteArray) ++ t411) ++ (⟨#[32]⟩ : ByteArray)).size + t412.size ≤ 9223372036854775807) = true := decide_eq_true c72
            (try (have c72n := c72; simp only [ByteArray.size_append, Tab.sz_mk, List.size_toArray, List.length_cons, List.length_nil, Nat.zero_add, Nat.reduceAdd] at c72n; have c72b4 := eq_true c72n; have c72b5 := eq_false (Nat.not_lt.2 c72n)))
            try have c72b2 : (9223372036854775807 < (((⟨#[108, 101, 116, 32]⟩ : ByteArray) ++ t411) ++ (⟨#[32]⟩ : ByteArray)).size + t412.size) = False := eq_false (Nat.not_lt.2 c72)
            obtain rfl := Option.some.inj H
            go_enter Tryd.func11, Tryd.ntmps11
            try go_wp2_with (first | ((with_reducible refine gate_dst (N := 1) rfl ?_); refine bX_ 1 (cs := #[.int .i64 a0_0, .int .i64 a0_1, .int .i64 a0_2, .int .i64 a0_3, .int .i64 a0_4]) (t := 25) ?_; intro gb400 hg w73 hbox hb; have n0 := aM_ (sT_ HB.out hb); have n1 := aM_ (hbox); have n2 := aM_ (sZ_ hg HB.out); have n3 := aM_ (sZ_ hg HB.out); clear HB; have HB := n0; have BK400 := n1; have GW400 := n2; have GE400 := n3; clear n0 n1 n2 n3; clear hb hbox hg; obtain ⟨hcz74_0, hcz74_1, hcz74_2, hcz74_3, hcz74_4, hfz74_0, hfz74_1, hfz74_2, hfz74_3, hfz74_4⟩ := bR5_ BK400.out) | ((with_reducible refine gate_callee (f := 19) rfl ?_); refine gL_ (some 4) Tryd.func19 #[.agg #[.int .i64 a0_0, .int .i64 a0_1, .int .i64 a0_2, .int .i64 a0_3, .int .i64 a0_4], .int .i64 800] ?_; (with_reducible refine (impl_StepOk.calls k a0_0 a0_1 a0_2 a0_3 a0_4 800 true _ A2.out).mono ?_); rintro e w75 ⟨rfl, hb⟩; refine ⟨_, rfl, ?_⟩; have n0 := aM_ (nB_ BK400.out hb); have n1 := aM_ (sT_ HB.out hb); clear BK400; clear HB; have BK400 := n0; have HB := n1; clear n0 n1; obtain ⟨hcz76_0, hcz76_1, hcz76_2, hcz76_3, hcz76_4, hfz76_0, hfz76_1, hfz76_2, hfz76_3, hfz76_4⟩ := bR5_ BK400.out))
            (all_goals try (exfalso; have e1_ : (⟨#[32]⟩ : ByteArray).size = 1 := rfl; have e2_ : (⟨#[10]⟩ : ByteArray).size = 1 := rfl; simp only [ByteArray.size_append] at c70; omega))
            (all_goals try (exfalso; have e1_ : (⟨#[32]⟩ : ByteArray).size = 1 := rfl; have e2_ : (⟨#[10]⟩ : ByteArray).size = 1 := rfl; simp only [ByteArray.size_append] at c72; omega))
            have n0 := aM_ (blk_drew BK400.out)
            have n1 := aM_ (below_drew1 HB.out)
            clear BK400
            clear HB
            have BK400 := n0
            have HB := n1
            clear n0 n1
            refine start_ (n := 9) (S := fun w' => w'.cell? ⟨gb400, 0, none⟩ = some (.int .i64 a0_0) ∧ w'.cell? ⟨gb400, 1, none⟩ = some (.int .i64 a0_1) ∧ w'.cell? ⟨gb400, 2, none⟩ = some (.int .i64 a0_2) ∧ w'.cell? ⟨gb400, 3, none⟩ = some (.int .i64 a0_3) ∧ w'.cell? ⟨gb400, 4, none⟩ = some (.int .i64 a0_4)) (ds := []) (mk_ 9 0) (by kernel_rfl) rfl rfl (bC5_ BK400.out) (fun hHeld => ?_); refine with_tabW impl_StepText.tab17 impl_StepText.bits17 (fun HT_ HW_ => ?_)
            generalize w75.drew = w77 at BK400 HB hHeld ⊢
            refine pU_ 4 (some 60) (mk_ 9 16) ?_
            refine tK5_ 0 (some 56) (mk_ 9 17) ?_
            refine tK5_ 5 (some 61) (mk_ 9 49) ?_
            refine oN_ 1 (some 57) (mk_ 9 51) (fun K hK => ?_)
            refine gO_ Tryd.func42 #[.agg #[.int .i64 a0_0, .int .i64 a0_1, .int .i64 a0_2, .int .i64 a0_3, .int .i64 a0_4]] ?_
            with_reducible refine (impl_cellText.calls k a0_0 a0_1 a0_2 a0_3 a0_4 t411 _ A68.out ?sT).mono ?_
            (case sT => exact TabL_ hT HB.out)
            rintro e w78 ⟨rfl, hb⟩
            refine ⟨_, rfl, ?_⟩
            have n0 := aM_ (nB_ BK400.out hb)
            have n1 := aM_ (sT_ HB.out hb)
            clear BK400
            clear HB
            have BK400 := n0
            have HB := n1
            clear n0 n1
            (try clear hb)
            (try clear hb2)
            (try clear hk)
            (try clear hi)
            refine hK.out _ _ (bC5_ BK400.out) (fun hHeld => ?_)
            clear hK K
            refine norm_ (a' := ?_) ?_ ?_
            rotate_left
            ·show Act.put _ (some 57) _ = _
             simp only [pt_, pn_, sI_, s0_, s1_, i64_w, i32_w]
             rfl
            refine pU_ 2 (some 58) (mk_ 9 55) ?_
            refine pU_ 3 (some 59) (mk_ 9 63) ?_
            refine oN_ 6 (some 62) (mk_ 9 127) (fun K hK => ?_)
            refine gO_ Tryd.func39 #[.int .i64 a0_3] ?_
            with_reducible refine (impl_reg.calls a0_3 t412 _ A71.out ?sT).mono ?_
            (case sT => exact TabL_ hT HB.out)
            rintro e w79 ⟨rfl, hb⟩
            refine ⟨_, rfl, ?_⟩
            have n0 := aM_ (nB_ BK400.out hb)
            have n1 := aM_ (sT_ HB.out hb)
            clear BK400
            clear HB
            have BK400 := n0
            have HB := n1
            clear n0 n1
            (try clear hb)
            (try clear hb2)
            (try clear hk)
            (try clear hi)
            refine hK.out _ _ (bC5_ BK400.out) (fun hHeld => ?_)
            clear hK K
            refine norm_ (a' := ?_) ?_ ?_
            rotate_left
            ·show Act.put _ (some 62) _ = _
             simp only [pt_, pn_, sI_, s0_, s1_, i64_w, i32_w]
             rfl
            refine pU_ 7 (some 63) (mk_ 9 255) ?_
            refine pU_ 8 (some 2) (mk_ 9 511) ?_
            refine done_ (done_of HT_.out (by kernel_rfl)) ?_
            try go_wp2
            go_ret
            exact fI_ HB.out
           ·rw [if_neg c72] at H
            exact absurd H (by simp)
          ·rw [if_neg c70] at H
           exact absurd H (by simp)
         ·rw [if_neg c69] at H
          exact absurd H (by simp)
        ·rw [if_neg c67] at H
         have c67b0 : (a0_0 == 7) = false := beq_eq_false_iff_ne.mpr c67
         have c67b1 : (a0_0 != 7) = true := bne_iff_ne.mpr c67
         by_cases c80 : a0_0 = 8
         ·rw [if_pos c80] at H
          have c80b0 : (a0_0 == 8) = true := beq_iff_eq.mpr c80
          have c80b1 : (a0_0 != 8) = false := bne_eq_false_iff_eq.mpr c80
          clear c80
          replace H := Option.bind_eq_some_iff.mp H
          obtain ⟨t413, A810, H⟩ := H
          replace H : (if 5 + t413.size ≤ 9223372036854775807 then (if ((⟨#[115, 119, 97, 112, 32]⟩ : ByteArray) ++ t413).size + 1 ≤ 9223372036854775807 then ((impl_cellText.f k a0_0 a0_1 a0_2 a0_3 a0_4).bind fun t414 => (if (((⟨#[115, 119, 97, 112, 32]⟩ : ByteArray) ++ t413) ++ (⟨#[32]⟩ : ByteArray)).size + t414.size ≤ 9223372036854775807 then (if ((((⟨#[115, 119, 97, 112, 32]⟩ : ByteArray) ++ t413) ++ (⟨#[32]⟩ : ByteArray)) ++ t414).size + 1 ≤ 9223372036854775807 then ((impl_reg.f a0_3).bind fun t415 => (if (((((⟨#[115, 119, 97, 112, 32]⟩ : ByteArray) ++ t413) ++ (⟨#[32]⟩ : ByteArray)) ++ t414) ++ (⟨#[32]⟩ : ByteArray)).size + t415.size ≤ 9223372036854775807 then (some ((((((⟨#[115, 119, 97, 112, 32]⟩ : ByteArray) ++ t413) ++ (⟨#[32]⟩ : ByteArray)) ++ t414) ++ (⟨#[32]⟩ : ByteArray)) ++ t415)) else (none))) else (none)) else (none))) else (none)) else (none)) = some r := H
          have A81 := aM_ A810
          clear A810
          by_cases c82 : 5 + t413.size ≤ 9223372036854775807
          ·rw [if_pos c82] at H
           have c82b0 := eq_true c82
           have c82b1 : decide (5 + t413.size ≤ 9223372036854775807) = true := decide_eq_true c82
           try have c82b2 : (9223372036854775807 < 5 + t413.size) = False := eq_false (Nat.not_lt.2 c82)
           by_cases c83 : ((⟨#[115, 119, 97, 112, 32]⟩ : ByteArray) ++ t413).size + 1 ≤ 9223372036854775807
           ·rw [if_pos c83] at H
            have c83b0 := eq_true c83
            have c83b1 : decide (((⟨#[115, 119, 97, 112, 32]⟩ : ByteArray) ++ t413).size + 1 ≤ 9223372036854775807) = true := decide_eq_true c83
            (try (have c83n := c83; simp only [ByteArray.size_append, Tab.sz_mk, List.size_toArray, List.length_cons, List.length_nil, Nat.zero_add, Nat.reduceAdd] at c83n; have c83b4 := eq_true c83n; have c83b5 := eq_false (Nat.not_lt.2 c83n)))
            try have c83b2 : (9223372036854775807 < ((⟨#[115, 119, 97, 112, 32]⟩ : ByteArray) ++ t413).size + 1) = False := eq_false (Nat.not_lt.2 c83)
            replace H := Option.bind_eq_some_iff.mp H
            obtain ⟨t414, A840, H⟩ := H
            replace H : (if (((⟨#[115, 119, 97, 112, 32]⟩ : ByteArray) ++ t413) ++ (⟨#[32]⟩ : ByteArray)).size + t414.size ≤ 9223372036854775807 then (if ((((⟨#[115, 119, 97, 112, 32]⟩ : ByteArray) ++ t413) ++ (⟨#[32]⟩ : ByteArray)) ++ t414).size + 1 ≤ 9223372036854775807 then ((impl_reg.f a0_3).bind fun t415 => (if (((((⟨#[115, 119, 97, 112, 32]⟩ : ByteArray) ++ t413) ++ (⟨#[32]⟩ : ByteArray)) ++ t414) ++ (⟨#[32]⟩ : ByteArray)).size + t415.size ≤ 9223372036854775807 then (some ((((((⟨#[115, 119, 97, 112, 32]⟩ : ByteArray) ++ t413) ++ (⟨#[32]⟩ : ByteArray)) ++ t414) ++ (⟨#[32]⟩ : ByteArray)) ++ t415)) else (none))) else (none)) else (none)) = some r := H
            have A84 := aM_ A840
            clear A840
            by_cases c85 : (((⟨#[115, 119, 97, 112, 32]⟩ : ByteArray) ++ t413) ++ (⟨#[32]⟩ : ByteArray)).size + t414.size ≤ 9223372036854775807
            ·rw [if_pos c85] at H
             have c85b0 := eq_true c85
             have c85b1 : decide ((((⟨#[115, 119, 97, 112, 32]⟩ : ByteArray) ++ t413) ++ (⟨#[32]⟩ : ByteArray)).size + t414.size ≤ 9223372036854775807) = true := decide_eq_true c85
             (try (have c85n := c85; simp only [ByteArray.size_append, Tab.sz_mk, List.size_toArray, List.length_cons, List.length_nil, Nat.zero_add, Nat.reduceAdd] at c85n; have c85b4 := eq_true c85n; have c85b5 := eq_false (Nat.not_lt.2 c85n)))
             try have c85b2 : (9223372036854775807 < (((⟨#[115, 119, 97, 112, 32]⟩ : ByteArray) ++ t413) ++ (⟨#[32]⟩ : ByteArray)).size + t414.size) = False := eq_false (Nat.not_lt.2 c85)
             by_cases c86 : ((((⟨#[115, 119, 97, 112, 32]⟩ : ByteArray) ++ t413) ++ (⟨#[32]⟩ : ByteArray)) ++ t414).size + 1 ≤ 9223372036854775807
             ·rw [if_pos c86] at H
              have c86b0 := eq_true c86
              have c86b1 : decide (((((⟨#[115, 119, 97, 112, 32]⟩ : ByteArray) ++ t413) ++ (⟨#[32]⟩ : ByteArray)) ++ t414).size + 1 ≤ 9223372036854775807) = true := decide_eq_true c86
              (try (have c86n := c86; simp only [ByteArray.size_append, Tab.sz_mk, List.size_toArray, List.length_cons, List.length_nil, Nat.zero_add, Nat.reduceAdd] at c86n; have c86b4 := eq_true c86n; have c86b5 := eq_false (Nat.not_lt.2 c86n)))
              try have c86b2 : (9223372036854775807 < ((((⟨#[115, 119, 97, 112, 32]⟩ : ByteArray) ++ t413) ++ (⟨#[32]⟩ : ByteArray)) ++ t414).size + 1) = False := eq_false (Nat.not_lt.2 c86)
              replace H := Option.bind_eq_some_iff.mp H
              obtain ⟨t415, A870, H⟩ := H
              replace H : (if (((((⟨#[115, 119, 97, 112, 32]⟩ : ByteArray) ++ t413) ++ (⟨#[32]⟩ : ByteArray)) ++ t414) ++ (⟨#[32]⟩ : ByteArray)).size + t415.size ≤ 9223372036854775807 then (some ((((((⟨#[115, 119, 97, 112, 32]⟩ : ByteArray) ++ t413) ++ (⟨#[32]⟩ : ByteArray)) ++ t414) ++ (⟨#[32]⟩ : ByteArray)) ++ t415)) else (none)) = some r := H
              have A87 := aM_ A870
              clear A870
              by_cases c88 : (((((⟨#[115, 119, 97, 112, 32]⟩ : ByteArray) ++ t413) ++ (⟨#[32]⟩ : ByteArray)) ++ t414) ++ (⟨#[32]⟩ : ByteArray)).size + t415.size ≤ 9223372036854775807
              ·rw [if_pos c88] at H
               have c88b0 := eq_true c88
               have c88b1 : decide ((((((⟨#[115, 119, 97, 112, 32]⟩ : ByteArray) ++ t413) ++ (⟨#[32]⟩ : ByteArray)) ++ t414) ++ (⟨#[32]⟩ : ByteArray)).size + t415.size ≤ 9223372036854775807) = true := decide_eq_true c88
               (try (have c88n := c88; simp only [ByteArray.size_append, Tab.sz_mk, List.size_toArray, List.length_cons, List.length_nil, Nat.zero_add, Nat.reduceAdd] at c88n; have c88b4 := eq_true c88n; have c88b5 := eq_false (Nat.not_lt.2 c88n)))
               try have c88b2 : (9223372036854775807 < (((((⟨#[115, 119, 97, 112, 32]⟩ : ByteArray) ++ t413) ++ (⟨#[32]⟩ : ByteArray)) ++ t414) ++ (⟨#[32]⟩ : ByteArray)).size + t415.size) = False := eq_false (Nat.not_lt.2 c88)
               obtain rfl := Option.some.inj H
               go_enter Tryd.func11, Tryd.ntmps11
               try go_wp2_with (first | ((with_reducible refine gate_dst (N := 1) rfl ?_); refine bX_ 1 (cs := #[.int .i64 a0_0, .int .i64 a0_1, .int .i64 a0_2, .int .i64 a0_3, .int .i64 a0_4]) (t := 25) ?_; intro gb400 hg w89 hbox hb; have n0 := aM_ (sT_ HB.out hb); have n1 := aM_ (hbox); have n2 := aM_ (sZ_ hg HB.out); have n3 := aM_ (sZ_ hg HB.out); clear HB; have HB := n0; have BK400 := n1; have GW400 := n2; have GE400 := n3; clear n0 n1 n2 n3; clear hb hbox hg; obtain ⟨hcz90_0, hcz90_1, hcz90_2, hcz90_3, hcz90_4, hfz90_0, hfz90_1, hfz90_2, hfz90_3, hfz90_4⟩ := bR5_ BK400.out) | ((with_reducible refine gate_callee (f := 19) rfl ?_); refine gL_ (some 4) Tryd.func19 #[.agg #[.int .i64 a0_0, .int .i64 a0_1, .int .i64 a0_2, .int .i64 a0_3, .int .i64 a0_4], .int .i64 800] ?_; (with_reducible refine (impl_StepOk.calls k a0_0 a0_1 a0_2 a0_3 a0_4 800 true _ A2.out).mono ?_); rintro e w91 ⟨rfl, hb⟩; refine ⟨_, rfl, ?_⟩; have n0 := aM_ (nB_ BK400.out hb); have n1 := aM_ (sT_ HB.out hb); clear BK400; clear HB; have BK400 := n0; have HB := n1; clear n0 n1; obtain ⟨hcz92_0, hcz92_1, hcz92_2, hcz92_3, hcz92_4, hfz92_0, hfz92_1, hfz92_2, hfz92_3, hfz92_4⟩ := bR5_ BK400.out))
               (all_goals try (exfalso; have e1_ : (⟨#[32]⟩ : ByteArray).size = 1 := rfl; have e2_ : (⟨#[10]⟩ : ByteArray).size = 1 := rfl; simp only [ByteArray.size_append] at c86; omega))
               (all_goals try (exfalso; have e1_ : (⟨#[32]⟩ : ByteArray).size = 1 := rfl; have e2_ : (⟨#[10]⟩ : ByteArray).size = 1 := rfl; simp only [ByteArray.size_append] at c88; omega))
               have n0 := aM_ (blk_drew BK400.out)
               have n1 := aM_ (below_drew1 HB.out)
               clear BK400
               clear HB
               have BK400 := n0
               have HB := n1
               clear n0 n1
               refine start_ (n := 14) (S := fun w' => w'.cell? ⟨gb400, 0, none⟩ = some (.int .i64 a0_0) ∧ w'.cell? ⟨gb400, 1, none⟩ = some (.int .i64 a0_1) ∧ w'.cell? ⟨gb400, 2, none⟩ = some (.int .i64 a0_2) ∧ w'.cell? ⟨gb400, 3, none⟩ = some (.int .i64 a0_3) ∧ w'.cell? ⟨gb400, 4, none⟩ = some (.int .i64 a0_4)) (ds := []) (mk_ 14 0) (by kernel_rfl) rfl rfl (bC5_ BK400.out) (fun hHeld => ?_); refine with_tabW impl_StepText.tab19 impl_StepText.bits19 (fun HT_ HW_ => ?_)
               generalize w91.drew = w93 at BK400 HB hHeld ⊢
               refine pU_ 0 (some 66) (mk_ 14 1) ?_
               refine pU_ 9 (some 75) (mk_ 14 513) ?_
               refine tK5_ 1 (some 67) (mk_ 14 515) ?_
               refine tK5_ 5 (some 71) (mk_ 14 547) ?_
               refine tK5_ 10 (some 76) (mk_ 14 1571) ?_
               refine oN_ 2 (some 68) (mk_ 14 1575) (fun K hK => ?_)
               refine gO_ Tryd.func39 #[.int .i64 a0_1] ?_
               with_reducible refine (impl_reg.calls a0_1 t413 _ A81.out ?sT).mono ?_
               (case sT => exact TabL_ hT HB.out)
               rintro e w94 ⟨rfl, hb⟩
               refine ⟨_, rfl, ?_⟩
               have n0 := aM_ (nB_ BK400.out hb)
               have n1 := aM_ (sT_ HB.out hb)
               clear BK400
               clear HB
               have BK400 := n0
               have HB := n1
               clear n0 n1
               (try clear hb)
               (try clear hb2)
               (try clear hk)
               (try clear hi)
               refine hK.out _ _ (bC5_ BK400.out) (fun hHeld => ?_)
               clear hK K
               refine norm_ (a' := ?_) ?_ ?_
               rotate_left
               ·show Act.put _ (some 68) _ = _
                simp only [pt_, pn_, sI_, s0_, s1_, i64_w, i32_w]
                rfl
               refine pU_ 3 (some 69) (mk_ 14 1583) ?_
               refine pU_ 4 (some 70) (mk_ 14 1599) ?_
               refine oN_ 6 (some 72) (mk_ 14 1663) (fun K hK => ?_)
               refine gO_ Tryd.func42 #[.agg #[.int .i64 a0_0, .int .i64 a0_1, .int .i64 a0_2, .int .i64 a0_3, .int .i64 a0_4]] ?_
               with_reducible refine (impl_cellText.calls k a0_0 a0_1 a0_2 a0_3 a0_4 t414 _ A84.out ?sT).mono ?_
               (case sT => exact TabL_ hT HB.out)
               rintro e w95 ⟨rfl, hb⟩
               refine ⟨_, rfl, ?_⟩
               have n0 := aM_ (nB_ BK400.out hb)
               have n1 := aM_ (sT_ HB.out hb)
               clear BK400
               clear HB
               have BK400 := n0
               have HB := n1
               clear n0 n1
               (try clear hb)
               (try clear hb2)
               (try clear hk)
               (try clear hi)
               refine hK.out _ _ (bC5_ BK400.out) (fun hHeld => ?_)
               clear hK K
               refine norm_ (a' := ?_) ?_ ?_
               rotate_left
               ·show Act.put _ (some 72) _ = _
                simp only [pt_, pn_, sI_, s0_, s1_, i64_w, i32_w]
                rfl
               refine pU_ 7 (some 73) (mk_ 14 1791) ?_
               refine pU_ 8 (some 74) (mk_ 14 2047) ?_
               refine oN_ 11 (some 77) (mk_ 14 4095) (fun K hK => ?_)
               refine gO_ Tryd.func39 #[.int .i64 a0_3] ?_
               with_reducible refine (impl_reg.calls a0_3 t415 _ A87.out ?sT).mono ?_
               (case sT => exact TabL_ hT HB.out)
               rintro e w96 ⟨rfl, hb⟩
               refine ⟨_, rfl, ?_⟩
               have n0 := aM_ (nB_ BK400.out hb)
               have n1 := aM_ (sT_ HB.out hb)
               clear BK400
               clear HB
               have BK400 := n0
               have HB := n1
               clear n0 n1
               (try clear hb)
               (try clear hb2)
               (try clear hk)
               (try clear hi)
               refine hK.out _ _ (bC5_ BK400.out) (fun hHeld => ?_)
               clear hK K
               refine norm_ (a' := ?_) ?_ ?_
               rotate_left
               ·show Act.put _ (some 77) _ = _
                simp only [pt_, pn_, sI_, s0_, s1_, i64_w, i32_w]
                rfl
               refine pU_ 12 (some 78) (mk_ 14 8191) ?_
               refine pU_ 13 (some 2) (mk_ 14 16383) ?_
               refine done_ (done_of HT_.out (by kernel_rfl)) ?_
               try go_wp2
               go_ret
               exact fI_ HB.out
              ·rw [if_neg c88] at H
               exact absurd H (by simp)
             ·rw [if_neg c86] at H
              exact absurd H (by simp)
            ·rw [if_neg c85] at H
             exact absurd H (by simp)
           ·rw [if_neg c83] at H
            exact absurd H (by simp)
          ·rw [if_neg c82] at H
           exact absurd H (by simp)
         ·rw [if_neg c80] at H
          have c80b0 : (a0_0 == 8) = false := beq_eq_false_iff_ne.mpr c80
          have c80b1 : (a0_0 != 8) = true := bne_iff_ne.mpr c80
          by_cases c97 : a0_0 = 9
          ·rw [if_pos c97] at H
           have c97b0 : (a0_0 == 9) = true := beq_iff_eq.mpr c97
           have c97b1 : (a0_0 != 9) = false := bne_eq_false_iff_eq.mpr c97
           clear c97
           replace H := Option.bind_eq_some_iff.mp H
           obtain ⟨t416, A980, H⟩ := H
           replace H : (if 6 + t416.size ≤ 9223372036854775807 then (some ((⟨#[112, 114, 105, 110, 116, 32]⟩ : ByteArray) ++ t416)) else (none)) = some r := H
           have A98 := aM_ A980
           clear A980
           by_cases c99 : 6 + t416.size ≤ 9223372036854775807
           ·rw [if_pos c99] at H
            have c99b0 := eq_true c99
            have c99b1 : decide (6 + t416.size ≤ 9223372036854775807) = true := decide_eq_true c99
            try have c99b2 : (9223372036854775807 < 6 + t416.size) = False := eq_false (Nat.not_lt.2 c99)
            obtain rfl := Option.some.inj H
            go_enter Tryd.func11, Tryd.ntmps11
            go_wp2_with (first | ((with_reducible refine gate_dst (N := 1) rfl ?_); refine bX_ 1 (cs := #[.int .i64 a0_0, .int .i64 a0_1, .int .i64 a0_2, .int .i64 a0_3, .int .i64 a0_4]) (t := 25) ?_; intro gb400 hg w100 hbox hb; have n0 := aM_ (sT_ HB.out hb); have n1 := aM_ (hbox); have n2 := aM_ (sZ_ hg HB.out); have n3 := aM_ (sZ_ hg HB.out); clear HB; have HB := n0; have BK400 := n1; have GW400 := n2; have GE400 := n3; clear n0 n1 n2 n3; clear hb hbox hg; obtain ⟨hcz101_0, hcz101_1, hcz101_2, hcz101_3, hcz101_4, hfz101_0, hfz101_1, hfz101_2, hfz101_3, hfz101_4⟩ := bR5_ BK400.out) | ((with_reducible refine gate_callee (f := 19) rfl ?_); refine gL_ (some 4) Tryd.func19 #[.agg #[.int .i64 a0_0, .int .i64 a0_1, .int .i64 a0_2, .int .i64 a0_3, .int .i64 a0_4], .int .i64 800] ?_; (with_reducible refine (impl_StepOk.calls k a0_0 a0_1 a0_2 a0_3 a0_4 800 true _ A2.out).mono ?_); rintro e w102 ⟨rfl, hb⟩; refine ⟨_, rfl, ?_⟩; have n0 := aM_ (nB_ BK400.out hb); have n1 := aM_ (sT_ HB.out hb); clear BK400; clear HB; have BK400 := n0; have HB := n1; clear n0 n1; obtain ⟨hcz103_0, hcz103_1, hcz103_2, hcz103_3, hcz103_4, hfz103_0, hfz103_1, hfz103_2, hfz103_3, hfz103_4⟩ := bR5_ BK400.out) | ((with_reducible refine gate_callee (f := 39) rfl ?_); refine gL_ (some 83) Tryd.func39 #[.int .i64 a0_2] ?_; (with_reducible refine (impl_reg.calls a0_2 t416 _ A98.out ?sT).mono ?_); (case sT => exact TabL_ hT HB.out); rintro e w104 ⟨rfl, hb⟩; refine ⟨_, rfl, ?_⟩; have n0 := aM_ (nB_ BK400.out hb); have n1 := aM_ (sT_ HB.out hb); clear BK400; clear HB; have BK400 := n0; have HB := n1; clear n0 n1))
            go_ret
            exact fI_ HB.out
           ·rw [if_neg c99] at H
            exact absurd H (by simp)
          ·rw [if_neg c97] at H
           have c97b0 : (a0_0 == 9) = false := beq_eq_false_iff_ne.mpr c97
           have c97b1 : (a0_0 != 9) = true := bne_iff_ne.mpr c97
           by_cases c105 : a0_0 = 10
           ·rw [if_pos c105] at H
            have c105b0 : (a0_0 == 10) = true := beq_iff_eq.mpr c105
            have c105b1 : (a0_0 != 10) = false := bne_eq_false_iff_eq.mpr c105
            clear c105
            replace H := Option.bind_eq_some_iff.mp H
            obtain ⟨t417, A1060, H⟩ := H
            replace H : (if 5 + t417.size ≤ 9223372036854775807 then (some ((⟨#[106, 117, 109, 112, 32]⟩ : ByteArray) ++ t417)) else (none)) = some r := H
            have A106 := aM_ A1060
            clear A1060
            by_cases c107 : 5 + t417.size ≤ 9223372036854775807
            ·rw [if_pos c107] at H
             have c107b0 := eq_true c107
             have c107b1 : decide (5 + t417.size ≤ 9223372036854775807) = true := decide_eq_true c107
             try have c107b2 : (9223372036854775807 < 5 + t417.size) = False := eq_false (Nat.not_lt.2 c107)
             obtain rfl := Option.some.inj H
             go_enter Tryd.func11, Tryd.ntmps11
             go_wp2_with (first | ((with_reducible refine gate_dst (N := 1) rfl ?_); refine bX_ 1 (cs := #[.int .i64 a0_0, .int .i64 a0_1, .int .i64 a0_2, .int .i64 a0_3, .int .i64 a0_4]) (t := 25) ?_; intro gb400 hg w108 hbox hb; have n0 := aM_ (sT_ HB.out hb); have n1 := aM_ (hbox); have n2 := aM_ (sZ_ hg HB.out); have n3 := aM_ (sZ_ hg HB.out); clear HB; have HB := n0; have BK400 := n1; have GW400 := n2; have GE400 := n3; clear n0 n1 n2 n3; clear hb hbox hg; obtain ⟨hcz109_0, hcz109_1, hcz109_2, hcz109_3, hcz109_4, hfz109_0, hfz109_1, hfz109_2, hfz109_3, hfz109_4⟩ := bR5_ BK400.out) | ((with_reducible refine gate_callee (f := 19) rfl ?_); refine gL_ (some 4) Tryd.func19 #[.agg #[.int .i64 a0_0, .int .i64 a0_1, .int .i64 a0_2, .int .i64 a0_3, .int .i64 a0_4], .int .i64 800] ?_; (with_reducible refine (impl_StepOk.calls k a0_0 a0_1 a0_2 a0_3 a0_4 800 true _ A2.out).mono ?_); rintro e w110 ⟨rfl, hb⟩; refine ⟨_, rfl, ?_⟩; have n0 := aM_ (nB_ BK400.out hb); have n1 := aM_ (sT_ HB.out hb); clear BK400; clear HB; have BK400 := n0; have HB := n1; clear n0 n1; obtain ⟨hcz111_0, hcz111_1, hcz111_2, hcz111_3, hcz111_4, hfz111_0, hfz111_1, hfz111_2, hfz111_3, hfz111_4⟩ := bR5_ BK400.out) | ((with_reducible refine gate_callee (f := 40) rfl ?_); refine gL_ (some 89) Tryd.func40 #[.int .i64 a0_4] ?_; (with_reducible refine (impl_digits.calls a0_4 t417 _ A106.out ?sT).mono ?_); (case sT => exact TabL_ hT HB.out); rintro e w112 ⟨rfl, hb⟩; refine ⟨_, rfl, ?_⟩; have n0 := aM_ (nB_ BK400.out hb); have n1 := aM_ (sT_ HB.out hb); clear BK400; clear HB; have BK400 := n0; have HB := n1; clear n0 n1))
             go_ret
             exact fI_ HB.out
            ·rw [if_neg c107] at H
             exact absurd H (by simp)
           ·rw [if_neg c105] at H
            have c105b0 : (a0_0 == 10) = false := beq_eq_false_iff_ne.mpr c105
            have c105b1 : (a0_0 != 10) = true := bne_iff_ne.mpr c105
            by_cases c113 : a0_0 = 11
            ·rw [if_pos c113] at H
             have c113b0 : (a0_0 == 11) = true := beq_iff_eq.mpr c113
             have c113b1 : (a0_0 != 11) = false := bne_eq_false_iff_eq.mpr c113
             clear c113
             replace H := Option.bind_eq_some_iff.mp H
             obtain ⟨t418, A1140, H⟩ := H
             replace H : (if 5 + t418.size ≤ 9223372036854775807 then (if ((⟨#[122, 101, 114, 111, 32]⟩ : ByteArray) ++ t418).size + 1 ≤ 9223372036854775807 then ((impl_digits.f a0_4).bind fun t419 => (if (((⟨#[122, 101, 114, 111, 32]⟩ : ByteArray) ++ t418) ++ (⟨#[32]⟩ : ByteArray)).size + t419.size ≤ 9223372036854775807 then (some ((((⟨#[122, 101, 114, 111, 32]⟩ : ByteArray) ++ t418) ++ (⟨#[32]⟩ : ByteArray)) ++ t419)) else (none))) else (none)) else (none)) = some r := H
             have A114 := aM_ A1140
             clear A1140
             by_cases c115 : 5 + t418.size ≤ 9223372036854775807
             ·rw [if_pos c115] at H
              have c115b0 := eq_true c115
              have c115b1 : decide (5 + t418.size ≤ 9223372036854775807) = true := decide_eq_true c115
              try have c115b2 : (9223372036854775807 < 5 + t418.size) = False := eq_false (Nat.not_lt.2 c115)
              by_cases c116 : ((⟨#[122, 101, 114, 111, 32]⟩ : ByteArray) ++ t418).size + 1 ≤ 9223372036854775807
              ·rw [if_pos c116] at H
               have c116b0 := eq_true c116
               have c116b1 : decide (((⟨#[122, 101, 114, 111, 32]⟩ : ByteArray) ++ t418).size + 1 ≤ 9223372036854775807) = true := decide_eq_true c116
               (try (have c116n := c116; simp only [ByteArray.size_append, Tab.sz_mk, List.size_toArray, List.length_cons, List.length_nil, Nat.zero_add, Nat.reduceAdd] at c116n; have c116b4 := eq_true c116n; have c116b5 := eq_false (Nat.not_lt.2 c116n)))
               try have c116b2 : (9223372036854775807 < ((⟨#[122, 101, 114, 111, 32]⟩ : ByteArray) ++ t418).size + 1) = False := eq_false (Nat.not_lt.2 c116)
               replace H := Option.bind_eq_some_iff.mp H
               obtain ⟨t419, A1170, H⟩ := H
               replace H : (if (((⟨#[122, 101, 114, 111, 32]⟩ : ByteArray) ++ t418) ++ (⟨#[32]⟩ : ByteArray)).size + t419.size ≤ 9223372036854775807 then (some ((((⟨#[122, 101, 114, 111, 32]⟩ : ByteArray) ++ t418) ++ (⟨#[32]⟩ : ByteArray)) ++ t419)) else (none)) = some r := H
               have A117 := aM_ A1170
               clear A1170
               by_cases c118 : (((⟨#[122, 101, 114, 111, 32]⟩ : ByteArray) ++ t418) ++ (⟨#[32]⟩ : ByteArray)).size + t419.size ≤ 9223372036854775807
               ·rw [if_pos c118] at H
                have c118b0 := eq_true c118
                have c118b1 : decide ((((⟨#[122, 101, 114, 111, 32]⟩ : ByteArray) ++ t418) ++ (⟨#[32]⟩ : ByteArray)).size + t419.size ≤ 9223372036854775807) = true := decide_eq_true c118
                (try (have c118n := c118; simp only [ByteArray.size_append, Tab.sz_mk, List.size_toArray, List.length_cons, List.length_nil, Nat.zero_add, Nat.reduceAdd] at c118n; have c118b4 := eq_true c118n; have c118b5 := eq_false (Nat.not_lt.2 c118n)))
                try have c118b2 : (9223372036854775807 < (((⟨#[122, 101, 114, 111, 32]⟩ : ByteArray) ++ t418) ++ (⟨#[32]⟩ : ByteArray)).size + t419.size) = False := eq_false (Nat.not_lt.2 c118)
                obtain rfl := Option.some.inj H
                go_enter Tryd.func11, Tryd.ntmps11
                try go_wp2_with (first | ((with_reducible refine gate_dst (N := 1) rfl ?_); refine bX_ 1 (cs := #[.int .i64 a0_0, .int .i64 a0_1, .int .i64 a0_2, .int .i64 a0_3, .int .i64 a0_4]) (t := 25) ?_; intro gb400 hg w119 hbox hb; have n0 := aM_ (sT_ HB.out hb); have n1 := aM_ (hbox); have n2 := aM_ (sZ_ hg HB.out); have n3 := aM_ (sZ_ hg HB.out); clear HB; have HB := n0; have BK400 := n1; have GW400 := n2; have GE400 := n3; clear n0 n1 n2 n3; clear hb hbox hg; obtain ⟨hcz120_0, hcz120_1, hcz120_2, hcz120_3, hcz120_4, hfz120_0, hfz120_1, hfz120_2, hfz120_3, hfz120_4⟩ := bR5_ BK400.out) | ((with_reducible refine gate_callee (f := 19) rfl ?_); refine gL_ (some 4) Tryd.func19 #[.agg #[.int .i64 a0_0, .int .i64 a0_1, .int .i64 a0_2, .int .i64 a0_3, .int .i64 a0_4], .int .i64 800] ?_; (with_reducible refine (impl_StepOk.calls k a0_0 a0_1 a0_2 a0_3 a0_4 800 true _ A2.out).mono ?_); rintro e w121 ⟨rfl, hb⟩; refine ⟨_, rfl, ?_⟩; have n0 := aM_ (nB_ BK400.out hb); have n1 := aM_ (sT_ HB.out hb); clear BK400; clear HB; have BK400 := n0; have HB := n1; clear n0 n1; obtain ⟨hcz122_0, hcz122_1, hcz122_2, hcz122_3, hcz122_4, hfz122_0, hfz122_1, hfz122_2, hfz122_3, hfz122_4⟩ := bR5_ BK400.out))
                (all_goals try (exfalso; have e1_ : (⟨#[32]⟩ : ByteArray).size = 1 := rfl; have e2_ : (⟨#[10]⟩ : ByteArray).size = 1 := rfl; simp only [ByteArray.size_append] at c116; omega))
                (all_goals try (exfalso; have e1_ : (⟨#[32]⟩ : ByteArray).size = 1 := rfl; have e2_ : (⟨#[10]⟩ : ByteArray).size = 1 := rfl; simp only [ByteArray.size_append] at c118; omega))
                have n0 := aM_ (blk_drew BK400.out)
                have n1 := aM_ (below_drew1 HB.out)
                clear BK400
                clear HB
                have BK400 := n0
                have HB := n1
                clear n0 n1
                refine start_ (n := 10) (S := fun w' => w'.cell? ⟨gb400, 0, none⟩ = some (.int .i64 a0_0) ∧ w'.cell? ⟨gb400, 1, none⟩ = some (.int .i64 a0_1) ∧ w'.cell? ⟨gb400, 2, none⟩ = some (.int .i64 a0_2) ∧ w'.cell? ⟨gb400, 3, none⟩ = some (.int .i64 a0_3) ∧ w'.cell? ⟨gb400, 4, none⟩ = some (.int .i64 a0_4)) (ds := []) (mk_ 10 0) (by kernel_rfl) rfl rfl (bC5_ BK400.out) (fun hHeld => ?_); refine with_tabW impl_StepText.tab25 impl_StepText.bits25 (fun HT_ HW_ => ?_)
                generalize w121.drew = w123 at BK400 HB hHeld ⊢
                refine pU_ 0 (some 93) (mk_ 10 1) ?_
                refine pU_ 5 (some 98) (mk_ 10 33) ?_
                refine tK5_ 1 (some 94) (mk_ 10 35) ?_
                refine tK5_ 6 (some 99) (mk_ 10 99) ?_
                refine oN_ 2 (some 95) (mk_ 10 103) (fun K hK => ?_)
                refine gO_ Tryd.func39 #[.int .i64 a0_2] ?_
                with_reducible refine (impl_reg.calls a0_2 t418 _ A114.out ?sT).mono ?_
                (case sT => exact TabL_ hT HB.out)
                rintro e w124 ⟨rfl, hb⟩
                refine ⟨_, rfl, ?_⟩
                have n0 := aM_ (nB_ BK400.out hb)
                have n1 := aM_ (sT_ HB.out hb)
                clear BK400
                clear HB
                have BK400 := n0
                have HB := n1
                clear n0 n1
                (try clear hb)
                (try clear hb2)
                (try clear hk)
                (try clear hi)
                refine hK.out _ _ (bC5_ BK400.out) (fun hHeld => ?_)
                clear hK K
                refine norm_ (a' := ?_) ?_ ?_
                rotate_left
                ·show Act.put _ (some 95) _ = _
                 simp only [pt_, pn_, sI_, s0_, s1_, i64_w, i32_w]
                 rfl
                refine pU_ 3 (some 96) (mk_ 10 111) ?_
                refine pU_ 4 (some 97) (mk_ 10 127) ?_
                refine oN_ 7 (some 100) (mk_ 10 255) (fun K hK => ?_)
                refine gO_ Tryd.func40 #[.int .i64 a0_4] ?_
                with_reducible refine (impl_digits.calls a0_4 t419 _ A117.out ?sT).mono ?_
                (case sT => exact TabL_ hT HB.out)
                rintro e w125 ⟨rfl, hb⟩
                refine ⟨_, rfl, ?_⟩
                have n0 := aM_ (nB_ BK400.out hb)
                have n1 := aM_ (sT_ HB.out hb)
                clear BK400
                clear HB
                have BK400 := n0
                have HB := n1
                clear n0 n1
                (try clear hb)
                (try clear hb2)
                (try clear hk)
                (try clear hi)
                refine hK.out _ _ (bC5_ BK400.out) (fun hHeld => ?_)
                clear hK K
                refine norm_ (a' := ?_) ?_ ?_
                rotate_left
                ·show Act.put _ (some 100) _ = _
                 simp only [pt_, pn_, sI_, s0_, s1_, i64_w, i32_w]
                 rfl
                refine pU_ 8 (some 101) (mk_ 10 511) ?_
                refine pU_ 9 (some 2) (mk_ 10 1023) ?_
                refine done_ (done_of HT_.out (by kernel_rfl)) ?_
                try go_wp2
                go_ret
                exact fI_ HB.out
               ·rw [if_neg c118] at H
                exact absurd H (by simp)
              ·rw [if_neg c116] at H
               exact absurd H (by simp)
             ·rw [if_neg c115] at H
              exact absurd H (by simp)
            ·rw [if_neg c113] at H
             have c113b0 : (a0_0 == 11) = false := beq_eq_false_iff_ne.mpr c113
             have c113b1 : (a0_0 != 11) = true := bne_iff_ne.mpr c113
             by_cases c126 : a0_0 = 12
             ·rw [if_pos c126] at H
              have c126b0 : (a0_0 == 12) = true := beq_iff_eq.mpr c126
              have c126b1 : (a0_0 != 12) = false := bne_eq_false_iff_eq.mpr c126
              clear c126
              obtain rfl := Option.some.inj H
              go_enter Tryd.func11, Tryd.ntmps11
              go_wp2_with (first | ((with_reducible refine gate_dst (N := 1) rfl ?_); refine bX_ 1 (cs := #[.int .i64 a0_0, .int .i64 a0_1, .int .i64 a0_2, .int .i64 a0_3, .int .i64 a0_4]) (t := 25) ?_; intro gb400 hg w127 hbox hb; have n0 := aM_ (sT_ HB.out hb); have n1 := aM_ (hbox); have n2 := aM_ (sZ_ hg HB.out); have n3 := aM_ (sZ_ hg HB.out); clear HB; have HB := n0; have BK400 := n1; have GW400 := n2; have GE400 := n3; clear n0 n1 n2 n3; clear hb hbox hg; obtain ⟨hcz128_0, hcz128_1, hcz128_2, hcz128_3, hcz128_4, hfz128_0, hfz128_1, hfz128_2, hfz128_3, hfz128_4⟩ := bR5_ BK400.out) | ((with_reducible refine gate_callee (f := 19) rfl ?_); refine gL_ (some 4) Tryd.func19 #[.agg #[.int .i64 a0_0, .int .i64 a0_1, .int .i64 a0_2, .int .i64 a0_3, .int .i64 a0_4], .int .i64 800] ?_; (with_reducible refine (impl_StepOk.calls k a0_0 a0_1 a0_2 a0_3 a0_4 800 true _ A2.out).mono ?_); rintro e w129 ⟨rfl, hb⟩; refine ⟨_, rfl, ?_⟩; have n0 := aM_ (nB_ BK400.out hb); have n1 := aM_ (sT_ HB.out hb); clear BK400; clear HB; have BK400 := n0; have HB := n1; clear n0 n1; obtain ⟨hcz130_0, hcz130_1, hcz130_2, hcz130_3, hcz130_4, hfz130_0, hfz130_1, hfz130_2, hfz130_3, hfz130_4⟩ := bR5_ BK400.out))
              go_ret
              exact fI_ HB.out
             ·rw [if_neg c126] at H
              have c126b0 : (a0_0 == 12) = false := beq_eq_false_iff_ne.mpr c126
              have c126b1 : (a0_0 != 12) = true := bne_iff_ne.mpr c126
              obtain rfl := Option.some.inj H
              go_enter Tryd.func11, Tryd.ntmps11
              go_wp2_with (first | ((with_reducible refine gate_dst (N := 1) rfl ?_); refine bX_ 1 (cs := #[.int .i64 a0_0, .int .i64 a0_1, .int .i64 a0_2, .int .i64 a0_3, .int .i64 a0_4]) (t := 25) ?_; intro gb400 hg w131 hbox hb; have n0 := aM_ (sT_ HB.out hb); have n1 := aM_ (hbox); have n2 := aM_ (sZ_ hg HB.out); have n3 := aM_ (sZ_ hg HB.out); clear HB; have HB := n0; have BK400 := n1; have GW400 := n2; have GE400 := n3; clear n0 n1 n2 n3; clear hb hbox hg; obtain ⟨hcz132_0, hcz132_1, hcz132_2, hcz132_3, hcz132_4, hfz132_0, hfz132_1, hfz132_2, hfz132_3, hfz132_4⟩ := bR5_ BK400.out) | ((with_reducible refine gate_callee (f := 19) rfl ?_); refine gL_ (some 4) Tryd.func19 #[.agg #[.int .i64 a0_0, .int .i64 a0_1, .int .i64 a0_2, .int .i64 a0_3, .int .i64 a0_4], .int .i64 800] ?_; (with_reducible refine (impl_StepOk.calls k a0_0 a0_1 a0_2 a0_3 a0_4 800 true _ A2.out).mono ?_); rintro e w133 ⟨rfl, hb⟩; refine ⟨_, rfl, ?_⟩; have n0 := aM_ (nB_ BK400.out hb); have n1 := aM_ (sT_ HB.out hb); clear BK400; clear HB; have BK400 := n0; have HB := n1; clear n0 n1; obtain ⟨hcz134_0, hcz134_1, hcz134_2, hcz134_3, hcz134_4, hfz134_0, hfz134_1, hfz134_2, hfz134_3, hfz134_4⟩ := bR5_ BK400.out))
              go_ret
              exact fI_ HB.out
 ·replace c3 := Bool.eq_false_iff.mpr c3
  subst c3
  have H1 : (some (⟨#[]⟩ : ByteArray)) = some r := by rw [if_neg (show ¬ (false = true) by decide)] at H; exact H
  clear H
  have H := H1
  clear H1
  obtain rfl := Option.some.inj H
  go_enter Tryd.func11, Tryd.ntmps11
  go_wp2_with (first | ((with_reducible refine gate_dst (N := 1) rfl ?_); refine bX_ 1 (cs := #[.int .i64 a0_0, .int .i64 a0_1, .int .i64 a0_2, .int .i64 a0_3, .int .i64 a0_4]) (t := 25) ?_; intro gb400 hg w135 hbox hb; have n0 := aM_ (sT_ HB.out hb); have n1 := aM_ (hbox); have n2 := aM_ (sZ_ hg HB.out); have n3 := aM_ (sZ_ hg HB.out); clear HB; have HB := n0; have BK400 := n1; have GW400 := n2; have GE400 := n3; clear n0 n1 n2 n3; clear hb hbox hg; obtain ⟨hcz136_0, hcz136_1, hcz136_2, hcz136_3, hcz136_4, hfz136_0, hfz136_1, hfz136_2, hfz136_3, hfz136_4⟩ := bR5_ BK400.out) | ((with_reducible refine gate_callee (f := 19) rfl ?_); refine gL_ (some 4) Tryd.func19 #[.agg #[.int .i64 a0_0, .int .i64 a0_1, .int .i64 a0_2, .int .i64 a0_3, .int .i64 a0_4], .int .i64 800] ?_; (with_reducible refine (impl_StepOk.calls k a0_0 a0_1 a0_2 a0_3 a0_4 800 false _ A2.out).mono ?_); rintro e w137 ⟨rfl, hb⟩; refine ⟨_, rfl, ?_⟩; have n0 := aM_ (nB_ BK400.out hb); have n1 := aM_ (sT_ HB.out hb); clear BK400; clear HB; have BK400 := n0; have HB := n1; clear n0 n1))
  go_ret
  exact fI_ HB.out
end Go.Proofs.YtdbobicbbfmepaaDoor.PFnTexts
