/- A part of the proof that the law FnExactCodeText holds for every input: the words, functions and walks that its row needs, without a condition of their own. -/
import Derived.Test.YtkjfcmgpplapeaaDoorZFnExactCodeTexta4
import Derived.Test.YtkjfcmgpplapeaaDoorZFnExactCodeTexta12
import Derived.Test.YtkjfcmgpplapeaaDoorZFnExactCodeTexta13
import Derived.Test.YtkjfcmgpplapeaaDoorZFnExactCodeTexta14
import Derived.Test.YtkjfcmgpplapeaaDoorZFnExactCodeTexts
namespace Go.Proofs.YtkjfcmgpplapeaaDoor.PFnExactCodeText
open Go.RowKit Go.Proofs.YtkjfcmgpplapeaaDoorW.PrintWords Go.Proofs.YtkjfcmgpplapeaaDoorW.PrintLast Go.Proofs.YtkjfcmgpplapeaaDoorW.PrintMore
attribute [local go_sem] max2_int min2_int max_two min_two max_three min_three max_four min_four   -- for this text's walks alone
set_option linter.unusedVariables false
set_option linter.unusedSimpArgs false
def impl_StepText.f (k : Nat) (a0_0 : Int) (a0_1 : Int) (a0_2 : Int) (a0_3 : Int) (a0_4 : Int) : Option (ByteArray) := (impl_StepOk.f k a0_0 a0_1 a0_2 a0_3 a0_4 800).bind fun t195 => (if t195 = true then (if a0_0 = 1 then ((impl_reg.f a0_1).bind fun t196 => (if 4 + t196.size ≤ 9223372036854775807 then (if ((⟨#[115, 101, 116, 32]⟩ : ByteArray) ++ t196).size + 1 ≤ 9223372036854775807 then ((impl_digits.f a0_4).bind fun t197 => (if (((⟨#[115, 101, 116, 32]⟩ : ByteArray) ++ t196) ++ (⟨#[32]⟩ : ByteArray)).size + t197.size ≤ 9223372036854775807 then (some ((((⟨#[115, 101, 116, 32]⟩ : ByteArray) ++ t196) ++ (⟨#[32]⟩ : ByteArray)) ++ t197)) else (none))) else (none)) else (none))) else (if a0_0 = 2 then ((impl_threeText.f a0_0 a0_1 a0_2 a0_3 a0_4).bind fun t198 => (if 4 + t198.size ≤ 9223372036854775807 then (some ((⟨#[97, 100, 100, 32]⟩ : ByteArray) ++ t198)) else (none))) else (if a0_0 = 3 then ((impl_threeText.f a0_0 a0_1 a0_2 a0_3 a0_4).bind fun t199 => (if 4 + t199.size ≤ 9223372036854775807 then (some ((⟨#[115, 117, 98, 32]⟩ : ByteArray) ++ t199)) else (none))) else (if a0_0 = 4 then ((impl_threeText.f a0_0 a0_1 a0_2 a0_3 a0_4).bind fun t200 => (if 5 + t200.size ≤ 9223372036854775807 then (some ((⟨#[108, 101, 115, 115, 32]⟩ : ByteArray) ++ t200)) else (none))) else (if a0_0 = 5 then ((impl_reg.f a0_1).bind fun t201 => (if 5 + t201.size ≤ 9223372036854775807 then (if ((⟨#[108, 111, 97, 100, 32]⟩ : ByteArray) ++ t201).size + 1 ≤ 9223372036854775807 then ((impl_cellText.f k a0_0 a0_1 a0_2 a0_3 a0_4).bind fun t202 => (if (((⟨#[108, 111, 97, 100, 32]⟩ : ByteArray) ++ t201) ++ (⟨#[32]⟩ : ByteArray)).size + t202.size ≤ 9223372036854775807 then (some ((((⟨#[108, 111, 97, 100, 32]⟩ : ByteArray) ++ t201) ++ (⟨#[32]⟩ : ByteArray)) ++ t202)) else (none))) else (none)) else (none))) else (if a0_0 = 6 then ((impl_cellText.f k a0_0 a0_1 a0_2 a0_3 a0_4).bind fun t203 => (if 6 + t203.size ≤ 9223372036854775807 then (if ((⟨#[115, 116, 111, 114, 101, 32]⟩ : ByteArray) ++ t203).size + 1 ≤ 9223372036854775807 then ((impl_reg.f a0_3).bind fun t204 => (if (((⟨#[115, 116, 111, 114, 101, 32]⟩ : ByteArray) ++ t203) ++ (⟨#[32]⟩ : ByteArray)).size + t204.size ≤ 9223372036854775807 then (some ((((⟨#[115, 116, 111, 114, 101, 32]⟩ : ByteArray) ++ t203) ++ (⟨#[32]⟩ : ByteArray)) ++ t204)) else (none))) else (none)) else (none))) else (if a0_0 = 7 then ((impl_cellText.f k a0_0 a0_1 a0_2 a0_3 a0_4).bind fun t205 => (if 4 + t205.size ≤ 9223372036854775807 then (if ((⟨#[108, 101, 116, 32]⟩ : ByteArray) ++ t205).size + 1 ≤ 9223372036854775807 then ((impl_reg.f a0_3).bind fun t206 => (if (((⟨#[108, 101, 116, 32]⟩ : ByteArray) ++ t205) ++ (⟨#[32]⟩ : ByteArray)).size + t206.size ≤ 9223372036854775807 then (some ((((⟨#[108, 101, 116, 32]⟩ : ByteArray) ++ t205) ++ (⟨#[32]⟩ : ByteArray)) ++ t206)) else (none))) else (none)) else (none))) else (if a0_0 = 8 then ((impl_reg.f a0_1).bind fun t207 => (if 5 + t207.size ≤ 9223372036854775807 then (if ((⟨#[115, 119, 97, 112, 32]⟩ : ByteArray) ++ t207).size + 1 ≤ 9223372036854775807 then ((impl_cellText.f k a0_0 a0_1 a0_2 a0_3 a0_4).bind fun t208 => (if (((⟨#[115, 119, 97, 112, 32]⟩ : ByteArray) ++ t207) ++ (⟨#[32]⟩ : ByteArray)).size + t208.size ≤ 9223372036854775807 then (if ((((⟨#[115, 119, 97, 112, 32]⟩ : ByteArray) ++ t207) ++ (⟨#[32]⟩ : ByteArray)) ++ t208).size + 1 ≤ 9223372036854775807 then ((impl_reg.f a0_3).bind fun t209 => (if (((((⟨#[115, 119, 97, 112, 32]⟩ : ByteArray) ++ t207) ++ (⟨#[32]⟩ : ByteArray)) ++ t208) ++ (⟨#[32]⟩ : ByteArray)).size + t209.size ≤ 9223372036854775807 then (some ((((((⟨#[115, 119, 97, 112, 32]⟩ : ByteArray) ++ t207) ++ (⟨#[32]⟩ : ByteArray)) ++ t208) ++ (⟨#[32]⟩ : ByteArray)) ++ t209)) else (none))) else (none)) else (none))) else (none)) else (none))) else (if a0_0 = 9 then ((impl_reg.f a0_2).bind fun t210 => (if 6 + t210.size ≤ 9223372036854775807 then (some ((⟨#[112, 114, 105, 110, 116, 32]⟩ : ByteArray) ++ t210)) else (none))) else (if a0_0 = 10 then ((impl_digits.f a0_4).bind fun t211 => (if 5 + t211.size ≤ 9223372036854775807 then (some ((⟨#[106, 117, 109, 112, 32]⟩ : ByteArray) ++ t211)) else (none))) else (if a0_0 = 11 then ((impl_reg.f a0_2).bind fun t212 => (if 5 + t212.size ≤ 9223372036854775807 then (if ((⟨#[122, 101, 114, 111, 32]⟩ : ByteArray) ++ t212).size + 1 ≤ 9223372036854775807 then ((impl_digits.f a0_4).bind fun t213 => (if (((⟨#[122, 101, 114, 111, 32]⟩ : ByteArray) ++ t212) ++ (⟨#[32]⟩ : ByteArray)).size + t213.size ≤ 9223372036854775807 then (some ((((⟨#[122, 101, 114, 111, 32]⟩ : ByteArray) ++ t212) ++ (⟨#[32]⟩ : ByteArray)) ++ t213)) else (none))) else (none)) else (none))) else (if a0_0 = 12 then (some (⟨#[101, 110, 100]⟩ : ByteArray)) else (some (⟨#[102, 97, 117, 108, 116]⟩ : ByteArray)))))))))))))) else (some (⟨#[]⟩ : ByteArray)))
def impl_StepText.T5 : Bool × List (List Nat × List Nat) := (true, [([], []), ([0], [0]), ([1], [1]), ([2], [2]), ([3], [3]), ([], []), ([5], [5]), ([6, 2], [6]), ([4, 7], [4, 7]), ([8, 7, 0, 1, 2, 3, 4, 5, 6, 7, 8], [8])])
def impl_StepText.B5 : List Nat := [0, 1, 3, 7, 15, 0, 32, 103, 255, 511]
theorem impl_StepText.tab5 : rtab .any (opsOf Tryd.f29 5) = impl_StepText.T5 := by kernel_rfl
theorem impl_StepText.bits5 : waitsOk impl_StepText.T5.2 impl_StepText.B5 = true := by kernel_rfl
def impl_StepText.T13 : Bool × List (List Nat × List Nat) := (true, [([], []), ([0], [0]), ([1], [1]), ([2], [2]), ([3], [3]), ([], []), ([5, 2], [5]), ([4, 6], [4, 6]), ([7, 6, 0, 1, 2, 3, 4, 5, 6, 7], [7])])
def impl_StepText.B13 : List Nat := [0, 1, 3, 7, 15, 0, 39, 127, 255]
theorem impl_StepText.tab13 : rtab .any (opsOf Tryd.f29 13) = impl_StepText.T13 := by kernel_rfl
theorem impl_StepText.bits13 : waitsOk impl_StepText.T13.2 impl_StepText.B13 = true := by kernel_rfl
def impl_StepText.T15 : Bool × List (List Nat × List Nat) := (true, [([], []), ([0], [0]), ([1], [1]), ([2], [2]), ([], []), ([4], [4]), ([5, 1], [5]), ([3, 6], [3, 6]), ([7, 6, 0, 1, 2, 3, 4, 5, 6, 7], [7])])
def impl_StepText.B15 : List Nat := [0, 1, 3, 7, 0, 16, 51, 127, 255]
theorem impl_StepText.tab15 : rtab .any (opsOf Tryd.f29 15) = impl_StepText.T15 := by kernel_rfl
theorem impl_StepText.bits15 : waitsOk impl_StepText.T15.2 impl_StepText.B15 = true := by kernel_rfl
def impl_StepText.T17 : Bool × List (List Nat × List Nat) := (true, [([], []), ([0], [0]), ([1], [1]), ([2], [2]), ([], []), ([4], [4]), ([5, 1], [5]), ([3, 6], [3, 6]), ([7, 6, 0, 1, 2, 3, 4, 5, 6, 7], [7])])
def impl_StepText.B17 : List Nat := [0, 1, 3, 7, 0, 16, 51, 127, 255]
theorem impl_StepText.tab17 : rtab .any (opsOf Tryd.f29 17) = impl_StepText.T17 := by kernel_rfl
theorem impl_StepText.bits17 : waitsOk impl_StepText.T17.2 impl_StepText.B17 = true := by kernel_rfl
def impl_StepText.T19 : Bool × List (List Nat × List Nat) := (true, [([], []), ([0], [0]), ([1], [1]), ([2], [2]), ([3], [3]), ([], []), ([5, 2], [5]), ([4, 6], [4, 6]), ([7], [7]), ([], []), ([9], [9]), ([10, 6], [10]), ([8, 11], [8, 11]), ([12, 11, 0, 1, 2, 3, 4, 5, 6, 7, 8, 9, 10, 11, 12], [12])])
def impl_StepText.B19 : List Nat := [0, 1, 3, 7, 15, 0, 39, 127, 255, 0, 512, 1639, 4095, 8191]
theorem impl_StepText.tab19 : rtab .any (opsOf Tryd.f29 19) = impl_StepText.T19 := by kernel_rfl
theorem impl_StepText.bits19 : waitsOk impl_StepText.T19.2 impl_StepText.B19 = true := by kernel_rfl
def impl_StepText.T25 : Bool × List (List Nat × List Nat) := (true, [([], []), ([0], [0]), ([1], [1]), ([2], [2]), ([3], [3]), ([], []), ([5], [5]), ([6, 2], [6]), ([4, 7], [4, 7]), ([8, 7, 0, 1, 2, 3, 4, 5, 6, 7, 8], [8])])
def impl_StepText.B25 : List Nat := [0, 1, 3, 7, 15, 0, 32, 103, 255, 511]
theorem impl_StepText.tab25 : rtab .any (opsOf Tryd.f29 25) = impl_StepText.T25 := by kernel_rfl
theorem impl_StepText.bits25 : waitsOk impl_StepText.T25.2 impl_StepText.B25 = true := by kernel_rfl
set_option maxHeartbeats 8000000 in
set_option maxRecDepth 100000 in
theorem impl_StepText.calls (k : Nat) (a0_0 : Int) (a0_1 : Int) (a0_2 : Int) (a0_3 : Int) (a0_4 : Int) (r : ByteArray) (w : World) (h : impl_StepText.f k a0_0 a0_1 a0_2 a0_3 a0_4 = some r) (hT : Tab.Laid w) :
  Calls Tryd.prog 29 #[.agg #[.int .i64 a0_0, .int .i64 a0_1, .int .i64 a0_2, .int .i64 a0_3, .int .i64 a0_4]] w fun e w' => e = .returned (.string r) ∧ Below w.heap.size w w' := by
 have hu46 := Tryd.underlying46
 have HB := aM_ (Below.refl w.heap.size w)
 have H : ((impl_StepOk.f k a0_0 a0_1 a0_2 a0_3 a0_4 800).bind fun t195 => (if t195 = true then (if a0_0 = 1 then ((impl_reg.f a0_1).bind fun t196 => (if 4 + t196.size ≤ 9223372036854775807 then (if ((⟨#[115, 101, 116, 32]⟩ : ByteArray) ++ t196).size + 1 ≤ 9223372036854775807 then ((impl_digits.f a0_4).bind fun t197 => (if (((⟨#[115, 101, 116, 32]⟩ : ByteArray) ++ t196) ++ (⟨#[32]⟩ : ByteArray)).size + t197.size ≤ 9223372036854775807 then (some ((((⟨#[115, 101, 116, 32]⟩ : ByteArray) ++ t196) ++ (⟨#[32]⟩ : ByteArray)) ++ t197)) else (none))) else (none)) else (none))) else (if a0_0 = 2 then ((impl_threeText.f a0_0 a0_1 a0_2 a0_3 a0_4).bind fun t198 => (if 4 + t198.size ≤ 9223372036854775807 then (some ((⟨#[97, 100, 100, 32]⟩ : ByteArray) ++ t198)) else (none))) else (if a0_0 = 3 then ((impl_threeText.f a0_0 a0_1 a0_2 a0_3 a0_4).bind fun t199 => (if 4 + t199.size ≤ 9223372036854775807 then (some ((⟨#[115, 117, 98, 32]⟩ : ByteArray) ++ t199)) else (none))) else (if a0_0 = 4 then ((impl_threeText.f a0_0 a0_1 a0_2 a0_3 a0_4).bind fun t200 => (if 5 + t200.size ≤ 9223372036854775807 then (some ((⟨#[108, 101, 115, 115, 32]⟩ : ByteArray) ++ t200)) else (none))) else (if a0_0 = 5 then ((impl_reg.f a0_1).bind fun t201 => (if 5 + t201.size ≤ 9223372036854775807 then (if ((⟨#[108, 111, 97, 100, 32]⟩ : ByteArray) ++ t201).size + 1 ≤ 9223372036854775807 then ((impl_cellText.f k a0_0 a0_1 a0_2 a0_3 a0_4).bind fun t202 => (if (((⟨#[108, 111, 97, 100, 32]⟩ : ByteArray) ++ t201) ++ (⟨#[32]⟩ : ByteArray)).size + t202.size ≤ 9223372036854775807 then (some ((((⟨#[108, 111, 97, 100, 32]⟩ : ByteArray) ++ t201) ++ (⟨#[32]⟩ : ByteArray)) ++ t202)) else (none))) else (none)) else (none))) else (if a0_0 = 6 then ((impl_cellText.f k a0_0 a0_1 a0_2 a0_3 a0_4).bind fun t203 => (if 6 + t203.size ≤ 9223372036854775807 then (if ((⟨#[115, 116, 111, 114, 101, 32]⟩ : ByteArray) ++ t203).size + 1 ≤ 9223372036854775807 then ((impl_reg.f a0_3).bind fun t204 => (if (((⟨#[115, 116, 111, 114, 101, 32]⟩ : ByteArray) ++ t203) ++ (⟨#[32]⟩ : ByteArray)).size + t204.size ≤ 9223372036854775807 then (some ((((⟨#[115, 116, 111, 114, 101, 32]⟩ : ByteArray) ++ t203) ++ (⟨#[32]⟩ : ByteArray)) ++ t204)) else (none))) else (none)) else (none))) else (if a0_0 = 7 then ((impl_cellText.f k a0_0 a0_1 a0_2 a0_3 a0_4).bind fun t205 => (if 4 + t205.size ≤ 9223372036854775807 then (if ((⟨#[108, 101, 116, 32]⟩ : ByteArray) ++ t205).size + 1 ≤ 9223372036854775807 then ((impl_reg.f a0_3).bind fun t206 => (if (((⟨#[108, 101, 116, 32]⟩ : ByteArray) ++ t205) ++ (⟨#[32]⟩ : ByteArray)).size + t206.size ≤ 9223372036854775807 then (some ((((⟨#[108, 101, 116, 32]⟩ : ByteArray) ++ t205) ++ (⟨#[32]⟩ : ByteArray)) ++ t206)) else (none))) else (none)) else (none))) else (if a0_0 = 8 then ((impl_reg.f a0_1).bind fun t207 => (if 5 + t207.size ≤ 9223372036854775807 then (if ((⟨#[115, 119, 97, 112, 32]⟩ : ByteArray) ++ t207).size + 1 ≤ 9223372036854775807 then ((impl_cellText.f k a0_0 a0_1 a0_2 a0_3 a0_4).bind fun t208 => (if (((⟨#[115, 119, 97, 112, 32]⟩ : ByteArray) ++ t207) ++ (⟨#[32]⟩ : ByteArray)).size + t208.size ≤ 9223372036854775807 then (if ((((⟨#[115, 119, 97, 112, 32]⟩ : ByteArray) ++ t207) ++ (⟨#[32]⟩ : ByteArray)) ++ t208).size + 1 ≤ 9223372036854775807 then ((impl_reg.f a0_3).bind fun t209 => (if (((((⟨#[115, 119, 97, 112, 32]⟩ : ByteArray) ++ t207) ++ (⟨#[32]⟩ : ByteArray)) ++ t208) ++ (⟨#[32]⟩ : ByteArray)).size + t209.size ≤ 9223372036854775807 then (some ((((((⟨#[115, 119, 97, 112, 32]⟩ : ByteArray) ++ t207) ++ (⟨#[32]⟩ : ByteArray)) ++ t208) ++ (⟨#[32]⟩ : ByteArray)) ++ t209)) else (none))) else (none)) else (none))) else (none)) else (none))) else (if a0_0 = 9 then ((impl_reg.f a0_2).bind fun t210 => (if 6 + t210.size ≤ 9223372036854775807 then (some ((⟨#[112, 114, 105, 110, 116, 32]⟩ : ByteArray) ++ t210)) else (none))) else (if a0_0 = 10 then ((impl_digits.f a0_4).bind fun t211 => (if 5 + t211.size ≤ 9223372036854775807 then (some ((⟨#[106, 117, 109, 112, 32]⟩ : ByteArray) ++ t211)) else (none))) else (if a0_0 = 11 then ((impl_reg.f a0_2).bind fun t212 => (if 5 + t212.size ≤ 9223372036854775807 then (if ((⟨#[122, 101, 114, 111, 32]⟩ : ByteArray) ++ t212).size + 1 ≤ 9223372036854775807 then ((impl_digits.f a0_4).bind fun t213 => (if (((⟨#[122, 101, 114, 111, 32]⟩ : ByteArray) ++ t212) ++ (⟨#[32]⟩ : ByteArray)).size + t213.size ≤ 9223372036854775807 then (some ((((⟨#[122, 101, 114, 111, 32]⟩ : ByteArray) ++ t212) ++ (⟨#[32]⟩ : ByteArray)) ++ t213)) else (none))) else (none)) else (none))) else (if a0_0 = 12 then (some (⟨#[101, 110, 100]⟩ : ByteArray)) else (some (⟨#[102, 97, 117, 108, 116]⟩ : ByteArray)))))))))))))) else (some (⟨#[]⟩ : ByteArray)))) = some r := h
 clear h
 replace H := Option.bind_eq_some_iff.mp H
 obtain ⟨t195, A20, H⟩ := H
 replace H : (if t195 = true then (if a0_0 = 1 then ((impl_reg.f a0_1).bind fun t196 => (if 4 + t196.size ≤ 9223372036854775807 then (if ((⟨#[115, 101, 116, 32]⟩ : ByteArray) ++ t196).size + 1 ≤ 9223372036854775807 then ((impl_digits.f a0_4).bind fun t197 => (if (((⟨#[115, 101, 116, 32]⟩ : ByteArray) ++ t196) ++ (⟨#[32]⟩ : ByteArray)).size + t197.size ≤ 9223372036854775807 then (some ((((⟨#[115, 101, 116, 32]⟩ : ByteArray) ++ t196) ++ (⟨#[32]⟩ : ByteArray)) ++ t197)) else (none))) else (none)) else (none))) else (if a0_0 = 2 then ((impl_threeText.f a0_0 a0_1 a0_2 a0_3 a0_4).bind fun t198 => (if 4 + t198.size ≤ 9223372036854775807 then (some ((⟨#[97, 100, 100, 32]⟩ : ByteArray) ++ t198)) else (none))) else (if a0_0 = 3 then ((impl_threeText.f a0_0 a0_1 a0_2 a0_3 a0_4).bind fun t199 => (if 4 + t199.size ≤ 9223372036854775807 then (some ((⟨#[115, 117, 98, 32]⟩ : ByteArray) ++ t199)) else (none))) else (if a0_0 = 4 then ((impl_threeText.f a0_0 a0_1 a0_2 a0_3 a0_4).bind fun t200 => (if 5 + t200.size ≤ 9223372036854775807 then (some ((⟨#[108, 101, 115, 115, 32]⟩ : ByteArray) ++ t200)) else (none))) else (if a0_0 = 5 then ((impl_reg.f a0_1).bind fun t201 => (if 5 + t201.size ≤ 9223372036854775807 then (if ((⟨#[108, 111, 97, 100, 32]⟩ : ByteArray) ++ t201).size + 1 ≤ 9223372036854775807 then ((impl_cellText.f k a0_0 a0_1 a0_2 a0_3 a0_4).bind fun t202 => (if (((⟨#[108, 111, 97, 100, 32]⟩ : ByteArray) ++ t201) ++ (⟨#[32]⟩ : ByteArray)).size + t202.size ≤ 9223372036854775807 then (some ((((⟨#[108, 111, 97, 100, 32]⟩ : ByteArray) ++ t201) ++ (⟨#[32]⟩ : ByteArray)) ++ t202)) else (none))) else (none)) else (none))) else (if a0_0 = 6 then ((impl_cellText.f k a0_0 a0_1 a0_2 a0_3 a0_4).bind fun t203 => (if 6 + t203.size ≤ 9223372036854775807 then (if ((⟨#[115, 116, 111, 114, 101, 32]⟩ : ByteArray) ++ t203).size + 1 ≤ 9223372036854775807 then ((impl_reg.f a0_3).bind fun t204 => (if (((⟨#[115, 116, 111, 114, 101, 32]⟩ : ByteArray) ++ t203) ++ (⟨#[32]⟩ : ByteArray)).size + t204.size ≤ 9223372036854775807 then (some ((((⟨#[115, 116, 111, 114, 101, 32]⟩ : ByteArray) ++ t203) ++ (⟨#[32]⟩ : ByteArray)) ++ t204)) else (none))) else (none)) else (none))) else (if a0_0 = 7 then ((impl_cellText.f k a0_0 a0_1 a0_2 a0_3 a0_4).bind fun t205 => (if 4 + t205.size ≤ 9223372036854775807 then (if ((⟨#[108, 101, 116, 32]⟩ : ByteArray) ++ t205).size + 1 ≤ 9223372036854775807 then ((impl_reg.f a0_3).bind fun t206 => (if (((⟨#[108, 101, 116, 32]⟩ : ByteArray) ++ t205) ++ (⟨#[32]⟩ : ByteArray)).size + t206.size ≤ 9223372036854775807 then (some ((((⟨#[108, 101, 116, 32]⟩ : ByteArray) ++ t205) ++ (⟨#[32]⟩ : ByteArray)) ++ t206)) else (none))) else (none)) else (none))) else (if a0_0 = 8 then ((impl_reg.f a0_1).bind fun t207 => (if 5 + t207.size ≤ 9223372036854775807 then (if ((⟨#[115, 119, 97, 112, 32]⟩ : ByteArray) ++ t207).size + 1 ≤ 9223372036854775807 then ((impl_cellText.f k a0_0 a0_1 a0_2 a0_3 a0_4).bind fun t208 => (if (((⟨#[115, 119, 97, 112, 32]⟩ : ByteArray) ++ t207) ++ (⟨#[32]⟩ : ByteArray)).size + t208.size ≤ 9223372036854775807 then (if ((((⟨#[115, 119, 97, 112, 32]⟩ : ByteArray) ++ t207) ++ (⟨#[32]⟩ : ByteArray)) ++ t208).size + 1 ≤ 9223372036854775807 then ((impl_reg.f a0_3).bind fun t209 => (if (((((⟨#[115, 119, 97, 112, 32]⟩ : ByteArray) ++ t207) ++ (⟨#[32]⟩ : ByteArray)) ++ t208) ++ (⟨#[32]⟩ : ByteArray)).size + t209.size ≤ 9223372036854775807 then (some ((((((⟨#[115, 119, 97, 112, 32]⟩ : ByteArray) ++ t207) ++ (⟨#[32]⟩ : ByteArray)) ++ t208) ++ (⟨#[32]⟩ : ByteArray)) ++ t209)) else (none))) else (none)) else (none))) else (none)) else (none))) else (if a0_0 = 9 then ((impl_reg.f a0_2).bind fun t210 => (if 6 + t210.size ≤ 9223372036854775807 then (some ((⟨#[112, 114, 105, 110, 116, 32]⟩ : ByteArray) ++ t210)) else (none))) else (if a0_0 = 10 then ((impl_digits.f a0_4).bind fun t211 => (if 5 + t211.size ≤ 9223372036854775807 then (some ((⟨#[106, 117, 109, 112, 32]⟩ : ByteArray) ++ t211)) else (none))) else (if a0_0 = 11 then ((impl_reg.f a0_2).bind fun t212 => (if 5 + t212.size ≤ 9223372036854775807 then (if ((⟨#[122, 101, 114, 111, 32]⟩ : ByteArray) ++ t212).size + 1 ≤ 9223372036854775807 then ((impl_digits.f a0_4).bind fun t213 => (if (((⟨#[122, 101, 114, 111, 32]⟩ : ByteArray) ++ t212) ++ (⟨#[32]⟩ : ByteArray)).size + t213.size ≤ 9223372036854775807 then (some ((((⟨#[122, 101, 114, 111, 32]⟩ : ByteArray) ++ t212) ++ (⟨#[32]⟩ : ByteArray)) ++ t213)) else (none))) else (none)) else (none))) else (if a0_0 = 12 then (some (⟨#[101, 110, 100]⟩ : ByteArray)) else (some (⟨#[102, 97, 117, 108, 116]⟩ : ByteArray)))))))))))))) else (some (⟨#[]⟩ : ByteArray))) = some r := H
 have A2 := aM_ A20
 clear A20
 by_cases c3 : t195 = true
 ·subst c3
  have H1 : (if a0_0 = 1 then ((impl_reg.f a0_1).bind fun t196 => (if 4 + t196.size ≤ 9223372036854775807 then (if ((⟨#[115, 101, 116, 32]⟩ : ByteArray) ++ t196).size + 1 ≤ 9223372036854775807 then ((impl_digits.f a0_4).bind fun t197 => (if (((⟨#[115, 101, 116, 32]⟩ : ByteArray) ++ t196) ++ (⟨#[32]⟩ : ByteArray)).size + t197.size ≤ 9223372036854775807 then (some ((((⟨#[115, 101, 116, 32]⟩ : ByteArray) ++ t196) ++ (⟨#[32]⟩ : ByteArray)) ++ t197)) else (none))) else (none)) else (none))) else (if a0_0 = 2 then ((impl_threeText.f a0_0 a0_1 a0_2 a0_3 a0_4).bind fun t198 => (if 4 + t198.size ≤ 9223372036854775807 then (some ((⟨#[97, 100, 100, 32]⟩ : ByteArray) ++ t198)) else (none))) else (if a0_0 = 3 then ((impl_threeText.f a0_0 a0_1 a0_2 a0_3 a0_4).bind fun t199 => (if 4 + t199.size ≤ 9223372036854775807 then (some ((⟨#[115, 117, 98, 32]⟩ : ByteArray) ++ t199)) else (none))) else (if a0_0 = 4 then ((impl_threeText.f a0_0 a0_1 a0_2 a0_3 a0_4).bind fun t200 => (if 5 + t200.size ≤ 9223372036854775807 then (some ((⟨#[108, 101, 115, 115, 32]⟩ : ByteArray) ++ t200)) else (none))) else (if a0_0 = 5 then ((impl_reg.f a0_1).bind fun t201 => (if 5 + t201.size ≤ 9223372036854775807 then (if ((⟨#[108, 111, 97, 100, 32]⟩ : ByteArray) ++ t201).size + 1 ≤ 9223372036854775807 then ((impl_cellText.f k a0_0 a0_1 a0_2 a0_3 a0_4).bind fun t202 => (if (((⟨#[108, 111, 97, 100, 32]⟩ : ByteArray) ++ t201) ++ (⟨#[32]⟩ : ByteArray)).size + t202.size ≤ 9223372036854775807 then (some ((((⟨#[108, 111, 97, 100, 32]⟩ : ByteArray) ++ t201) ++ (⟨#[32]⟩ : ByteArray)) ++ t202)) else (none))) else (none)) else (none))) else (if a0_0 = 6 then ((impl_cellText.f k a0_0 a0_1 a0_2 a0_3 a0_4).bind fun t203 => (if 6 + t203.size ≤ 9223372036854775807 then (if ((⟨#[115, 116, 111, 114, 101, 32]⟩ : ByteArray) ++ t203).size + 1 ≤ 9223372036854775807 then ((impl_reg.f a0_3).bind fun t204 => (if (((⟨#[115, 116, 111, 114, 101, 32]⟩ : ByteArray) ++ t203) ++ (⟨#[32]⟩ : ByteArray)).size + t204.size ≤ 9223372036854775807 then (some ((((⟨#[115, 116, 111, 114, 101, 32]⟩ : ByteArray) ++ t203) ++ (⟨#[32]⟩ : ByteArray)) ++ t204)) else (none))) else (none)) else (none))) else (if a0_0 = 7 then ((impl_cellText.f k a0_0 a0_1 a0_2 a0_3 a0_4).bind fun t205 => (if 4 + t205.size ≤ 9223372036854775807 then (if ((⟨#[108, 101, 116, 32]⟩ : ByteArray) ++ t205).size + 1 ≤ 9223372036854775807 then ((impl_reg.f a0_3).bind fun t206 => (if (((⟨#[108, 101, 116, 32]⟩ : ByteArray) ++ t205) ++ (⟨#[32]⟩ : ByteArray)).size + t206.size ≤ 9223372036854775807 then (some ((((⟨#[108, 101, 116, 32]⟩ : ByteArray) ++ t205) ++ (⟨#[32]⟩ : ByteArray)) ++ t206)) else (none))) else (none)) else (none))) else (if a0_0 = 8 then ((impl_reg.f a0_1).bind fun t207 => (if 5 + t207.size ≤ 9223372036854775807 then (if ((⟨#[115, 119, 97, 112, 32]⟩ : ByteArray) ++ t207).size + 1 ≤ 9223372036854775807 then ((impl_cellText.f k a0_0 a0_1 a0_2 a0_3 a0_4).bind fun t208 => (if (((⟨#[115, 119, 97, 112, 32]⟩ : ByteArray) ++ t207) ++ (⟨#[32]⟩ : ByteArray)).size + t208.size ≤ 9223372036854775807 then (if ((((⟨#[115, 119, 97, 112, 32]⟩ : ByteArray) ++ t207) ++ (⟨#[32]⟩ : ByteArray)) ++ t208).size + 1 ≤ 9223372036854775807 then ((impl_reg.f a0_3).bind fun t209 => (if (((((⟨#[115, 119, 97, 112, 32]⟩ : ByteArray) ++ t207) ++ (⟨#[32]⟩ : ByteArray)) ++ t208) ++ (⟨#[32]⟩ : ByteArray)).size + t209.size ≤ 9223372036854775807 then (some ((((((⟨#[115, 119, 97, 112, 32]⟩ : ByteArray) ++ t207) ++ (⟨#[32]⟩ : ByteArray)) ++ t208) ++ (⟨#[32]⟩ : ByteArray)) ++ t209)) else (none))) else (none)) else (none))) else (none)) else (none))) else (if a0_0 = 9 then ((impl_reg.f a0_2).bind fun t210 => (if 6 + t210.size ≤ 9223372036854775807 then (some ((⟨#[112, 114, 105, 110, 116, 32]⟩ : ByteArray) ++ t210)) else (none))) else (if a0_0 = 10 then ((impl_digits.f a0_4).bind fun t211 => (if 5 + t211.size ≤ 9223372036854775807 then (some ((⟨#[106, 117, 109, 112, 32]⟩ : ByteArray) ++ t211)) else (none))) else (if a0_0 = 11 then ((impl_reg.f a0_2).bind fun t212 => (if 5 + t212.size ≤ 9223372036854775807 then (if ((⟨#[122, 101, 114, 111, 32]⟩ : ByteArray) ++ t212).size + 1 ≤ 9223372036854775807 then ((impl_digits.f a0_4).bind fun t213 => (if (((⟨#[122, 101, 114, 111, 32]⟩ : ByteArray) ++ t212) ++ (⟨#[32]⟩ : ByteArray)).size + t213.size ≤ 9223372036854775807 then (some ((((⟨#[122, 101, 114, 111, 32]⟩ : ByteArray) ++ t212) ++ (⟨#[32]⟩ : ByteArray)) ++ t213)) else (none))) else (none)) else (none))) else (if a0_0 = 12 then (some (⟨#[101, 110, 100]⟩ : ByteArray)) else (some (⟨#[102, 97, 117, 108, 116]⟩ : ByteArray)))))))))))))) = some r := by rw [if_pos rfl] at H; exact H
  clear H
  have H := H1
  clear H1
  by_cases c4 : a0_0 = 1
  ·rw [if_pos c4] at H
   have c4b0 : (a0_0 == 1) = true := beq_iff_eq.mpr c4
   have c4b1 : (a0_0 != 1) = false := bne_eq_false_iff_eq.mpr c4
   clear c4
   replace H := Option.bind_eq_some_iff.mp H
   obtain ⟨t196, A50, H⟩ := H
   replace H : (if 4 + t196.size ≤ 9223372036854775807 then (if ((⟨#[115, 101, 116, 32]⟩ : ByteArray) ++ t196).size + 1 ≤ 9223372036854775807 then ((impl_digits.f a0_4).bind fun t197 => (if (((⟨#[115, 101, 116, 32]⟩ : ByteArray) ++ t196) ++ (⟨#[32]⟩ : ByteArray)).size + t197.size ≤ 9223372036854775807 then (some ((((⟨#[115, 101, 116, 32]⟩ : ByteArray) ++ t196) ++ (⟨#[32]⟩ : ByteArray)) ++ t197)) else (none))) else (none)) else (none)) = some r := H
   have A5 := aM_ A50
   clear A50
   by_cases c6 : 4 + t196.size ≤ 9223372036854775807
   ·rw [if_pos c6] at H
    have c6b0 := eq_true c6
    have c6b1 : decide (4 + t196.size ≤ 9223372036854775807) = true := decide_eq_true c6
    try have c6b2 : (9223372036854775807 < 4 + t196.size) = False := eq_false (Nat.not_lt.2 c6)
    by_cases c7 : ((⟨#[115, 101, 116, 32]⟩ : ByteArray) ++ t196).size + 1 ≤ 9223372036854775807
    ·rw [if_pos c7] at H
     have c7b0 := eq_true c7
     have c7b1 : decide (((⟨#[115, 101, 116, 32]⟩ : ByteArray) ++ t196).size + 1 ≤ 9223372036854775807) = true := decide_eq_true c7
     (try (have c7n := c7; simp only [ByteArray.size_append, Tab.sz_mk, List.size_toArray, List.length_cons, List.length_nil, Nat.zero_add, Nat.reduceAdd] at c7n; have c7b4 := eq_true c7n; have c7b5 := eq_false (Nat.not_lt.2 c7n)))
     try have c7b2 : (9223372036854775807 < ((⟨#[115, 101, 116, 32]⟩ : ByteArray) ++ t196).size + 1) = False := eq_false (Nat.not_lt.2 c7)
     replace H := Option.bind_eq_some_iff.mp H
     obtain ⟨t197, A80, H⟩ := H
     replace H : (if (((⟨#[115, 101, 116, 32]⟩ : ByteArray) ++ t196) ++ (⟨#[32]⟩ : ByteArray)).size + t197.size ≤ 9223372036854775807 then (some ((((⟨#[115, 101, 116, 32]⟩ : ByteArray) ++ t196) ++ (⟨#[32]⟩ : ByteArray)) ++ t197)) else (none)) = some r := H
     have A8 := aM_ A80
     clear A80
     by_cases c9 : (((⟨#[115, 101, 116, 32]⟩ : ByteArray) ++ t196) ++ (⟨#[32]⟩ : ByteArray)).size + t197.size ≤ 9223372036854775807
     ·rw [if_pos c9] at H
      have c9b0 := eq_true c9
      have c9b1 : decide ((((⟨#[115, 101, 116, 32]⟩ : ByteArray) ++ t196) ++ (⟨#[32]⟩ : ByteArray)).size + t197.size ≤ 9223372036854775807) = true := decide_eq_true c9
      (try (have c9n := c9; simp only [ByteArray.size_append, Tab.sz_mk, List.size_toArray, List.length_cons, List.length_nil, Nat.zero_add, Nat.reduceAdd] at c9n; have c9b4 := eq_true c9n; have c9b5 := eq_false (Nat.not_lt.2 c9n)))
      try have c9b2 : (9223372036854775807 < (((⟨#[115, 101, 116, 32]⟩ : ByteArray) ++ t196) ++ (⟨#[32]⟩ : ByteArray)).size + t197.size) = False := eq_false (Nat.not_lt.2 c9)
      obtain rfl := Option.some.inj H
      go_enter Tryd.func29, Tryd.ntmps29
      try go_wp2_with (first | ((with_reducible refine gate_dst (N := 1) rfl ?_); refine box_event ?hg (N := 1) ?hd (cs := #[.int .i64 a0_0, .int .i64 a0_1, .int .i64 a0_2, .int .i64 a0_3, .int .i64 a0_4]) (t := 46) ?hr ?_; (case hd => rfl); (case hg => rfl); (case hr => first | (go_simp; done) | (go_simp; rfl)); intro gb194 hg w10 hbox hb; have n0 := aM_ (below_step (by repeat (first | (with_reducible first | exact HB.out | apply hA_ | apply hN_ | apply hD_) | exact HB.out)) hb); have n1 := aM_ (hbox); have n2 := aM_ ((by rw [hg]; exact (below_size (by repeat (first | (with_reducible first | exact HB.out | apply hA_ | apply hN_ | apply hD_) | exact HB.out))) : w.heap.size ≤ gb194)); have n3 := aM_ ((by rw [hg]; exact (below_size (by repeat (first | (with_reducible first | exact HB.out | apply hA_ | apply hN_ | apply hD_) | exact HB.out))) : w.heap.size ≤ gb194)); clear HB; have HB := n0; have BK194 := n1; have GW194 := n2; have GE194 := n3; clear n0 n1 n2 n3; clear hb hbox hg; have hcz11_0 : w10.cell? ⟨gb194, 0, none⟩ = some (.int .i64 a0_0) := (blk_cell BK194.out 0).trans rfl; have hcz11_1 : w10.cell? ⟨gb194, 1, none⟩ = some (.int .i64 a0_1) := (blk_cell BK194.out 1).trans rfl; have hcz11_2 : w10.cell? ⟨gb194, 2, none⟩ = some (.int .i64 a0_2) := (blk_cell BK194.out 2).trans rfl; have hcz11_3 : w10.cell? ⟨gb194, 3, none⟩ = some (.int .i64 a0_3) := (blk_cell BK194.out 3).trans rfl; have hcz11_4 : w10.cell? ⟨gb194, 4, none⟩ = some (.int .i64 a0_4) := (blk_cell BK194.out 4).trans rfl; have hfz11_0 := blk_frozen BK194.out 0; have hfz11_1 := blk_frozen BK194.out 1; have hfz11_2 := blk_frozen BK194.out 2; have hfz11_3 := blk_frozen BK194.out 3; have hfz11_4 := blk_frozen BK194.out 4) | ((with_reducible refine gate_callee (f := 45) rfl ?_); refine goesL_ (some 4) rfl rfl Tryd.func45 (by kernel_rfl) rfl #[.agg #[.int .i64 a0_0, .int .i64 a0_1, .int .i64 a0_2, .int .i64 a0_3, .int .i64 a0_4], .int .i64 800] rfl (by (try simp only [mT_, mC_, mN_]); first | done | rfl | (simp only [List.length_drop, List.length_take]; rfl)) ?_; (with_reducible refine (impl_StepOk.calls k a0_0 a0_1 a0_2 a0_3 a0_4 800 true _ A2.out).mono ?_); rintro e w12 ⟨rfl, hb⟩; refine ⟨_, rfl, ?_⟩; have n0 := aM_ (blk_below (g := gb194) (o := .cells #[.int .i64 a0_0, .int .i64 a0_1, .int .i64 a0_2, .int .i64 a0_3, .int .i64 a0_4] 46 (0, 0)) (by (with_reducible repeat (first | refine bN_ ?_ _ | refine bD_ ?_ | refine bA_ ?_ _)); exact BK194.out) hb); have n1 := aM_ (below_step (by repeat (first | (with_reducible first | exact HB.out | apply hA_ | apply hN_ | apply hD_ | refine below_set ?_ GE194.out) | exact HB.out)) hb); clear BK194; clear HB; have BK194 := n0; have HB := n1; clear n0 n1; have hcz13_0 : w12.cell? ⟨gb194, 0, none⟩ = some (.int .i64 a0_0) := (blk_cell BK194.out 0).trans rfl; have hcz13_1 : w12.cell? ⟨gb194, 1, none⟩ = some (.int .i64 a0_1) := (blk_cell BK194.out 1).trans rfl; have hcz13_2 : w12.cell? ⟨gb194, 2, none⟩ = some (.int .i64 a0_2) := (blk_cell BK194.out 2).trans rfl; have hcz13_3 : w12.cell? ⟨gb194, 3, none⟩ = some (.int .i64 a0_3) := (blk_cell BK194.out 3).trans rfl; have hcz13_4 : w12.cell? ⟨gb194, 4, none⟩ = some (.int .i64 a0_4) := (blk_cell BK194.out 4).trans rfl; have hfz13_0 := blk_frozen BK194.out 0; have hfz13_1 := blk_frozen BK194.out 1; have hfz13_2 := blk_frozen BK194.out 2; have hfz13_3 := blk_frozen BK194.out 3; have hfz13_4 := blk_frozen BK194.out 4))
      (all_goals try (exfalso; have e1_ : (⟨#[32]⟩ : ByteArray).size = 1 := rfl; have e2_ : (⟨#[10]⟩ : ByteArray).size = 1 := rfl; simp only [ByteArray.size_append] at c7; omega))
      (all_goals try (exfalso; have e1_ : (⟨#[32]⟩ : ByteArray).size = 1 := rfl; have e2_ : (⟨#[10]⟩ : ByteArray).size = 1 := rfl; simp only [ByteArray.size_append] at c9; omega))
      have n0 := aM_ (blk_drew BK194.out)
      have n1 := aM_ (below_drew1 HB.out)
      clear BK194
      clear HB
      have BK194 := n0
      have HB := n1
      clear n0 n1
      refine start_ (n := 10) (S := fun w' => w'.cell? ⟨gb194, 0, none⟩ = some (.int .i64 a0_0) ∧ w'.cell? ⟨gb194, 1, none⟩ = some (.int .i64 a0_1) ∧ w'.cell? ⟨gb194, 2, none⟩ = some (.int .i64 a0_2) ∧ w'.cell? ⟨gb194, 3, none⟩ = some (.int .i64 a0_3) ∧ w'.cell? ⟨gb194, 4, none⟩ = some (.int .i64 a0_4)) (ds := []) #[false, false, false, false, false, false, false, false, false, false] (by kernel_rfl) rfl rfl ⟨(blk_cell BK194.out 0).trans rfl, (blk_cell BK194.out 1).trans rfl, (blk_cell BK194.out 2).trans rfl, (blk_cell BK194.out 3).trans rfl, (blk_cell BK194.out 4).trans rfl⟩ (fun hHeld => ?_); refine with_tabW impl_StepText.tab5 impl_StepText.bits5 (fun HT_ HW_ => ?_)
      generalize w12.drew = w14 at BK194 HB hHeld ⊢
      refine pure_ (i := 0) (N := some 10) (v := ?_) (a' := ?_) #[true, false, false, false, false, false, false, false, false, false] rfl rfl (any_of HT_.out (by kernel_rfl)) (fun _ _ _ h => h) (Or.inl ⟨by rfl, ?_⟩) ?_ ?_
      rotate_left
      ·intro w'
       go_simp
       with_reducible rfl
      rotate_left
      ·simp only [pt_, pn_, sI_, s0_, s1_, i64_w, i32_w]
       rfl
      refine pure_ (i := 5) (N := some 15) (v := ?_) (a' := ?_) #[true, false, false, false, false, true, false, false, false, false] rfl rfl (any_of HT_.out (by kernel_rfl)) (fun _ _ _ h => h) (Or.inl ⟨by rfl, ?_⟩) ?_ ?_
      rotate_left
      ·intro w'
       go_simp
       with_reducible rfl
      rotate_left
      ·simp only [pt_, pn_, sI_, s0_, s1_, i64_w, i32_w]
       rfl
      refine take_ (i := 1) (N := some 11) (v := ?_) (a' := ?_) #[true, true, false, false, false, true, false, false, false, false] rfl rfl (take_ofW HT_.out HW_.out (by kernel_rfl)) (fun _ _ _ h => h) (Or.inl ⟨by rfl, ?_⟩) hHeld ?_ ?_
      rotate_left
      ·rintro w' ⟨s0, s1, s2, s3, s4⟩
       go_simp
       with_reducible rfl
      rotate_left
      ·simp only [pt_, pn_, sI_, s0_, s1_, i64_w, i32_w]
       rfl
      refine take_ (i := 6) (N := some 16) (v := ?_) (a' := ?_) #[true, true, false, false, false, true, true, false, false, false] rfl rfl (take_ofW HT_.out HW_.out (by kernel_rfl)) (fun _ _ _ h => h) (Or.inl ⟨by rfl, ?_⟩) hHeld ?_ ?_
      rotate_left
      ·rintro w' ⟨s0, s1, s2, s3, s4⟩
       go_simp
       with_reducible rfl
      rotate_left
      ·simp only [pt_, pn_, sI_, s0_, s1_, i64_w, i32_w]
       rfl
      refine one_ (i := 2) (N := some 12) #[true, true, true, false, false, true, true, false, false, false] rfl rfl (one_of HT_.out (by kernel_rfl)) (by decide) (fun K hK => ?_)
      refine goes_ Tryd.func79 (by kernel_rfl) rfl #[.int .i64 a0_1] (by rfl) rfl rfl (by (try simp only [mT_, mC_, mN_]); first | done | rfl | (simp only [List.length_drop, List.length_take]; rfl)) ?_
      with_reducible refine (impl_reg.calls a0_1 t196 _ A5.out ?sT).mono ?_
      (case sT => first | with_reducible exact hT | exact Tab.Laid.below hT (by repeat (first | (with_reducible first | exact HB.out | apply hA_ | apply hN_ | apply hD_ | refine below_set ?_ GE194.out) | exact HB.out)))
      rintro e w15 ⟨rfl, hb⟩
      refine ⟨_, rfl, ?_⟩
      have n0 := aM_ (blk_below (g := gb194) (o := .cells #[.int .i64 a0_0, .int .i64 a0_1, .int .i64 a0_2, .int .i64 a0_3, .int .i64 a0_4] 46 (0, 0)) (by (with_reducible repeat (first | refine bN_ ?_ _ | refine bD_ ?_ | refine bA_ ?_ _)); exact BK194.out) hb)
      have n1 := aM_ (below_step (by repeat (first | (with_reducible first | exact HB.out | apply hA_ | apply hN_ | apply hD_ | refine below_set ?_ GE194.out) | exact HB.out)) hb)
      clear BK194
      clear HB
      have BK194 := n0
      have HB := n1
      clear n0 n1
      (try clear hb)
      (try clear hb2)
      (try clear hk)
      (try clear hi)
      refine hK.out _ _ ⟨(blk_cell BK194.out 0).trans rfl, (blk_cell BK194.out 1).trans rfl, (blk_cell BK194.out 2).trans rfl, (blk_cell BK194.out 3).trans rfl, (blk_cell BK194.out 4).trans rfl⟩ (fun hHeld => ?_)
      clear hK K
      refine norm_ (a' := ?_) ?_ ?_
      rotate_left
      ·show Act.put _ (some 12) _ = _
       simp only [pt_, pn_, sI_, s0_, s1_, i64_w, i32_w]
       rfl
      refine pure_ (i := 3) (N := some 13) (v := ?_) (a' := ?_) #[true, true, true, true, false, true, true, false, false, false] rfl rfl (any_of HT_.out (by kernel_rfl)) (fun _ _ _ h => h) (Or.inl ⟨by rfl, ?_⟩) ?_ ?_
      rotate_left
      ·intro w'
       go_simp
       with_reducible rfl
      rotate_left
      ·simp only [pt_, pn_, sI_, s0_, s1_, i64_w, i32_w]
       rfl
      refine pure_ (i := 4) (N := some 14) (v := ?_) (a' := ?_) #[true, true, true, true, true, true, true, false, false, false] rfl rfl (any_of HT_.out (by kernel_rfl)) (fun _ _ _ h => h) (Or.inl ⟨by rfl, ?_⟩) ?_ ?_
      rotate_left
      ·intro w'
       go_simp
       with_reducible rfl
      rotate_left
      ·simp only [pt_, pn_, sI_, s0_, s1_, i64_w, i32_w]
       rfl
      refine one_ (i := 7) (N := some 17) #[true, true, true, true, true, true, true, true, false, false] rfl rfl (one_of HT_.out (by kernel_rfl)) (by decide) (fun K hK => ?_)
      refine goes_ Tryd.func64 (by kernel_rfl) rfl #[.int .i64 a0_4] (by rfl) rfl rfl (by (try simp only [mT_, mC_, mN_]); first | done | rfl | (simp only [List.length_drop, List.length_take]; rfl)) ?_
      with_reducible refine (impl_digits.calls a0_4 t197 _ A8.out ?sT).mono ?_
      (case sT => first | with_reducible exact hT | exact Tab.Laid.below hT (by repeat (first | (with_reducible first | exact HB.out | apply hA_ | apply hN_ | apply hD_ | refine below_set ?_ GE194.out) | exact HB.out)))
      rintro e w16 ⟨rfl, hb⟩
      refine ⟨_, rfl, ?_⟩
      have n0 := aM_ (blk_below (g := gb194) (o := .cells #[.int .i64 a0_0, .int .i64 a0_1, .int .i64 a0_2, .int .i64 a0_3, .int .i64 a0_4] 46 (0, 0)) (by (with_reducible repeat (first | refine bN_ ?_ _ | refine bD_ ?_ | refine bA_ ?_ _)); exact BK194.out) hb)
      have n1 := aM_ (below_step (by repeat (first | (with_reducible first | exact HB.out | apply hA_ | apply hN_ | apply hD_ | refine below_set ?_ GE194.out) | exact HB.out)) hb)
      clear BK194
      clear HB
      have BK194 := n0
      have HB := n1
      clear n0 n1
      (try clear hb)
      (try clear hb2)
      (try clear hk)
      (try clear hi)
      refine hK.out _ _ ⟨(blk_cell BK194.out 0).trans rfl, (blk_cell BK194.out 1).trans rfl, (blk_cell BK194.out 2).trans rfl, (blk_cell BK194.out 3).trans rfl, (blk_cell BK194.out 4).trans rfl⟩ (fun hHeld => ?_)
      clear hK K
      refine norm_ (a' := ?_) ?_ ?_
      rotate_left
      ·show Act.put _ (some 17) _ = _
       simp only [pt_, pn_, sI_, s0_, s1_, i64_w, i32_w]
       rfl
      refine pure_ (i := 8) (N := some 18) (v := ?_) (a' := ?_) #[true, true, true, true, true, true, true, true, true, false] rfl rfl (any_of HT_.out (by kernel_rfl)) (fun _ _ _ h => h) (Or.inl ⟨by rfl, ?_⟩) ?_ ?_
      rotate_left
      ·intro w'
       go_simp
       with_reducible rfl
      rotate_left
      ·simp only [pt_, pn_, sI_, s0_, s1_, i64_w, i32_w]
       rfl
      refine pure_ (i := 9) (N := some 2) (v := ?_) (a' := ?_) #[true, true, true, true, true, true, true, true, true, true] rfl rfl (any_of HT_.out (by kernel_rfl)) (fun _ _ _ h => h) (Or.inl ⟨by rfl, ?_⟩) ?_ ?_
      rotate_left
      ·intro w'
       go_simp
       with_reducible rfl
      rotate_left
      ·simp only [pt_, pn_, sI_, s0_, s1_, i64_w, i32_w]
       rfl
      refine done_ (done_of HT_.out (by kernel_rfl)) ?_
      try go_wp2
      go_ret
      exact ⟨by first | rfl | (simp [errW_none, errW_some] <;> rfl) | (simp [*, errW_none, errW_some] <;> rfl), by repeat (first | (with_reducible first | exact HB.out | apply hA_ | apply hN_ | apply hD_ | refine below_set ?_ GE194.out) | exact HB.out)⟩
     ·rw [if_neg c9] at H
      exact absurd H (by simp)
    ·rw [if_neg c7] at H
     exact absurd H (by simp)
   ·rw [if_neg c6] at H
    exact absurd H (by simp)
  ·rw [if_neg c4] at H
   have c4b0 : (a0_0 == 1) = false := beq_eq_false_iff_ne.mpr c4
   have c4b1 : (a0_0 != 1) = true := bne_iff_ne.mpr c4
   by_cases c17 : a0_0 = 2
   ·rw [if_pos c17] at H
    have c17b0 : (a0_0 == 2) = true := beq_iff_eq.mpr c17
    have c17b1 : (a0_0 != 2) = false := bne_eq_false_iff_eq.mpr c17
    clear c17
    replace H := Option.bind_eq_some_iff.mp H
    obtain ⟨t198, A180, H⟩ := H
    replace H : (if 4 + t198.size ≤ 9223372036854775807 then (some ((⟨#[97, 100, 100, 32]⟩ : ByteArray) ++ t198)) else (none)) = some r := H
    have A18 := aM_ A180
    clear A180
    by_cases c19 : 4 + t198.size ≤ 9223372036854775807
    ·rw [if_pos c19] at H
     have c19b0 := eq_true c19
     have c19b1 : decide (4 + t198.size ≤ 9223372036854775807) = true := decide_eq_true c19
     try have c19b2 : (9223372036854775807 < 4 + t198.size) = False := eq_false (Nat.not_lt.2 c19)
     obtain rfl := Option.some.inj H
     go_enter Tryd.func29, Tryd.ntmps29
     go_wp2_with (first | ((with_reducible refine gate_dst (N := 1) rfl ?_); refine box_event ?hg (N := 1) ?hd (cs := #[.int .i64 a0_0, .int .i64 a0_1, .int .i64 a0_2, .int .i64 a0_3, .int .i64 a0_4]) (t := 46) ?hr ?_; (case hd => rfl); (case hg => rfl); (case hr => first | (go_simp; done) | (go_simp; rfl)); intro gb194 hg w20 hbox hb; have n0 := aM_ (below_step (by repeat (first | (with_reducible first | exact HB.out | apply hA_ | apply hN_ | apply hD_) | exact HB.out)) hb); have n1 := aM_ (hbox); have n2 := aM_ ((by rw [hg]; exact (below_size (by repeat (first | (with_reducible first | exact HB.out | apply hA_ | apply hN_ | apply hD_) | exact HB.out))) : w.heap.size ≤ gb194)); have n3 := aM_ ((by rw [hg]; exact (below_size (by repeat (first | (with_reducible first | exact HB.out | apply hA_ | apply hN_ | apply hD_) | exact HB.out))) : w.heap.size ≤ gb194)); clear HB; have HB := n0; have BK194 := n1; have GW194 := n2; have GE194 := n3; clear n0 n1 n2 n3; clear hb hbox hg; have hcz21_0 : w20.cell? ⟨gb194, 0, none⟩ = some (.int .i64 a0_0) := (blk_cell BK194.out 0).trans rfl; have hcz21_1 : w20.cell? ⟨gb194, 1, none⟩ = some (.int .i64 a0_1) := (blk_cell BK194.out 1).trans rfl; have hcz21_2 : w20.cell? ⟨gb194, 2, none⟩ = some (.int .i64 a0_2) := (blk_cell BK194.out 2).trans rfl; have hcz21_3 : w20.cell? ⟨gb194, 3, none⟩ = some (.int .i64 a0_3) := (blk_cell BK194.out 3).trans rfl; have hcz21_4 : w20.cell? ⟨gb194, 4, none⟩ = some (.int .i64 a0_4) := (blk_cell BK194.out 4).trans rfl; have hfz21_0 := blk_frozen BK194.out 0; have hfz21_1 := blk_frozen BK194.out 1; have hfz21_2 := blk_frozen BK194.out 2; have hfz21_3 := blk_frozen BK194.out 3; have hfz21_4 := blk_frozen BK194.out 4) | ((with_reducible refine gate_callee (f := 45) rfl ?_); refine goesL_ (some 4) rfl rfl Tryd.func45 (by kernel_rfl) rfl #[.agg #[.int .i64 a0_0, .int .i64 a0_1, .int .i64 a0_2, .int .i64 a0_3, .int .i64 a0_4], .int .i64 800] rfl (by (try simp only [mT_, mC_, mN_]); first | done | rfl | (simp only [List.length_drop, List.length_take]; rfl)) ?_; (with_reducible refine (impl_StepOk.calls k a0_0 a0_1 a0_2 a0_3 a0_4 800 true _ A2.out).mono ?_); rintro e w22 ⟨rfl, hb⟩; refine ⟨_, rfl, ?_⟩; have n0 := aM_ (blk_below (g := gb194) (o := .cells #[.int .i64 a0_0, .int .i64 a0_1, .int .i64 a0_2, .int .i64 a0_3, .int .i64 a0_4] 46 (0, 0)) (by (with_reducible repeat (first | refine bN_ ?_ _ | refine bD_ ?_ | refine bA_ ?_ _)); exact BK194.out) hb); have n1 := aM_ (below_step (by repeat (first | (with_reducible first | exact HB.out | apply hA_ | apply hN_ | apply hD_ | refine below_set ?_ GE194.out) | exact HB.out)) hb); clear BK194; clear HB; have BK194 := n0; have HB := n1; clear n0 n1; have hcz23_0 : w22.cell? ⟨gb194, 0, none⟩ = some (.int .i64 a0_0) := (blk_cell BK194.out 0).trans rfl; have hcz23_1 : w22.cell? ⟨gb194, 1, none⟩ = some (.int .i64 a0_1) := (blk_cell BK194.out 1).trans rfl; have hcz23_2 : w22.cell? ⟨gb194, 2, none⟩ = some (.int .i64 a0_2) := (blk_cell BK194.out 2).trans rfl; have hcz23_3 : w22.cell? ⟨gb194, 3, none⟩ = some (.int .i64 a0_3) := (blk_cell BK194.out 3).trans rfl; have hcz23_4 : w22.cell? ⟨gb194, 4, none⟩ = some (.int .i64 a0_4) := (blk_cell BK194.out 4).trans rfl; have hfz23_0 := blk_frozen BK194.out 0; have hfz23_1 := blk_frozen BK194.out 1; have hfz23_2 := blk_frozen BK194.out 2; have hfz23_3 := blk_frozen BK194.out 3; have hfz23_4 := blk_frozen BK194.out 4) | ((with_reducible refine gate_callee (f := 80) rfl ?_); refine goesL_ (some 22) rfl rfl Tryd.func80 (by kernel_rfl) rfl #[.agg #[.int .i64 a0_0, .int .i64 a0_1, .int .i64 a0_2, .int .i64 a0_3, .int .i64 a0_4]] rfl (by (try simp only [mT_, mC_, mN_]); first | done | rfl | (simp only [List.length_drop, List.length_take]; rfl)) ?_; (with_reducible refine (impl_threeText.calls a0_0 a0_1 a0_2 a0_3 a0_4 t198 _ A18.out ?sT).mono ?_); (case sT => first | with_reducible exact hT | exact Tab.Laid.below hT (by repeat (first | (with_reducible first | exact HB.out | apply hA_ | apply hN_ | apply hD_ | refine below_set ?_ GE194.out) | exact HB.out))); rintro e w24 ⟨rfl, hb⟩; refine ⟨_, rfl, ?_⟩; have n0 := aM_ (blk_below (g := gb194) (o := .cells #[.int .i64 a0_0, .int .i64 a0_1, .int .i64 a0_2, .int .i64 a0_3, .int .i64 a0_4] 46 (0, 0)) (by (with_reducible repeat (first | refine bN_ ?_ _ | refine bD_ ?_ | refine bA_ ?_ _)); exact BK194.out) hb); have n1 := aM_ (below_step (by repeat (first | (with_reducible first | exact HB.out | apply hA_ | apply hN_ | apply hD_ | refine below_set ?_ GE194.out) | exact HB.out)) hb); clear BK194; clear HB; have BK194 := n0; have HB := n1; clear n0 n1))
     go_ret
     exact ⟨by first | rfl | (simp [errW_none, errW_some] <;> rfl) | (simp [*, errW_none, errW_some] <;> rfl), by repeat (first | (with_reducible first | exact HB.out | apply hA_ | apply hN_ | apply hD_ | refine below_set ?_ GE194.out) | exact HB.out)⟩
    ·rw [if_neg c19] at H
     exact absurd H (by simp)
   ·rw [if_neg c17] at H
    have c17b0 : (a0_0 == 2) = false := beq_eq_false_iff_ne.mpr c17
    have c17b1 : (a0_0 != 2) = true := bne_iff_ne.mpr c17
    by_cases c25 : a0_0 = 3
    ·rw [if_pos c25] at H
     have c25b0 : (a0_0 == 3) = true := beq_iff_eq.mpr c25
     have c25b1 : (a0_0 != 3) = false := bne_eq_false_iff_eq.mpr c25
     clear c25
     replace H := Option.bind_eq_some_iff.mp H
     obtain ⟨t199, A260, H⟩ := H
     replace H : (if 4 + t199.size ≤ 9223372036854775807 then (some ((⟨#[115, 117, 98, 32]⟩ : ByteArray) ++ t199)) else (none)) = some r := H
     have A26 := aM_ A260
     clear A260
     by_cases c27 : 4 + t199.size ≤ 9223372036854775807
     ·rw [if_pos c27] at H
      have c27b0 := eq_true c27
      have c27b1 : decide (4 + t199.size ≤ 9223372036854775807) = true := decide_eq_true c27
      try have c27b2 : (9223372036854775807 < 4 + t199.size) = False := eq_false (Nat.not_lt.2 c27)
      obtain rfl := Option.some.inj H
      go_enter Tryd.func29, Tryd.ntmps29
      go_wp2_with (first | ((with_reducible refine gate_dst (N := 1) rfl ?_); refine box_event ?hg (N := 1) ?hd (cs := #[.int .i64 a0_0, .int .i64 a0_1, .int .i64 a0_2, .int .i64 a0_3, .int .i64 a0_4]) (t := 46) ?hr ?_; (case hd => rfl); (case hg => rfl); (case hr => first | (go_simp; done) | (go_simp; rfl)); intro gb194 hg w28 hbox hb; have n0 := aM_ (below_step (by repeat (first | (with_reducible first | exact HB.out | apply hA_ | apply hN_ | apply hD_) | exact HB.out)) hb); have n1 := aM_ (hbox); have n2 := aM_ ((by rw [hg]; exact (below_size (by repeat (first | (with_reducible first | exact HB.out | apply hA_ | apply hN_ | apply hD_) | exact HB.out))) : w.heap.size ≤ gb194)); have n3 := aM_ ((by rw [hg]; exact (below_size (by repeat (first | (with_reducible first | exact HB.out | apply hA_ | apply hN_ | apply hD_) | exact HB.out))) : w.heap.size ≤ gb194)); clear HB; have HB := n0; have BK194 := n1; have GW194 := n2; have GE194 := n3; clear n0 n1 n2 n3; clear hb hbox hg; have hcz29_0 : w28.cell? ⟨gb194, 0, none⟩ = some (.int .i64 a0_0) := (blk_cell BK194.out 0).trans rfl; have hcz29_1 : w28.cell? ⟨gb194, 1, none⟩ = some (.int .i64 a0_1) := (blk_cell BK194.out 1).trans rfl; have hcz29_2 : w28.cell? ⟨gb194, 2, none⟩ = some (.int .i64 a0_2) := (blk_cell BK194.out 2).trans rfl; have hcz29_3 : w28.cell? ⟨gb194, 3, none⟩ = some (.int .i64 a0_3) := (blk_cell BK194.out 3).trans rfl; have hcz29_4 : w28.cell? ⟨gb194, 4, none⟩ = some (.int .i64 a0_4) := (blk_cell BK194.out 4).trans rfl; have hfz29_0 := blk_frozen BK194.out 0; have hfz29_1 := blk_frozen BK194.out 1; have hfz29_2 := blk_frozen BK194.out 2; have hfz29_3 := blk_frozen BK194.out 3; have hfz29_4 := blk_frozen BK194.out 4) | ((with_reducible refine gate_callee (f := 45) rfl ?_); refine goesL_ (some 4) rfl rfl Tryd.func45 (by kernel_rfl) rfl #[.agg #[.int .i64 a0_0, .int .i64 a0_1, .int .i64 a0_2, .int .i64 a0_3, .int .i64 a0_4], .int .i64 800] rfl (by (try simp only [mT_, mC_, mN_]); first | done | rfl | (simp only [List.length_drop, List.length_take]; rfl)) ?_; (with_reducible refine (impl_StepOk.calls k a0_0 a0_1 a0_2 a0_3 a0_4 800 true _ A2.out).mono ?_); rintro e w30 ⟨rfl, hb⟩; refine ⟨_, rfl, ?_⟩; have n0 := aM_ (blk_below (g := gb194) (o := .cells #[.int .i64 a0_0, .int .i64 a0_1, .int .i64 a0_2, .int .i64 a0_3, .int .i64 a0_4] 46 (0, 0)) (by (with_reducible repeat (first | refine bN_ ?_ _ | refine bD_ ?_ | refine bA_ ?_ _)); exact BK194.out) hb); have n1 := aM_ (below_step (by repeat (first | (with_reducible first | exact HB.out | apply hA_ | apply hN_ | apply hD_ | refine below_set ?_ GE194.out) | exact HB.out)) hb); clear BK194; clear HB; have BK194 := n0; have HB := n1; clear n0 n1; have hcz31_0 : w30.cell? ⟨gb194, 0, none⟩ = some (.int .i64 a0_0) := (blk_cell BK194.out 0).trans rfl; have hcz31_1 : w30.cell? ⟨gb194, 1, none⟩ = some (.int .i64 a0_1) := (blk_cell BK194.out 1).trans rfl; have hcz31_2 : w30.cell? ⟨gb194, 2, none⟩ = some (.int .i64 a0_2) := (blk_cell BK194.out 2).trans rfl; have hcz31_3 : w30.cell? ⟨gb194, 3, none⟩ = some (.int .i64 a0_3) := (blk_cell BK194.out 3).trans rfl; have hcz31_4 : w30.cell? ⟨gb194, 4, none⟩ = some (.int .i64 a0_4) := (blk_cell BK194.out 4).trans rfl; have hfz31_0 := blk_frozen BK194.out 0; have hfz31_1 := blk_frozen BK194.out 1; have hfz31_2 := blk_frozen BK194.out 2; have hfz31_3 := blk_frozen BK194.out 3; have hfz31_4 := blk_frozen BK194.out 4) | ((with_reducible refine gate_callee (f := 80) rfl ?_); refine goesL_ (some 27) rfl rfl Tryd.func80 (by kernel_rfl) rfl #[.agg #[.int .i64 a0_0, .int .i64 a0_1, .int .i64 a0_2, .int .i64 a0_3, .int .i64 a0_4]] rfl (by (try simp only [mT_, mC_, mN_]); first | done | rfl | (simp only [List.length_drop, List.length_take]; rfl)) ?_; (with_reducible refine (impl_threeText.calls a0_0 a0_1 a0_2 a0_3 a0_4 t199 _ A26.out ?sT).mono ?_); (case sT => first | with_reducible exact hT | exact Tab.Laid.below hT (by repeat (first | (with_reducible first | exact HB.out | apply hA_ | apply hN_ | apply hD_ | refine below_set ?_ GE194.out) | exact HB.out))); rintro e w32 ⟨rfl, hb⟩; refine ⟨_, rfl, ?_⟩; have n0 := aM_ (blk_below (g := gb194) (o := .cells #[.int .i64 a0_0, .int .i64 a0_1, .int .i64 a0_2, .int .i64 a0_3, .int .i64 a0_4] 46 (0, 0)) (by (with_reducible repeat (first | refine bN_ ?_ _ | refine bD_ ?_ | refine bA_ ?_ _)); exact BK194.out) hb); have n1 := aM_ (below_step (by repeat (first | (with_reducible first | exact HB.out | apply hA_ | apply hN_ | apply hD_ | refine below_set ?_ GE194.out) | exact HB.out)) hb); clear BK194; clear HB; have BK194 := n0; have HB := n1; clear n0 n1))
      go_ret
      exact ⟨by first | rfl | (simp [errW_none, errW_some] <;> rfl) | (simp [*, errW_none, errW_some] <;> rfl), by repeat (first | (with_reducible first | exact HB.out | apply hA_ | apply hN_ | apply hD_ | refine below_set ?_ GE194.out) | exact HB.out)⟩
     ·rw [if_neg c27] at H
      exact absurd H (by simp)
    ·rw [if_neg c25] at H
     have c25b0 : (a0_0 == 3) = false := beq_eq_false_iff_ne.mpr c25
     have c25b1 : (a0_0 != 3) = true := bne_iff_ne.mpr c25
     by_cases c33 : a0_0 = 4
     ·rw [if_pos c33] at H
      have c33b0 : (a0_0 == 4) = true := beq_iff_eq.mpr c33
      have c33b1 : (a0_0 != 4) = false := bne_eq_false_iff_eq.mpr c33
      clear c33
      replace H := Option.bind_eq_some_iff.mp H
      obtain ⟨t200, A340, H⟩ := H
      replace H : (if 5 + t200.size ≤ 9223372036854775807 then (some ((⟨#[108, 101, 115, 115, 32]⟩ : ByteArray) ++ t200)) else (none)) = some r := H
      have A34 := aM_ A340
      clear A340
      by_cases c35 : 5 + t200.size ≤ 9223372036854775807
      ·rw [if_pos c35] at H
       have c35b0 := eq_true c35
       have c35b1 : decide (5 + t200.size ≤ 9223372036854775807) = true := decide_eq_true c35
       try have c35b2 : (9223372036854775807 < 5 + t200.size) = False := eq_false (Nat.not_lt.2 c35)
       obtain rfl := Option.some.inj H
       go_enter Tryd.func29, Tryd.ntmps29
       go_wp2_with (first | ((with_reducible refine gate_dst (N := 1) rfl ?_); refine box_event ?hg (N := 1) ?hd (cs := #[.int .i64 a0_0, .int .i64 a0_1, .int .i64 a0_2, .int .i64 a0_3, .int .i64 a0_4]) (t := 46) ?hr ?_; (case hd => rfl); (case hg => rfl); (case hr => first | (go_simp; done) | (go_simp; rfl)); intro gb194 hg w36 hbox hb; have n0 := aM_ (below_step (by repeat (first | (with_reducible first | exact HB.out | apply hA_ | apply hN_ | apply hD_) | exact HB.out)) hb); have n1 := aM_ (hbox); have n2 := aM_ ((by rw [hg]; exact (below_size (by repeat (first | (with_reducible first | exact HB.out | apply hA_ | apply hN_ | apply hD_) | exact HB.out))) : w.heap.size ≤ gb194)); have n3 := aM_ ((by rw [hg]; exact (below_size (by repeat (first | (with_reducible first | exact HB.out | apply hA_ | apply hN_ | apply hD_) | exact HB.out))) : w.heap.size ≤ gb194)); clear HB; have HB := n0; have BK194 := n1; have GW194 := n2; have GE194 := n3; clear n0 n1 n2 n3; clear hb hbox hg; have hcz37_0 : w36.cell? ⟨gb194, 0, none⟩ = some (.int .i64 a0_0) := (blk_cell BK194.out 0).trans rfl; have hcz37_1 : w36.cell? ⟨gb194, 1, none⟩ = some (.int .i64 a0_1) := (blk_cell BK194.out 1).trans rfl; have hcz37_2 : w36.cell? ⟨gb194, 2, none⟩ = some (.int .i64 a0_2) := (blk_cell BK194.out 2).trans rfl; have hcz37_3 : w36.cell? ⟨gb194, 3, none⟩ = some (.int .i64 a0_3) := (blk_cell BK194.out 3).trans rfl; have hcz37_4 : w36.cell? ⟨gb194, 4, none⟩ = some (.int .i64 a0_4) := (blk_cell BK194.out 4).trans rfl; have hfz37_0 := blk_frozen BK194.out 0; have hfz37_1 := blk_frozen BK194.out 1; have hfz37_2 := blk_frozen BK194.out 2; have hfz37_3 := blk_frozen BK194.out 3; have hfz37_4 := blk_frozen BK194.out 4) | ((with_reducible refine gate_callee (f := 45) rfl ?_); refine goesL_ (some 4) rfl rfl Tryd.func45 (by kernel_rfl) rfl #[.agg #[.int .i64 a0_0, .int .i64 a0_1, .int .i64 a0_2, .int .i64 a0_3, .int .i64 a0_4], .int .i64 800] rfl (by (try simp only [mT_, mC_, mN_]); first | done | rfl | (simp only [List.length_drop, List.length_take]; rfl)) ?_; (with_reducible refine (impl_StepOk.calls k a0_0 a0_1 a0_2 a0_3 a0_4 800 true _ A2.out).mono ?_); rintro e w38 ⟨rfl, hb⟩; refine ⟨_, rfl, ?_⟩; have n0 := aM_ (blk_below (g := gb194) (o := .cells #[.int .i64 a0_0, .int .i64 a0_1, .int .i64 a0_2, .int .i64 a0_3, .int .i64 a0_4] 46 (0, 0)) (by (with_reducible repeat (first | refine bN_ ?_ _ | refine bD_ ?_ | refine bA_ ?_ _)); exact BK194.out) hb); have n1 := aM_ (below_step (by repeat (first | (with_reducible first | exact HB.out | apply hA_ | apply hN_ | apply hD_ | refine below_set ?_ GE194.out) | exact HB.out)) hb); clear BK194; clear HB; have BK194 := n0; have HB := n1; clear n0 n1; have hcz39_0 : w38.cell? ⟨gb194, 0, none⟩ = some (.int .i64 a0_0) := (blk_cell BK194.out 0).trans rfl; have hcz39_1 : w38.cell? ⟨gb194, 1, none⟩ = some (.int .i64 a0_1) := (blk_cell BK194.out 1).trans rfl; have hcz39_2 : w38.cell? ⟨gb194, 2, none⟩ = some (.int .i64 a0_2) := (blk_cell BK194.out 2).trans rfl; have hcz39_3 : w38.cell? ⟨gb194, 3, none⟩ = some (.int .i64 a0_3) := (blk_cell BK194.out 3).trans rfl; have hcz39_4 : w38.cell? ⟨gb194, 4, none⟩ = some (.int .i64 a0_4) := (blk_cell BK194.out 4).trans rfl; have hfz39_0 := blk_frozen BK194.out 0; have hfz39_1 := blk_frozen BK194.out 1; have hfz39_2 := blk_frozen BK194.out 2; have hfz39_3 := blk_frozen BK194.out 3; have hfz39_4 := blk_frozen BK194.out 4) | ((with_reducible refine gate_callee (f := 80) rfl ?_); refine goesL_ (some 32) rfl rfl Tryd.func80 (by kernel_rfl) rfl #[.agg #[.int .i64 a0_0, .int .i64 a0_1, .int .i64 a0_2, .int .i64 a0_3, .int .i64 a0_4]] rfl (by (try simp only [mT_, mC_, mN_]); first | done | rfl | (simp only [List.length_drop, List.length_take]; rfl)) ?_; (with_reducible refine (impl_threeText.calls a0_0 a0_1 a0_2 a0_3 a0_4 t200 _ A34.out ?sT).mono ?_); (case sT => first | with_reducible exact hT | exact Tab.Laid.below hT (by repeat (first | (with_reducible first | exact HB.out | apply hA_ | apply hN_ | apply hD_ | refine below_set ?_ GE194.out) | exact HB.out))); rintro e w40 ⟨rfl, hb⟩; refine ⟨_, rfl, ?_⟩; have n0 := aM_ (blk_below (g := gb194) (o := .cells #[.int .i64 a0_0, .int .i64 a0_1, .int .i64 a0_2, .int .i64 a0_3, .int .i64 a0_4] 46 (0, 0)) (by (with_reducible repeat (first | refine bN_ ?_ _ | refine bD_ ?_ | refine bA_ ?_ _)); exact BK194.out) hb); have n1 := aM_ (below_step (by repeat (first | (with_reducible first | exact HB.out | apply hA_ | apply hN_ | apply hD_ | refine below_set ?_ GE194.out) | exact HB.out)) hb); clear BK194; clear HB; have BK194 := n0; have HB := n1; clear n0 n1))
       go_ret
       exact ⟨by first | rfl | (simp [errW_none, errW_some] <;> rfl) | (simp [*, errW_none, errW_some] <;> rfl), by repeat (first | (with_reducible first | exact HB.out | apply hA_ | apply hN_ | apply hD_ | refine below_set ?_ GE194.out) | exact HB.out)⟩
      ·rw [if_neg c35] at H
       exact absurd H (by simp)
     ·rw [if_neg c33] at H
      have c33b0 : (a0_0 == 4) = false := beq_eq_false_iff_ne.mpr c33
      have c33b1 : (a0_0 != 4) = true := bne_iff_ne.mpr c33
      by_cases c41 : a0_0 = 5
      ·rw [if_pos c41] at H
       have c41b0 : (a0_0 == 5) = true := beq_iff_eq.mpr c41
       have c41b1 : (a0_0 != 5) = false := bne_eq_false_iff_eq.mpr c41
       clear c41
       replace H := Option.bind_eq_some_iff.mp H
       obtain ⟨t201, A420, H⟩ := H
       replace H : (if 5 + t201.size ≤ 9223372036854775807 then (if ((⟨#[108, 111, 97, 100, 32]⟩ : ByteArray) ++ t201).size + 1 ≤ 9223372036854775807 then ((impl_cellText.f k a0_0 a0_1 a0_2 a0_3 a0_4).bind fun t202 => (if (((⟨#[108, 111, 97, 100, 32]⟩ : ByteArray) ++ t201) ++ (⟨#[32]⟩ : ByteArray)).size + t202.size ≤ 9223372036854775807 then (some ((((⟨#[108, 111, 97, 100, 32]⟩ : ByteArray) ++ t201) ++ (⟨#[32]⟩ : ByteArray)) ++ t202)) else (none))) else (none)) else (none)) = some r := H
       have A42 := aM_ A420
       clear A420
       by_cases c43 : 5 + t201.size ≤ 9223372036854775807
       ·rw [if_pos c43] at H
        have c43b0 := eq_true c43
        have c43b1 : decide (5 + t201.size ≤ 9223372036854775807) = true := decide_eq_true c43
        try have c43b2 : (9223372036854775807 < 5 + t201.size) = False := eq_false (Nat.not_lt.2 c43)
        by_cases c44 : ((⟨#[108, 111, 97, 100, 32]⟩ : ByteArray) ++ t201).size + 1 ≤ 9223372036854775807
        ·rw [if_pos c44] at H
         have c44b0 := eq_true c44
         have c44b1 : decide (((⟨#[108, 111, 97, 100, 32]⟩ : ByteArray) ++ t201).size + 1 ≤ 9223372036854775807) = true := decide_eq_true c44
         (try (have c44n := c44; simp only [ByteArray.size_append, Tab.sz_mk, List.size_toArray, List.length_cons, List.length_nil, Nat.zero_add, Nat.reduceAdd] at c44n; have c44b4 := eq_true c44n; have c44b5 := eq_false (Nat.not_lt.2 c44n)))
         try have c44b2 : (9223372036854775807 < ((⟨#[108, 111, 97, 100, 32]⟩ : ByteArray) ++ t201).size + 1) = False := eq_false (Nat.not_lt.2 c44)
         replace H := Option.bind_eq_some_iff.mp H
         obtain ⟨t202, A450, H⟩ := H
         replace H : (if (((⟨#[108, 111, 97, 100, 32]⟩ : ByteArray) ++ t201) ++ (⟨#[32]⟩ : ByteArray)).size + t202.size ≤ 9223372036854775807 then (some ((((⟨#[108, 111, 97, 100, 32]⟩ : ByteArray) ++ t201) ++ (⟨#[32]⟩ : ByteArray)) ++ t202)) else (none)) = some r := H
         have A45 := aM_ A450
         clear A450
         by_cases c46 : (((⟨#[108, 111, 97, 100, 32]⟩ : ByteArray) ++ t201) ++ (⟨#[32]⟩ : ByteArray)).size + t202.size ≤ 9223372036854775807
         ·rw [if_pos c46] at H
          have c46b0 := eq_true c46
          have c46b1 : decide ((((⟨#[108, 111, 97, 100, 32]⟩ : ByteArray) ++ t201) ++ (⟨#[32]⟩ : ByteArray)).size + t202.size ≤ 9223372036854775807) = true := decide_eq_true c46
          (try (have c46n := c46; simp only [ByteArray.size_append, Tab.sz_mk, List.size_toArray, List.length_cons, List.length_nil, Nat.zero_add, Nat.reduceAdd] at c46n; have c46b4 := eq_true c46n; have c46b5 := eq_false (Nat.not_lt.2 c46n)))
          try have c46b2 : (9223372036854775807 < (((⟨#[108, 111, 97, 100, 32]⟩ : ByteArray) ++ t201) ++ (⟨#[32]⟩ : ByteArray)).size + t202.size) = False := eq_false (Nat.not_lt.2 c46)
          obtain rfl := Option.some.inj H
          go_enter Tryd.func29, Tryd.ntmps29
          try go_wp2_with (first | ((with_reducible refine gate_dst (N := 1) rfl ?_); refine box_event ?hg (N := 1) ?hd (cs := #[.int .i64 a0_0, .int .i64 a0_1, .int .i64 a0_2, .int .i64 a0_3, .int .i64 a0_4]) (t := 46) ?hr ?_; (case hd => rfl); (case hg => rfl); (case hr => first | (go_simp; done) | (go_simp; rfl)); intro gb194 hg w47 hbox hb; have n0 := aM_ (below_step (by repeat (first | (with_reducible first | exact HB.out | apply hA_ | apply hN_ | apply hD_) | exact HB.out)) hb); have n1 := aM_ (hbox); have n2 := aM_ ((by rw [hg]; exact (below_size (by repeat (first | (with_reducible first | exact HB.out | apply hA_ | apply hN_ | apply hD_) | exact HB.out))) : w.heap.size ≤ gb194)); have n3 := aM_ ((by rw [hg]; exact (below_size (by repeat (first | (with_reducible first | exact HB.out | apply hA_ | apply hN_ | apply hD_) | exact HB.out))) : w.heap.size ≤ gb194)); clear HB; have HB := n0; have BK194 := n1; have GW194 := n2; have GE194 := n3; clear n0 n1 n2 n3; clear hb hbox hg; have hcz48_0 : w47.cell? ⟨gb194, 0, none⟩ = some (.int .i64 a0_0) := (blk_cell BK194.out 0).trans rfl; have hcz48_1 : w47.cell? ⟨gb194, 1, none⟩ = some (.int .i64 a0_1) := (blk_cell BK194.out 1).trans rfl; have hcz48_2 : w47.cell? ⟨gb194, 2, none⟩ = some (.int .i64 a0_2) := (blk_cell BK194.out 2).trans rfl; have hcz48_3 : w47.cell? ⟨gb194, 3, none⟩ = some (.int .i64 a0_3) := (blk_cell BK194.out 3).trans rfl; have hcz48_4 : w47.cell? ⟨gb194, 4, none⟩ = some (.int .i64 a0_4) := (blk_cell BK194.out 4).trans rfl; have hfz48_0 := blk_frozen BK194.out 0; have hfz48_1 := blk_frozen BK194.out 1; have hfz48_2 := blk_frozen BK194.out 2; have hfz48_3 := blk_frozen BK194.out 3; have hfz48_4 := blk_frozen BK194.out 4) | ((with_reducible refine gate_callee (f := 45) rfl ?_); refine goesL_ (some 4) rfl rfl Tryd.func45 (by kernel_rfl) rfl #[.agg #[.int .i64 a0_0, .int .i64 a0_1, .int .i64 a0_2, .int .i64 a0_3, .int .i64 a0_4], .int .i64 800] rfl (by (try simp only [mT_, mC_, mN_]); first | done | rfl | (simp only [List.length_drop, List.length_take]; rfl)) ?_; (with_reducible refine (impl_StepOk.calls k a0_0 a0_1 a0_2 a0_3 a0_4 800 true _ A2.out).mono ?_); rintro e w49 ⟨rfl, hb⟩; refine ⟨_, rfl, ?_⟩; have n0 := aM_ (blk_below (g := gb194) (o := .cells #[.int .i64 a0_0, .int .i64 a0_1, .int .i64 a0_2, .int .i64 a0_3, .int .i64 a0_4] 46 (0, 0)) (by (with_reducible repeat (first | refine bN_ ?_ _ | refine bD_ ?_ | refine bA_ ?_ _)); exact BK194.out) hb); have n1 := aM_ (below_step (by repeat (first | (with_reducible first | exact HB.out | apply hA_ | apply hN_ | apply hD_ | refine below_set ?_ GE194.out) | exact HB.out)) hb); clear BK194; clear HB; have BK194 := n0; have HB := n1; clear n0 n1; have hcz50_0 : w49.cell? ⟨gb194, 0, none⟩ = some (.int .i64 a0_0) := (blk_cell BK194.out 0).trans rfl; have hcz50_1 : w49.cell? ⟨gb194, 1, none⟩ = some (.int .i64 a0_1) := (blk_cell BK194.out 1).trans rfl; have hcz50_2 : w49.cell? ⟨gb194, 2, none⟩ = some (.int .i64 a0_2) := (blk_cell BK194.out 2).trans rfl; have hcz50_3 : w49.cell? ⟨gb194, 3, none⟩ = some (.int .i64 a0_3) := (blk_cell BK194.out 3).trans rfl; have hcz50_4 : w49.cell? ⟨gb194, 4, none⟩ = some (.int .i64 a0_4) := (blk_cell BK194.out 4).trans rfl; have hfz50_0 := blk_frozen BK194.out 0; have hfz50_1 := blk_frozen BK194.out 1; have hfz50_2 := blk_frozen BK194.out 2; have hfz50_3 := blk_frozen BK194.out 3; have hfz50_4 := blk_frozen BK194.out 4))
          (all_goals try (exfalso; have e1_ : (⟨#[32]⟩ : ByteArray).size = 1 := rfl; have e2_ : (⟨#[10]⟩ : ByteArray).size = 1 := rfl; simp only [ByteArray.size_append] at c44; omega))
          (all_goals try (exfalso; have e1_ : (⟨#[32]⟩ : ByteArray).size = 1 := rfl; have e2_ : (⟨#[10]⟩ : ByteArray).size = 1 := rfl; simp only [ByteArray.size_append] at c46; omega))
          have n0 := aM_ (blk_drew BK194.out)
          have n1 := aM_ (below_drew1 HB.out)
          clear BK194
          clear HB
          have BK194 := n0
          have HB := n1
          clear n0 n1
          refine start_ (n := 9) (S := fun w' => w'.cell? ⟨gb194, 0, none⟩ = some (.int .i64 a0_0) ∧ w'.cell? ⟨gb194, 1, none⟩ = some (.int .i64 a0_1) ∧ w'.cell? ⟨gb194, 2, none⟩ = some (.int .i64 a0_2) ∧ w'.cell? ⟨gb194, 3, none⟩ = some (.int .i64 a0_3) ∧ w'.cell? ⟨gb194, 4, none⟩ = some (.int .i64 a0_4)) (ds := []) #[false, false, false, false, false, false, false, false, false] (by kernel_rfl) rfl rfl ⟨(blk_cell BK194.out 0).trans rfl, (blk_cell BK194.out 1).trans rfl, (blk_cell BK194.out 2).trans rfl, (blk_cell BK194.out 3).trans rfl, (blk_cell BK194.out 4).trans rfl⟩ (fun hHeld => ?_); refine with_tabW impl_StepText.tab13 impl_StepText.bits13 (fun HT_ HW_ => ?_)
          generalize w49.drew = w51 at BK194 HB hHeld ⊢
          refine pure_ (i := 0) (N := some 36) (v := ?_) (a' := ?_) #[true, false, false, false, false, false, false, false, false] rfl rfl (any_of HT_.out (by kernel_rfl)) (fun _ _ _ h => h) (Or.inl ⟨by rfl, ?_⟩) ?_ ?_
          rotate_left
          ·intro w'
           go_simp
           with_reducible rfl
          rotate_left
          ·simp only [pt_, pn_, sI_, s0_, s1_, i64_w, i32_w]
           rfl
          refine take_ (i := 1) (N := some 37) (v := ?_) (a' := ?_) #[true, true, false, false, false, false, false, false, false] rfl rfl (take_ofW HT_.out HW_.out (by kernel_rfl)) (fun _ _ _ h => h) (Or.inl ⟨by rfl, ?_⟩) hHeld ?_ ?_
          rotate_left
          ·rintro w' ⟨s0, s1, s2, s3, s4⟩
           go_simp
           with_reducible rfl
          rotate_left
          ·simp only [pt_, pn_, sI_, s0_, s1_, i64_w, i32_w]
           rfl
          refine take_ (i := 5) (N := some 41) (v := ?_) (a' := ?_) #[true, true, false, false, false, true, false, false, false] rfl rfl (take_ofW HT_.out HW_.out (by kernel_rfl)) (fun _ _ _ h => h) (Or.inl ⟨by rfl, ?_⟩) hHeld ?_ ?_
          rotate_left
          ·rintro w' ⟨s0, s1, s2, s3, s4⟩
           go_simp
           with_reducible rfl
          rotate_left
          ·simp only [pt_, pn_, sI_, s0_, s1_, i64_w, i32_w]
           rfl
          refine one_ (i := 2) (N := some 38) #[true, true, true, false, false, true, false, false, false] rfl rfl (one_of HT_.out (by kernel_rfl)) (by decide) (fun K hK => ?_)
          refine goes_ Tryd.func79 (by kernel_rfl) rfl #[.int .i64 a0_1] (by rfl) rfl rfl (by (try simp only [mT_, mC_, mN_]); first | done | rfl | (simp only [List.length_drop, List.length_take]; rfl)) ?_
          with_reducible refine (impl_reg.calls a0_1 t201 _ A42.out ?sT).mono ?_
          (case sT => first | with_reducible exact hT | exact Tab.Laid.below hT (by repeat (first | (with_reducible first | exact HB.out | apply hA_ | apply hN_ | apply hD_ | refine below_set ?_ GE194.out) | exact HB.out)))
          rintro e w52 ⟨rfl, hb⟩
          refine ⟨_, rfl, ?_⟩
          have n0 := aM_ (blk_below (g := gb194) (o := .cells #[.int .i64 a0_0, .int .i64 a0_1, .int .i64 a0_2, .int .i64 a0_3, .int .i64 a0_4] 46 (0, 0)) (by (with_reducible repeat (first | refine bN_ ?_ _ | refine bD_ ?_ | refine bA_ ?_ _)); exact BK194.out) hb)
          have n1 := aM_ (below_step (by repeat (first | (with_reducible first | exact HB.out | apply hA_ | apply hN_ | apply hD_ | refine below_set ?_ GE194.out) | exact HB.out)) hb)
          clear BK194
          clear HB
          have BK194 := n0
          have HB := n1
          clear n0 n1
          (try clear hb)
          (try clear hb2)
          (try clear hk)
          (try clear hi)
          refine hK.out _ _ ⟨(blk_cell BK194.out 0).trans rfl, (blk_cell BK194.out 1).trans rfl, (blk_cell BK194.out 2).trans rfl, (blk_cell BK194.out 3).trans rfl, (blk_cell BK194.out 4).trans rfl⟩ (fun hHeld => ?_)
          clear hK K
          refine norm_ (a' := ?_) ?_ ?_
          rotate_left
          ·show Act.put _ (some 38) _ = _
           simp only [pt_, pn_, sI_, s0_, s1_, i64_w, i32_w]
           rfl
          refine pure_ (i := 3) (N := some 39) (v := ?_) (a' := ?_) #[true, true, true, true, false, true, false, false, false] rfl rfl (any_of HT_.out (by kernel_rfl)) (fun _ _ _ h => h) (Or.inl ⟨by rfl, ?_⟩) ?_ ?_
          rotate_left
          ·intro w'
           go_simp
           with_reducible rfl
          rotate_left
          ·simp only [pt_, pn_, sI_, s0_, s1_, i64_w, i32_w]
           rfl
          refine pure_ (i := 4) (N := some 40) (v := ?_) (a' := ?_) #[true, true, true, true, true, true, false, false, false] rfl rfl (any_of HT_.out (by kernel_rfl)) (fun _ _ _ h => h) (Or.inl ⟨by rfl, ?_⟩) ?_ ?_
          rotate_left
          ·intro w'
           go_simp
           with_reducible rfl
          rotate_left
          ·simp only [pt_, pn_, sI_, s0_, s1_, i64_w, i32_w]
           rfl
          refine one_ (i := 6) (N := some 42) #[true, true, true, true, true, true, true, false, false] rfl rfl (one_of HT_.out (by kernel_rfl)) (by decide) (fun K hK => ?_)
          refine goes_ Tryd.func81 (by kernel_rfl) rfl #[.agg #[.int .i64 a0_0, .int .i64 a0_1, .int .i64 a0_2, .int .i64 a0_3, .int .i64 a0_4]] (by rfl) rfl rfl (by (try simp only [mT_, mC_, mN_]); first | done | rfl | (simp only [List.length_drop, List.length_take]; rfl)) ?_
          with_reducible refine (impl_cellText.calls k a0_0 a0_1 a0_2 a0_3 a0_4 t202 _ A45.out ?sT).mono ?_
          (case sT => first | with_reducible exact hT | exact Tab.Laid.below hT (by repeat (first | (with_reducible first | exact HB.out | apply hA_ | apply hN_ | apply hD_ | refine below_set ?_ GE194.out) | exact HB.out)))
          rintro e w53 ⟨rfl, hb⟩
          refine ⟨_, rfl, ?_⟩
          have n0 := aM_ (blk_below (g := gb194) (o := .cells #[.int .i64 a0_0, .int .i64 a0_1, .int .i64 a0_2, .int .i64 a0_3, .int .i64 a0_4] 46 (0, 0)) (by (with_reducible repeat (first | refine bN_ ?_ _ | refine bD_ ?_ | refine bA_ ?_ _)); exact BK194.out) hb)
          have n1 := aM_ (below_step (by repeat (first | (with_reducible first | exact HB.out | apply hA_ | apply hN_ | apply hD_ | refine below_set ?_ GE194.out) | exact HB.out)) hb)
          clear BK194
          clear HB
          have BK194 := n0
          have HB := n1
          clear n0 n1
          (try clear hb)
          (try clear hb2)
          (try clear hk)
          (try clear hi)
          refine hK.out _ _ ⟨(blk_cell BK194.out 0).trans rfl, (blk_cell BK194.out 1).trans rfl, (blk_cell BK194.out 2).trans rfl, (blk_cell BK194.out 3).trans rfl, (blk_cell BK194.out 4).trans rfl⟩ (fun hHeld => ?_)
          clear hK K
          refine norm_ (a' := ?_) ?_ ?_
          rotate_left
          ·show Act.put _ (some 42) _ = _
           simp only [pt_, pn_, sI_, s0_, s1_, i64_w, i32_w]
           rfl
          refine pure_ (i := 7) (N := some 43) (v := ?_) (a' := ?_) #[true, true, true, true, true, true, true, true, false] rfl rfl (any_of HT_.out (by kernel_rfl)) (fun _ _ _ h => h) (Or.inl ⟨by rfl, ?_⟩) ?_ ?_
          rotate_left
          ·intro w'
           go_simp
           with_reducible rfl
          rotate_left
          ·simp only [pt_, pn_, sI_, s0_, s1_, i64_w, i32_w]
           rfl
          refine pure_ (i := 8) (N := some 2) (v := ?_) (a' := ?_) #[true, true, true, true, true, true, true, true, true] rfl rfl (any_of HT_.out (by kernel_rfl)) (fun _ _ _ h => h) (Or.inl ⟨by rfl, ?_⟩) ?_ ?_
          rotate_left
          ·intro w'
           go_simp
           with_reducible rfl
          rotate_left
          ·simp only [pt_, pn_, sI_, s0_, s1_, i64_w, i32_w]
           rfl
          refine done_ (done_of HT_.out (by kernel_rfl)) ?_
          try go_wp2
          go_ret
          exact ⟨by first | rfl | (simp [errW_none, errW_some] <;> rfl) | (simp [*, errW_none, errW_some] <;> rfl), by repeat (first | (with_reducible first | exact HB.out | apply hA_ | apply hN_ | apply hD_ | refine below_set ?_ GE194.out) | exact HB.out)⟩
         ·rw [if_neg c46] at H
          exact absurd H (by simp)
        ·rw [if_neg c44] at H
         exact absurd H (by simp)
       ·rw [if_neg c43] at H
        exact absurd H (by simp)
      ·rw [if_neg c41] at H
       have c41b0 : (a0_0 == 5) = false := beq_eq_false_iff_ne.mpr c41
       have c41b1 : (a0_0 != 5) = true := bne_iff_ne.mpr c41
       by_cases c54 : a0_0 = 6
       ·rw [if_pos c54] at H
        have c54b0 : (a0_0 == 6) = true := beq_iff_eq.mpr c54
        have c54b1 : (a0_0 != 6) = false := bne_eq_false_iff_eq.mpr c54
        clear c54
        replace H := Option.bind_eq_some_iff.mp H
        obtain ⟨t203, A550, H⟩ := H
        replace H : (if 6 + t203.size ≤ 9223372036854775807 then (if ((⟨#[115, 116, 111, 114, 101, 32]⟩ : ByteArray) ++ t203).size + 1 ≤ 9223372036854775807 then ((impl_reg.f a0_3).bind fun t204 => (if (((⟨#[115, 116, 111, 114, 101, 32]⟩ : ByteArray) ++ t203) ++ (⟨#[32]⟩ : ByteArray)).size + t204.size ≤ 9223372036854775807 then (some ((((⟨#[115, 116, 111, 114, 101, 32]⟩ : ByteArray) ++ t203) ++ (⟨#[32]⟩ : ByteArray)) ++ t204)) else (none))) else (none)) else (none)) = some r := H
        have A55 := aM_ A550
        clear A550
        by_cases c56 : 6 + t203.size ≤ 9223372036854775807
        ·rw [if_pos c56] at H
         have c56b0 := eq_true c56
         have c56b1 : decide (6 + t203.size ≤ 9223372036854775807) = true := decide_eq_true c56
         try have c56b2 : (9223372036854775807 < 6 + t203.size) = False := eq_false (Nat.not_lt.2 c56)
         by_cases c57 : ((⟨#[115, 116, 111, 114, 101, 32]⟩ : ByteArray) ++ t203).size + 1 ≤ 9223372036854775807
         ·rw [if_pos c57] at H
          have c57b0 := eq_true c57
          have c57b1 : decide (((⟨#[115, 116, 111, 114, 101, 32]⟩ : ByteArray) ++ t203).size + 1 ≤ 9223372036854775807) = true := decide_eq_true c57
          (try (have c57n := c57; simp only [ByteArray.size_append, Tab.sz_mk, List.size_toArray, List.length_cons, List.length_nil, Nat.zero_add, Nat.reduceAdd] at c57n; have c57b4 := eq_true c57n; have c57b5 := eq_false (Nat.not_lt.2 c57n)))
          try have c57b2 : (9223372036854775807 < ((⟨#[115, 116, 111, 114, 101, 32]⟩ : ByteArray) ++ t203).size + 1) = False := eq_false (Nat.not_lt.2 c57)
          replace H := Option.bind_eq_some_iff.mp H
          obtain ⟨t204, A580, H⟩ := H
          replace H : (if (((⟨#[115, 116, 111, 114, 101, 32]⟩ : ByteArray) ++ t203) ++ (⟨#[32]⟩ : ByteArray)).size + t204.size ≤ 9223372036854775807 then (some ((((⟨#[115, 116, 111, 114, 101, 32]⟩ : ByteArray) ++ t203) ++ (⟨#[32]⟩ : ByteArray)) ++ t204)) else (none)) = some r := H
          have A58 := aM_ A580
          clear A580
          by_cases c59 : (((⟨#[115, 116, 111, 114, 101, 32]⟩ : ByteArray) ++ t203) ++ (⟨#[32]⟩ : ByteArray)).size + t204.size ≤ 9223372036854775807
          ·rw [if_pos c59] at H
           have c59b0 := eq_true c59
           have c59b1 : decide ((((⟨#[115, 116, 111, 114, 101, 32]⟩ : ByteArray) ++ t203) ++ (⟨#[32]⟩ : ByteArray)).size + t204.size ≤ 9223372036854775807) = true := decide_eq_true c59
           (try (have c59n := c59; simp only [ByteArray.size_append, Tab.sz_mk, List.size_toArray, List.length_cons, List.length_nil, Nat.zero_add, Nat.reduceAdd] at c59n; have c59b4 := eq_true c59n; have c59b5 := eq_false (Nat.not_lt.2 c59n)))
           try have c59b2 : (9223372036854775807 < (((⟨#[115, 116, 111, 114, 101, 32]⟩ : ByteArray) ++ t203) ++ (⟨#[32]⟩ : ByteArray)).size + t204.size) = False := eq_false (Nat.not_lt.2 c59)
           obtain rfl := Option.some.inj H
           go_enter Tryd.func29, Tryd.ntmps29
           try go_wp2_with (first | ((with_reducible refine gate_dst (N := 1) rfl ?_); refine box_event ?hg (N := 1) ?hd (cs := #[.int .i64 a0_0, .int .i64 a0_1, .int .i64 a0_2, .int .i64 a0_3, .int .i64 a0_4]) (t := 46) ?hr ?_; (case hd => rfl); (case hg => rfl); (case hr => first | (go_simp; done) | (go_simp; rfl)); intro gb194 hg w60 hbox hb; have n0 := aM_ (below_step (by repeat (first | (with_reducible first | exact HB.out | apply hA_ | apply hN_ | apply hD_) | exact HB.out)) hb); have n1 := aM_ (hbox); have n2 := aM_ ((by rw [hg]; exact (below_size (by repeat (first | (with_reducible first | exact HB.out | apply hA_ | apply hN_ | apply hD_) | exact HB.out))) : w.heap.size ≤ gb194)); have n3 := aM_ ((by rw [hg]; exact (below_size (by repeat (first | (with_reducible first | exact HB.out | apply hA_ | apply hN_ | apply hD_) | exact HB.out))) : w.heap.size ≤ gb194)); clear HB; have HB := n0; have BK194 := n1; have GW194 := n2; have GE194 := n3; clear n0 n1 n2 n3; clear hb hbox hg; have hcz61_0 : w60.cell? ⟨gb194, 0, none⟩ = some (.int .i64 a0_0) := (blk_cell BK194.out 0).trans rfl; have hcz61_1 : w60.cell? ⟨gb194, 1, none⟩ = some (.int .i64 a0_1) := (blk_cell BK194.out 1).trans rfl; have hcz61_2 : w60.cell? ⟨gb194, 2, none⟩ = some (.int .i64 a0_2) := (blk_cell BK194.out 2).trans rfl; have hcz61_3 : w60.cell? ⟨gb194, 3, none⟩ = some (.int .i64 a0_3) := (blk_cell BK194.out 3).trans rfl; have hcz61_4 : w60.cell? ⟨gb194, 4, none⟩ = some (.int .i64 a0_4) := (blk_cell BK194.out 4).trans rfl; have hfz61_0 := blk_frozen BK194.out 0; have hfz61_1 := blk_frozen BK194.out 1; have hfz61_2 := blk_frozen BK194.out 2; have hfz61_3 := blk_frozen BK194.out 3; have hfz61_4 := blk_frozen BK194.out 4) | ((with_reducible refine gate_callee (f := 45) rfl ?_); refine goesL_ (some 4) rfl rfl Tryd.func45 (by kernel_rfl) rfl #[.agg #[.int .i64 a0_0, .int .i64 a0_1, .int .i64 a0_2, .int .i64 a0_3, .int .i64 a0_4], .int .i64 800] rfl (by (try simp only [mT_, mC_, mN_]); first | done | rfl | (simp only [List.length_drop, List.length_take]; rfl)) ?_; (with_reducible refine (impl_StepOk.calls k a0_0 a0_1 a0_2 a0_3 a0_4 800 true _ A2.out).mono ?_); rintro e w62 ⟨rfl, hb⟩; refine ⟨_, rfl, ?_⟩; have n0 := aM_ (blk_below (g := gb194) (o := .cells #[.int .i64 a0_0, .int .i64 a0_1, .int .i64 a0_2, .int .i64 a0_3, .int .i64 a0_4] 46 (0, 0)) (by (with_reducible repeat (first | refine bN_ ?_ _ | refine bD_ ?_ | refine bA_ ?_ _)); exact BK194.out) hb); have n1 := aM_ (below_step (by repeat (first | (with_reducible first | exact HB.out | apply hA_ | apply hN_ | apply hD_ | refine below_set ?_ GE194.out) | exact HB.out)) hb); clear BK194; clear HB; have BK194 := n0; have HB := n1; clear n0 n1; have hcz63_0 : w62.cell? ⟨gb194, 0, none⟩ = some (.int .i64 a0_0) := (blk_cell BK194.out 0).trans rfl; have hcz63_1 : w62.cell? ⟨gb194, 1, none⟩ = some (.int .i64 a0_1) := (blk_cell BK194.out 1).trans rfl; have hcz63_2 : w62.cell? ⟨gb194, 2, none⟩ = some (.int .i64 a0_2) := (blk_cell BK194.out 2).trans rfl; have hcz63_3 : w62.cell? ⟨gb194, 3, none⟩ = some (.int .i64 a0_3) := (blk_cell BK194.out 3).trans rfl; have hcz63_4 : w62.cell? ⟨gb194, 4, none⟩ = some (.int .i64 a0_4) := (blk_cell BK194.out 4).trans rfl; have hfz63_0 := blk_frozen BK194.out 0; have hfz63_1 := blk_frozen BK194.out 1; have hfz63_2 := blk_frozen BK194.out 2; have hfz63_3 := blk_frozen BK194.out 3; have hfz63_4 := blk_frozen BK194.out 4))
           (all_goals try (exfalso; have e1_ : (⟨#[32]⟩ : ByteArray).size = 1 := rfl; have e2_ : (⟨#[10]⟩ : ByteArray).size = 1 := rfl; simp only [ByteArray.size_append] at c57; omega))
           (all_goals try (exfalso; have e1_ : (⟨#[32]⟩ : ByteArray).size = 1 := rfl; have e2_ : (⟨#[10]⟩ : ByteArray).size = 1 := rfl; simp only [ByteArray.size_append] at c59; omega))
           have n0 := aM_ (blk_drew BK194.out)
           have n1 := aM_ (below_drew1 HB.out)
           clear BK194
           clear HB
           have BK194 := n0
           have HB := n1
           clear n0 n1
           refine start_ (n := 9) (S := fun w' => w'.cell? ⟨gb194, 0, none⟩ = some (.int .i64 a0_0) ∧ w'.cell? ⟨gb194, 1, none⟩ = some (.int .i64 a0_1) ∧ w'.cell? ⟨gb194, 2, none⟩ = some (.int .i64 a0_2) ∧ w'.cell? ⟨gb194, 3, none⟩ = some (.int .i64 a0_3) ∧ w'.cell? ⟨gb194, 4, none⟩ = some (.int .i64 a0_4)) (ds := []) #[false, false, false, false, false, false, false, false, false] (by kernel_rfl) rfl rfl ⟨(blk_cell BK194.out 0).trans rfl, (blk_cell BK194.out 1).trans rfl, (blk_cell BK194.out 2).trans rfl, (blk_cell BK194.out 3).trans rfl, (blk_cell BK194.out 4).trans rfl⟩ (fun hHeld => ?_); refine with_tabW impl_StepText.tab15 impl_StepText.bits15 (fun HT_ HW_ => ?_)
           generalize w62.drew = w64 at BK194 HB hHeld ⊢
           refine pure_ (i := 4) (N := some 50) (v := ?_) (a' := ?_) #[false, false, false, false, true, false, false, false, false] rfl rfl (any_of HT_.out (by kernel_rfl)) (fun _ _ _ h => h) (Or.inl ⟨by rfl, ?_⟩) ?_ ?_
           rotate_left
           ·intro w'
            go_simp
            with_reducible rfl
           rotate_left
           ·simp only [pt_, pn_, sI_, s0_, s1_, i64_w, i32_w]
            rfl
           refine take_ (i := 0) (N := some 46) (v := ?_) (a' := ?_) #[true, false, false, false, true, false, false, false, false] rfl rfl (take_ofW HT_.out HW_.out (by kernel_rfl)) (fun _ _ _ h => h) (Or.inl ⟨by rfl, ?_⟩) hHeld ?_ ?_
           rotate_left
           ·rintro w' ⟨s0, s1, s2, s3, s4⟩
            go_simp
            with_reducible rfl
           rotate_left
           ·simp only [pt_, pn_, sI_, s0_, s1_, i64_w, i32_w]
            rfl
           refine take_ (i := 5) (N := some 51) (v := ?_) (a' := ?_) #[true, false, false, false, true, true, false, false, false] rfl rfl (take_ofW HT_.out HW_.out (by kernel_rfl)) (fun _ _ _ h => h) (Or.inl ⟨by rfl, ?_⟩) hHeld ?_ ?_
           rotate_left
           ·rintro w' ⟨s0, s1, s2, s3, s4⟩
            go_simp
            with_reducible rfl
           rotate_left
           ·simp only [pt_, pn_, sI_, s0_, s1_, i64_w, i32_w]
            rfl
           refine one_ (i := 1) (N := some 47) #[true, true, false, false, true, true, false, false, false] rfl rfl (one_of HT_.out (by kernel_rfl)) (by decide) (fun K hK => ?_)
           refine goes_ Tryd.func81 (by kernel_rfl) rfl #[.agg #[.int .i64 a0_0, .int .i64 a0_1, .int .i64 a0_2, .int .i64 a0_3, .int .i64 a0_4]] (by rfl) rfl rfl (by (try simp only [mT_, mC_, mN_]); first | done | rfl | (simp only [List.length_drop, List.length_take]; rfl)) ?_
           with_reducible refine (impl_cellText.calls k a0_0 a0_1 a0_2 a0_3 a0_4 t203 _ A55.out ?sT).mono ?_
           (case sT => first | with_reducible exact hT | exact Tab.Laid.below hT (by repeat (first | (with_reducible first | exact HB.out | apply hA_ | apply hN_ | apply hD_ | refine below_set ?_ GE194.out) | exact HB.out)))
           rintro e w65 ⟨rfl, hb⟩
           refine ⟨_, rfl, ?_⟩
           have n0 := aM_ (blk_below (g := gb194) (o := .cells #[.int .i64 a0_0, .int .i64 a0_1, .int .i64 a0_2, .int .i64 a0_3, .int .i64 a0_4] 46 (0, 0)) (by (with_reducible repeat (first | refine bN_ ?_ _ | refine bD_ ?_ | refine bA_ ?_ _)); exact BK194.out) hb)
           have n1 := aM_ (below_step (by repeat (first | (with_reducible first | exact HB.out | apply hA_ | apply hN_ | apply hD_ | refine below_set ?_ GE194.out) | exact HB.out)) hb)
           clear BK194
           clear HB
           have BK194 := n0
           have HB := n1
           clear n0 n1
           (try clear hb)
           (try clear hb2)
           (try clear hk)
           (try clear hi)
           refine hK.out _ _ ⟨(blk_cell BK194.out 0).trans rfl, (blk_cell BK194.out 1).trans rfl, (blk_cell BK194.out 2).trans rfl, (blk_cell BK194.out 3).trans rfl, (blk_cell BK194.out 4).trans rfl⟩ (fun hHeld => ?_)
           clear hK K
           refine norm_ (a' := ?_) ?_ ?_
           rotate_left
           ·show Act.put _ (some 47) _ = _
            simp only [pt_, pn_, sI_, s0_, s1_, i64_w, i32_w]
            rfl
           refine pure_ (i := 2) (N := some 48) (v := ?_) (a' := ?_) #[true, true, true, false, true, true, false, false, false] rfl rfl (any_of HT_.out (by kernel_rfl)) (fun _ _ _ h => h) (Or.inl ⟨by rfl, ?_⟩) ?_ ?_
           rotate_left
           ·intro w'
            go_simp
            with_reducible rfl
           rotate_left
           ·simp only [pt_, pn_, sI_, s0_, s1_, i64_w, i32_w]
            rfl
           refine pure_ (i := 3) (N := some 49) (v := ?_) (a' := ?_) #[true, true, true, true, true, true, false, false, false] rfl rfl (any_of HT_.out (by kernel_rfl)) (fun _ _ _ h => h) (Or.inl ⟨by rfl, ?_⟩) ?_ ?_
           rotate_left
           ·intro w'
            go_simp
            with_reducible rfl
           rotate_left
           ·simp only [pt_, pn_, sI_, s0_, s1_, i64_w, i32_w]
            rfl
           refine one_ (i := 6) (N := some 52) #[true, true, true, true, true, true, true, false, false] rfl rfl (one_of HT_.out (by kernel_rfl)) (by decide) (fun K hK => ?_)
           refine goes_ Tryd.func79 (by kernel_rfl) rfl #[.int .i64 a0_3] (by rfl) rfl rfl (by (try simp only [mT_, mC_, mN_]); first | done | rfl | (simp only [List.length_drop, List.length_take]; rfl)) ?_
           with_reducible refine (impl_reg.calls a0_3 t204 _ A58.out ?sT).mono ?_
           (case sT => first | with_reducible exact hT | exact Tab.Laid.below hT (by repeat (first | (with_reducible first | exact HB.out | apply hA_ | apply hN_ | apply hD_ | refine below_set ?_ GE194.out) | exact HB.out)))
           rintro e w66 ⟨rfl, hb⟩
           refine ⟨_, rfl, ?_⟩
           have n0 := aM_ (blk_below (g := gb194) (o := .cells #[.int .i64 a0_0, .int .i64 a0_1, .int .i64 a0_2, .int .i64 a0_3, .int .i64 a0_4] 46 (0, 0)) (by (with_reducible repeat (first | refine bN_ ?_ _ | refine bD_ ?_ | refine bA_ ?_ _)); exact BK194.out) hb)
           have n1 := aM_ (below_step (by repeat (first | (with_reducible first | exact HB.out | apply hA_ | apply hN_ | apply hD_ | refine below_set ?_ GE194.out) | exact HB.out)) hb)
           clear BK194
           clear HB
           have BK194 := n0
           have HB := n1
           clear n0 n1
           (try clear hb)
           (try clear hb2)
           (try clear hk)
           (try clear hi)
           refine hK.out _ _ ⟨(blk_cell BK194.out 0).trans rfl, (blk_cell BK194.out 1).trans rfl, (blk_cell BK194.out 2).trans rfl, (blk_cell BK194.out 3).trans rfl, (blk_cell BK194.out 4).trans rfl⟩ (fun hHeld => ?_)
           clear hK K
           refine norm_ (a' := ?_) ?_ ?_
           rotate_left
           ·show Act.put _ (some 52) _ = _
            simp only [pt_, pn_, sI_, s0_, s1_, i64_w, i32_w]
            rfl
           refine pure_ (i := 7) (N := some 53) (v := ?_) (a' := ?_) #[true, true, true, true, true, true, true, true, false] rfl rfl (any_of HT_.out (by kernel_rfl)) (fun _ _ _ h => h) (Or.inl ⟨by rfl, ?_⟩) ?_ ?_
           rotate_left
           ·intro w'
            go_simp
            with_reducible rfl
           rotate_left
           ·simp only [pt_, pn_, sI_, s0_, s1_, i64_w, i32_w]
            rfl
           refine pure_ (i := 8) (N := some 2) (v := ?_) (a' := ?_) #[true, true, true, true, true, true, true, true, true] rfl rfl (any_of HT_.out (by kernel_rfl)) (fun _ _ _ h => h) (Or.inl ⟨by rfl, ?_⟩) ?_ ?_
           rotate_left
           ·intro w'
            go_simp
            with_reducible rfl
           rotate_left
           ·simp only [pt_, pn_, sI_, s0_, s1_, i64_w, i32_w]
            rfl
           refine done_ (done_of HT_.out (by kernel_rfl)) ?_
           try go_wp2
           go_ret
           exact ⟨by first | rfl | (simp [errW_none, errW_some] <;> rfl) | (simp [*, errW_none, errW_some] <;> rfl), by repeat (first | (with_reducible first | exact HB.out | apply hA_ | apply hN_ | apply hD_ | refine below_set ?_ GE194.out) | exact HB.out)⟩
          ·rw [if_neg c59] at H
           exact absurd H (by simp)
         ·rw [if_neg c57] at H
          exact absurd H (by simp)
        ·rw [if_neg c56] at H
         exact absurd H (by simp)
       ·rw [if_neg c54] at H
        have c54b0 : (a0_0 == 6) = false := beq_eq_false_iff_ne.mpr c54
        have c54b1 : (a0_0 != 6) = true := bne_iff_ne.mpr c54
        by_cases c67 : a0_0 = 7
        ·rw [if_pos c67] at H
         have c67b0 : (a0_0 == 7) = true := beq_iff_eq.mpr c67
         have c67b1 : (a0_0 != 7) = false := bne_eq_false_iff_eq.mpr c67
         clear c67
         replace H := Option.bind_eq_some_iff.mp H
         obtain ⟨t205, A680, H⟩ := H
         replace H : (if 4 + t205.size ≤ 9223372036854775807 then (if ((⟨#[108, 101, 116, 32]⟩ : ByteArray) ++ t205).size + 1 ≤ 9223372036854775807 then ((impl_reg.f a0_3).bind fun t206 => (if (((⟨#[108, 101, 116, 32]⟩ : ByteArray) ++ t205) ++ (⟨#[32]⟩ : ByteArray)).size + t206.size ≤ 9223372036854775807 then (some ((((⟨#[108, 101, 116, 32]⟩ : ByteArray) ++ t205) ++ (⟨#[32]⟩ : ByteArray)) ++ t206)) else (none))) else (none)) else (none)) = some r := H
         have A68 := aM_ A680
         clear A680
         by_cases c69 : 4 + t205.size ≤ 9223372036854775807
         ·rw [if_pos c69] at H
          have c69b0 := eq_true c69
          have c69b1 : decide (4 + t205.size ≤ 9223372036854775807) = true := decide_eq_true c69
          try have c69b2 : (9223372036854775807 < 4 + t205.size) = False := eq_false (Nat.not_lt.2 c69)
          by_cases c70 : ((⟨#[108, 101, 116, 32]⟩ : ByteArray) ++ t205).size + 1 ≤ 9223372036854775807
          ·rw [if_pos c70] at H
           have c70b0 := eq_true c70
           have c70b1 : decide (((⟨#[108, 101, 116, 32]⟩ : ByteArray) ++ t205).size + 1 ≤ 9223372036854775807) = true := decide_eq_true c70
           (try (have c70n := c70; simp only [ByteArray.size_append, Tab.sz_mk, List.size_toArray, List.length_cons, List.length_nil, Nat.zero_add, Nat.reduceAdd] at c70n; have c70b4 := eq_true c70n; have c70b5 := eq_false (Nat.not_lt.2 c70n)))
           try have c70b2 : (9223372036854775807 < ((⟨#[108, 101, 116, 32]⟩ : ByteArray) ++ t205).size + 1) = False := eq_false (Nat.not_lt.2 c70)
           replace H := Option.bind_eq_some_iff.mp H
           obtain ⟨t206, A710, H⟩ := H
           replace H : (if (((⟨#[108, 101, 116, 32]⟩ : ByteArray) ++ t205) ++ (⟨#[32]⟩ : ByteArray)).size + t206.size ≤ 9223372036854775807 then (some ((((⟨#[108, 101, 116, 32]⟩ : ByteArray) ++ t205) ++ (⟨#[32]⟩ : ByteArray)) ++ t206)) else (none)) = some r := H
           have A71 := aM_ A710
           clear A710
           by_cases c72 : (((⟨#[108, 101, 116, 32]⟩ : ByteArray) ++ t205) ++ (⟨#[32]⟩ : ByteArray)).size + t206.size ≤ 9223372036854775807
           ·rw [if_pos c72] at H
            have c72b0 := eq_true c72
            have c72b1 : decide ((((⟨#[108, 101, 116, 32]⟩ : ByteArray) ++ t205) ++ (⟨#[32]⟩ : ByteArray)).size + t206.size ≤ 9223372036854775807) = true := decide_eq_true c72
            (try (have c72n := c72; simp only [ByteArray.size_append, Tab.sz_mk, List.size_toArray, List.length_cons, List.length_nil, Nat.zero_add, Nat.reduceAdd] at c72n; have c72b4 := eq_true c72n; have c72b5 := eq_false (Nat.not_lt.2 c72n)))
            try have c72b2 : (9223372036854775807 < (((⟨#[108, 101, 116, 32]⟩ : ByteArray) ++ t205) ++ (⟨#[32]⟩ : ByteArray)).size + t206.size) = False := eq_false (Nat.not_lt.2 c72)
            obtain rfl := Option.some.inj H
            go_enter Tryd.func29, Tryd.ntmps29
            try go_wp2_with (first | ((with_reducible refine gate_dst (N := 1) rfl ?_); refine box_event ?hg (N := 1) ?hd (cs := #[.int .i64 a0_0, .int .i64 a0_1, .int .i64 a0_2, .int .i64 a0_3, .int .i64 a0_4]) (t := 46) ?hr ?_; (case hd => rfl); (case hg => rfl); (case hr => first | (go_simp; done) | (go_simp; rfl)); intro gb194 hg w73 hbox hb; have n0 := aM_ (below_step (by repeat (first | (with_reducible first | exact HB.out | apply hA_ | apply hN_ | apply hD_) | exact HB.out)) hb); have n1 := aM_ (hbox); have n2 := aM_ ((by rw [hg]; exact (below_size (by repeat (first | (with_reducible first | exact HB.out | apply hA_ | apply hN_ | apply hD_) | exact HB.out))) : w.heap.size ≤ gb194)); have n3 := aM_ ((by rw [hg]; exact (below_size (by repeat (first | (with_reducible first | exact HB.out | apply hA_ | apply hN_ | apply hD_) | exact HB.out))) : w.heap.size ≤ gb194)); clear HB; have HB := n0; have BK194 := n1; have GW194 := n2; have GE194 := n3; clear n0 n1 n2 n3; clear hb hbox hg; have hcz74_0 : w73.cell? ⟨gb194, 0, none⟩ = some (.int .i64 a0_0) := (blk_cell BK194.out 0).trans rfl; have hcz74_1 : w73.cell? ⟨gb194, 1, none⟩ = some (.int .i64 a0_1) := (blk_cell BK194.out 1).trans rfl; have hcz74_2 : w73.cell? ⟨gb194, 2, none⟩ = some (.int .i64 a0_2) := (blk_cell BK194.out 2).trans rfl; have hcz74_3 : w73.cell? ⟨gb194, 3, none⟩ = some (.int .i64 a0_3) := (blk_cell BK194.out 3).trans rfl; have hcz74_4 : w73.cell? ⟨gb194, 4, none⟩ = some (.int .i64 a0_4) := (blk_cell BK194.out 4).trans rfl; have hfz74_0 := blk_frozen BK194.out 0; have hfz74_1 := blk_frozen BK194.out 1; have hfz74_2 := blk_frozen BK194.out 2; have hfz74_3 := blk_frozen BK194.out 3; have hfz74_4 := blk_frozen BK194.out 4) | ((with_reducible refine gate_callee (f := 45) rfl ?_); refine goesL_ (some 4) rfl rfl Tryd.func45 (by kernel_rfl) rfl #[.agg #[.int .i64 a0_0, .int .i64 a0_1, .int .i64 a0_2, .int .i64 a0_3, .int .i64 a0_4], .int .i64 800] rfl (by (try simp only [mT_, mC_, mN_]); first | done | rfl | (simp only [List.length_drop, List.length_take]; rfl)) ?_; (with_reducible refine (impl_StepOk.calls k a0_0 a0_1 a0_2 a0_3 a0_4 800 true _ A2.out).mono ?_); rintro e w75 ⟨rfl, hb⟩; refine ⟨_, rfl, ?_⟩; have n0 := aM_ (blk_below (g := gb194) (o := .cells #[.int .i64 a0_0, .int .i64 a0_1, .int .i64 a0_2, .int .i64 a0_3, .int .i64 a0_4] 46 (0, 0)) (by (with_reducible repeat (first | refine bN_ ?_ _ | refine bD_ ?_ | refine bA_ ?_ _)); exact BK194.out) hb); have n1 := aM_ (below_step (by repeat (first | (with_reducible first | exact HB.out | apply hA_ | apply hN_ | apply hD_ | refine below_set ?_ GE194.out) | exact HB.out)) hb); clear BK194; clear HB; have BK194 := n0; have HB := n1; clear n0 n1; have hcz76_0 : w75.cell? ⟨gb194, 0, none⟩ = some (.int .i64 a0_0) := (blk_cell BK194.out 0).trans rfl; have hcz76_1 : w75.cell? ⟨gb194, 1, none⟩ = some (.int .i64 a0_1) := (blk_cell BK194.out 1).trans rfl; have hcz76_2 : w75.cell? ⟨gb194, 2, none⟩ = some (.int .i64 a0_2) := (blk_cell BK194.out 2).trans rfl; have hcz76_3 : w75.cell? ⟨gb194, 3, none⟩ = some (.int .i64 a0_3) := (blk_cell BK194.out 3).trans rfl; have hcz76_4 : w75.cell? ⟨gb194, 4, none⟩ = some (.int .i64 a0_4) := (blk_cell BK194.out 4).trans rfl; have hfz76_0 := blk_frozen BK194.out 0; have hfz76_1 := blk_frozen BK194.out 1; have hfz76_2 := blk_frozen BK194.out 2; have hfz76_3 := blk_frozen BK194.out 3; have hfz76_4 := blk_frozen BK194.out 4))
            (all_goals try (exfalso; have e1_ : (⟨#[32]⟩ : ByteArray).size = 1 := rfl; have e2_ : (⟨#[10]⟩ : ByteArray).size = 1 := rfl; simp only [ByteArray.size_append] at c70; omega))
            (all_goals try (exfalso; have e1_ : (⟨#[32]⟩ : ByteArray).size = 1 := rfl; have e2_ : (⟨#[10]⟩ : ByteArray).size = 1 := rfl; simp only [ByteArray.size_append] at c72; omega))
            have n0 := aM_ (blk_drew BK194.out)
            have n1 := aM_ (below_drew1 HB.out)
            clear BK194
            clear HB
            have BK194 := n0
            have HB := n1
            clear n0 n1
            refine start_ (n := 9) (S := fun w' => w'.cell? ⟨gb194, 0, none⟩ = some (.int .i64 a0_0) ∧ w'.cell? ⟨gb194, 1, none⟩ = some (.int .i64 a0_1) ∧ w'.cell? ⟨gb194, 2, none⟩ = some (.int .i64 a0_2) ∧ w'.cell? ⟨gb194, 3, none⟩ = some (.int .i64 a0_3) ∧ w'.cell? ⟨gb194, 4, none⟩ = some (.int .i64 a0_4)) (ds := []) #[false, false, false, false, false, false, false, false, false] (by kernel_rfl) rfl rfl ⟨(blk_cell BK194.out 0).trans rfl, (blk_cell BK194.out 1).trans rfl, (blk_cell BK194.out 2).trans rfl, (blk_cell BK194.out 3).trans rfl, (blk_cell BK194.out 4).trans rfl⟩ (fun hHeld => ?_); refine with_tabW impl_StepText.tab17 impl_StepText.bits17 (fun HT_ HW_ => ?_)
            generalize w75.drew = w77 at BK194 HB hHeld ⊢
            refine pure_ (i := 4) (N := some 60) (v := ?_) (a' := ?_) #[false, false, false, false, true, false, false, false, false] rfl rfl (any_of HT_.out (by kernel_rfl)) (fun _ _ _ h => h) (Or.inl ⟨by rfl, ?_⟩) ?_ ?_
            rotate_left
            ·intro w'
             go_simp
             with_reducible rfl
            rotate_left
            ·simp only [pt_, pn_, sI_, s0_, s1_, i64_w, i32_w]
             rfl
            refine take_ (i := 0) (N := some 56) (v := ?_) (a' := ?_) #[true, false, false, false, true, false, false, false, false] rfl rfl (take_ofW HT_.out HW_.out (by kernel_rfl)) (fun _ _ _ h => h) (Or.inl ⟨by rfl, ?_⟩) hHeld ?_ ?_
            rotate_left
            ·rintro w' ⟨s0, s1, s2, s3, s4⟩
             go_simp
             with_reducible rfl
            rotate_left
            ·simp only [pt_, pn_, sI_, s0_, s1_, i64_w, i32_w]
             rfl
            refine take_ (i := 5) (N := some 61) (v := ?_) (a' := ?_) #[true, false, false, false, true, true, false, false, false] rfl rfl (take_ofW HT_.out HW_.out (by kernel_rfl)) (fun _ _ _ h => h) (Or.inl ⟨by rfl, ?_⟩) hHeld ?_ ?_
            rotate_left
            ·rintro w' ⟨s0, s1, s2, s3, s4⟩
             go_simp
             with_reducible rfl
            rotate_left
            ·simp only [pt_, pn_, sI_, s0_, s1_, i64_w, i32_w]
             rfl
            refine one_ (i := 1) (N := some 57) #[true, true, false, false, true, true, false, false, false] rfl rfl (one_of HT_.out (by kernel_rfl)) (by decide) (fun K hK => ?_)
            refine goes_ Tryd.func81 (by kernel_rfl) rfl #[.agg #[.int .i64 a0_0, .int .i64 a0_1, .int .i64 a0_2, .int .i64 a0_3, .int .i64 a0_4]] (by rfl) rfl rfl (by (try simp only [mT_, mC_, mN_]); first | done | rfl | (simp only [List.length_drop, List.length_take]; rfl)) ?_
            with_reducible refine (impl_cellText.calls k a0_0 a0_1 a0_2 a0_3 a0_4 t205 _ A68.out ?sT).mono ?_
            (case sT => first | with_reducible exact hT | exact Tab.Laid.below hT (by repeat (first | (with_reducible first | exact HB.out | apply hA_ | apply hN_ | apply hD_ | refine below_set ?_ GE194.out) | exact HB.out)))
            rintro e w78 ⟨rfl, hb⟩
            refine ⟨_, rfl, ?_⟩
            have n0 := aM_ (blk_below (g := gb194) (o := .cells #[.int .i64 a0_0, .int .i64 a0_1, .int .i64 a0_2, .int .i64 a0_3, .int .i64 a0_4] 46 (0, 0)) (by (with_reducible repeat (first | refine bN_ ?_ _ | refine bD_ ?_ | refine bA_ ?_ _)); exact BK194.out) hb)
            have n1 := aM_ (below_step (by repeat (first | (with_reducible first | exact HB.out | apply hA_ | apply hN_ | apply hD_ | refine below_set ?_ GE194.out) | exact HB.out)) hb)
            clear BK194
            clear HB
            have BK194 := n0
            have HB := n1
            clear n0 n1
            (try clear hb)
            (try clear hb2)
            (try clear hk)
            (try clear hi)
            refine hK.out _ _ ⟨(blk_cell BK194.out 0).trans rfl, (blk_cell BK194.out 1).trans rfl, (blk_cell BK194.out 2).trans rfl, (blk_cell BK194.out 3).trans rfl, (blk_cell BK194.out 4).trans rfl⟩ (fun hHeld => ?_)
            clear hK K
            refine norm_ (a' := ?_) ?_ ?_
            rotate_left
            ·show Act.put _ (some 57) _ = _
             simp only [pt_, pn_, sI_, s0_, s1_, i64_w, i32_w]
             rfl
            refine pure_ (i := 2) (N := some 58) (v := ?_) (a' := ?_) #[true, true, true, false, true, true, false, false, false] rfl rfl (any_of HT_.out (by kernel_rfl)) (fun _ _ _ h => h) (Or.inl ⟨by rfl, ?_⟩) ?_ ?_
            rotate_left
            ·intro w'
             go_simp
             with_reducible rfl
            rotate_left
            ·simp only [pt_, pn_, sI_, s0_, s1_, i64_w, i32_w]
             rfl
            refine pure_ (i := 3) (N := some 59) (v := ?_) (a' := ?_) #[true, true, true, true, true, true, false, false, false] rfl rfl (any_of HT_.out (by kernel_rfl)) (fun _ _ _ h => h) (Or.inl ⟨by rfl, ?_⟩) ?_ ?_
            rotate_left
            ·intro w'
             go_simp
             with_reducible rfl
            rotate_left
            ·simp only [pt_, pn_, sI_, s0_, s1_, i64_w, i32_w]
             rfl
            refine one_ (i := 6) (N := some 62) #[true, true, true, true, true, true, true, false, false] rfl rfl (one_of HT_.out (by kernel_rfl)) (by decide) (fun K hK => ?_)
            refine goes_ Tryd.func79 (by kernel_rfl) rfl #[.int .i64 a0_3] (by rfl) rfl rfl (by (try simp only [mT_, mC_, mN_]); first | done | rfl | (simp only [List.length_drop, List.length_take]; rfl)) ?_
            with_reducible refine (impl_reg.calls a0_3 t206 _ A71.out ?sT).mono ?_
            (case sT => first | with_reducible exact hT | exact Tab.Laid.below hT (by repeat (first | (with_reducible first | exact HB.out | apply hA_ | apply hN_ | apply hD_ | refine below_set ?_ GE194.out) | exact HB.out)))
            rintro e w79 ⟨rfl, hb⟩
            refine ⟨_, rfl, ?_⟩
            have n0 := aM_ (blk_below (g := gb194) (o := .cells #[.int .i64 a0_0, .int .i64 a0_1, .int .i64 a0_2, .int .i64 a0_3, .int .i64 a0_4] 46 (0, 0)) (by (with_reducible repeat (first | refine bN_ ?_ _ | refine bD_ ?_ | refine bA_ ?_ _)); exact BK194.out) hb)
            have n1 := aM_ (below_step (by repeat (first | (with_reducible first | exact HB.out | apply hA_ | apply hN_ | apply hD_ | refine below_set ?_ GE194.out) | exact HB.out)) hb)
            clear BK194
            clear HB
            have BK194 := n0
            have HB := n1
            clear n0 n1
            (try clear hb)
            (try clear hb2)
            (try clear hk)
            (try clear hi)
            refine hK.out _ _ ⟨(blk_cell BK194.out 0).trans rfl, (blk_cell BK194.out 1).trans rfl, (blk_cell BK194.out 2).trans rfl, (blk_cell BK194.out 3).trans rfl, (blk_cell BK194.out 4).trans rfl⟩ (fun hHeld => ?_)
            clear hK K
            refine norm_ (a' := ?_) ?_ ?_
            rotate_left
            ·show Act.put _ (some 62) _ = _
             simp only [pt_, pn_, sI_, s0_, s1_, i64_w, i32_w]
             rfl
            refine pure_ (i := 7) (N := some 63) (v := ?_) (a' := ?_) #[true, true, true, true, true, true, true, true, false] rfl rfl (any_of HT_.out (by kernel_rfl)) (fun _ _ _ h => h) (Or.inl ⟨by rfl, ?_⟩) ?_ ?_
            rotate_left
            ·intro w'
             go_simp
             with_reducible rfl
            rotate_left
            ·simp only [pt_, pn_, sI_, s0_, s1_, i64_w, i32_w]
             rfl
            refine pure_ (i := 8) (N := some 2) (v := ?_) (a' := ?_) #[true, true, true, true, true, true, true, true, true] rfl rfl (any_of HT_.out (by kernel_rfl)) (fun _ _ _ h => h) (Or.inl ⟨by rfl, ?_⟩) ?_ ?_
            rotate_left
            ·intro w'
             go_simp
             with_reducible rfl
            rotate_left
            ·simp only [pt_, pn_, sI_, s0_, s1_, i64_w, i32_w]
             rfl
            refine done_ (done_of HT_.out (by kernel_rfl)) ?_
            try go_wp2
            go_ret
            exact ⟨by first | rfl | (simp [errW_none, errW_some] <;> rfl) | (simp [*, errW_none, errW_some] <;> rfl), by repeat (first | (with_reducible first | exact HB.out | apply hA_ | apply hN_ | apply hD_ | refine below_set ?_ GE194.out) | exact HB.out)⟩
           ·rw [if_neg c72] at H
            exact absurd H (by simp)
          ·rw [if_neg c70] at H
           exact absurd H (by simp)
         ·rw [if_neg c69] at H
          exact absurd H (by simp)
        ·rw [if_neg c67] at H
         have c67b0 : (a0_0 == 7) = false := beq_eq_false_iff_ne.mpr c67
         have c67b1 : (a0_0 != 7) = true := bne_iff_ne.mpr c67
         by_cases c80 : a0_0 = 8
         ·rw [if_pos c80] at H
          have c80b0 : (a0_0 == 8) = true := beq_iff_eq.mpr c80
          have c80b1 : (a0_0 != 8) = false := bne_eq_false_iff_eq.mpr c80
          clear c80
          replace H := Option.bind_eq_some_iff.mp H
          obtain ⟨t207, A810, H⟩ := H
          replace H : (if 5 + t207.size ≤ 9223372036854775807 then (if ((⟨#[115, 119, 97, 112, 32]⟩ : ByteArray) ++ t207).size + 1 ≤ 9223372036854775807 then ((impl_cellText.f k a0_0 a0_1 a0_2 a0_3 a0_4).bind fun t208 => (if (((⟨#[115, 119, 97, 112, 32]⟩ : ByteArray) ++ t207) ++ (⟨#[32]⟩ : ByteArray)).size + t208.size ≤ 9223372036854775807 then (if ((((⟨#[115, 119, 97, 112, 32]⟩ : ByteArray) ++ t207) ++ (⟨#[32]⟩ : ByteArray)) ++ t208).size + 1 ≤ 9223372036854775807 then ((impl_reg.f a0_3).bind fun t209 => (if (((((⟨#[115, 119, 97, 112, 32]⟩ : ByteArray) ++ t207) ++ (⟨#[32]⟩ : ByteArray)) ++ t208) ++ (⟨#[32]⟩ : ByteArray)).size + t209.size ≤ 9223372036854775807 then (some ((((((⟨#[115, 119, 97, 112, 32]⟩ : ByteArray) ++ t207) ++ (⟨#[32]⟩ : ByteArray)) ++ t208) ++ (⟨#[32]⟩ : ByteArray)) ++ t209)) else (none))) else (none)) else (none))) else (none)) else (none)) = some r := H
          have A81 := aM_ A810
          clear A810
          by_cases c82 : 5 + t207.size ≤ 9223372036854775807
          ·rw [if_pos c82] at H
           have c82b0 := eq_true c82
           have c82b1 : decide (5 + t207.size ≤ 9223372036854775807) = true := decide_eq_true c82
           try have c82b2 : (9223372036854775807 < 5 + t207.size) = False := eq_false (Nat.not_lt.2 c82)
           by_cases c83 : ((⟨#[115, 119, 97, 112, 32]⟩ : ByteArray) ++ t207).size + 1 ≤ 9223372036854775807
           ·rw [if_pos c83] at H
            have c83b0 := eq_true c83
            have c83b1 : decide (((⟨#[115, 119, 97, 112, 32]⟩ : ByteArray) ++ t207).size + 1 ≤ 9223372036854775807) = true := decide_eq_true c83
            (try (have c83n := c83; simp only [ByteArray.size_append, Tab.sz_mk, List.size_toArray, List.length_cons, List.length_nil, Nat.zero_add, Nat.reduceAdd] at c83n; have c83b4 := eq_true c83n; have c83b5 := eq_false (Nat.not_lt.2 c83n)))
            try have c83b2 : (9223372036854775807 < ((⟨#[115, 119, 97, 112, 32]⟩ : ByteArray) ++ t207).size + 1) = False := eq_false (Nat.not_lt.2 c83)
            replace H := Option.bind_eq_some_iff.mp H
            obtain ⟨t208, A840, H⟩ := H
            replace H : (if (((⟨#[115, 119, 97, 112, 32]⟩ : ByteArray) ++ t207) ++ (⟨#[32]⟩ : ByteArray)).size + t208.size ≤ 9223372036854775807 then (if ((((⟨#[115, 119, 97, 112, 32]⟩ : ByteArray) ++ t207) ++ (⟨#[32]⟩ : ByteArray)) ++ t208).size + 1 ≤ 9223372036854775807 then ((impl_reg.f a0_3).bind fun t209 => (if (((((⟨#[115, 119, 97, 112, 32]⟩ : ByteArray) ++ t207) ++ (⟨#[32]⟩ : ByteArray)) ++ t208) ++ (⟨#[32]⟩ : ByteArray)).size + t209.size ≤ 9223372036854775807 then (some ((((((⟨#[115, 119, 97, 112, 32]⟩ : ByteArray) ++ t207) ++ (⟨#[32]⟩ : ByteArray)) ++ t208) ++ (⟨#[32]⟩ : ByteArray)) ++ t209)) else (none))) else (none)) else (none)) = some r := H
            have A84 := aM_ A840
            clear A840
            by_cases c85 : (((⟨#[115, 119, 97, 112, 32]⟩ : ByteArray) ++ t207) ++ (⟨#[32]⟩ : ByteArray)).size + t208.size ≤ 9223372036854775807
            ·rw [if_pos c85] at H
             have c85b0 := eq_true c85
             have c85b1 : decide ((((⟨#[115, 119, 97, 112, 32]⟩ : ByteArray) ++ t207) ++ (⟨#[32]⟩ : ByteArray)).size + t208.size ≤ 9223372036854775807) = true := decide_eq_true c85
             (try (have c85n := c85; simp only [ByteArray.size_append, Tab.sz_mk, List.size_toArray, List.length_cons, List.length_nil, Nat.zero_add, Nat.reduceAdd] at c85n; have c85b4 := eq_true c85n; have c85b5 := eq_false (Nat.not_lt.2 c85n)))
             try have c85b2 : (9223372036854775807 < (((⟨#[115, 119, 97, 112, 32]⟩ : ByteArray) ++ t207) ++ (⟨#[32]⟩ : ByteArray)).size + t208.size) = False := eq_false (Nat.not_lt.2 c85)
             by_cases c86 : ((((⟨#[115, 119, 97, 112, 32]⟩ : ByteArray) ++ t207) ++ (⟨#[32]⟩ : ByteArray)) ++ t208).size + 1 ≤ 9223372036854775807
             ·rw [if_pos c86] at H
              have c86b0 := eq_true c86
              have c86b1 : decide (((((⟨#[115, 119, 97, 112, 32]⟩ : ByteArray) ++ t207) ++ (⟨#[32]⟩ : ByteArray)) ++ t208).size + 1 ≤ 9223372036854775807) = true := decide_eq_true c86
              (try (have c86n := c86; simp only [ByteArray.size_append, Tab.sz_mk, List.size_toArray, List.length_cons, List.length_nil, Nat.zero_add, Nat.reduceAdd] at c86n; have c86b4 := eq_true c86n; have c86b5 := eq_false (Nat.not_lt.2 c86n)))
              try have c86b2 : (9223372036854775807 < ((((⟨#[115, 119, 97, 112, 32]⟩ : ByteArray) ++ t207) ++ (⟨#[32]⟩ : ByteArray)) ++ t208).size + 1) = False := eq_false (Nat.not_lt.2 c86)
              replace H := Option.bind_eq_some_iff.mp H
              obtain ⟨t209, A870, H⟩ := H
              replace H : (if (((((⟨#[115, 119, 97, 112, 32]⟩ : ByteArray) ++ t207) ++ (⟨#[32]⟩ : ByteArray)) ++ t208) ++ (⟨#[32]⟩ : ByteArray)).size + t209.size ≤ 9223372036854775807 then (some ((((((⟨#[115, 119, 97, 112, 32]⟩ : ByteArray) ++ t207) ++ (⟨#[32]⟩ : ByteArray)) ++ t208) ++ (⟨#[32]⟩ : ByteArray)) ++ t209)) else (none)) = some r := H
              have A87 := aM_ A870
              clear A870
              by_cases c88 : (((((⟨#[115, 119, 97, 112, 32]⟩ : ByteArray) ++ t207) ++ (⟨#[32]⟩ : ByteArray)) ++ t208) ++ (⟨#[32]⟩ : ByteArray)).size + t209.size ≤ 9223372036854775807
              ·rw [if_pos c88] at H
               have c88b0 := eq_true c88
               have c88b1 : decide ((((((⟨#[115, 119, 97, 112, 32]⟩ : ByteArray) ++ t207) ++ (⟨#[32]⟩ : ByteArray)) ++ t208) ++ (⟨#[32]⟩ : ByteArray)).size + t209.size ≤ 9223372036854775807) = true := decide_eq_true c88
               (try (have c88n := c88; simp only [ByteArray.size_append, Tab.sz_mk, List.size_toArray, List.length_cons, List.length_nil, Nat.zero_add, Nat.reduceAdd] at c88n; have c88b4 := eq_true c88n; have c88b5 := eq_false (Nat.not_lt.2 c88n)))
               try have c88b2 : (9223372036854775807 < (((((⟨#[115, 119, 97, 112, 32]⟩ : ByteArray) ++ t207) ++ (⟨#[32]⟩ : ByteArray)) ++ t208) ++ (⟨#[32]⟩ : ByteArray)).size + t209.size) = False := eq_false (Nat.not_lt.2 c88)
               obtain rfl := Option.some.inj H
               go_enter Tryd.func29, Tryd.ntmps29
               try go_wp2_with (first | ((with_reducible refine gate_dst (N := 1) rfl ?_); refine box_event ?hg (N := 1) ?hd (cs := #[.int .i64 a0_0, .int .i64 a0_1, .int .i64 a0_2, .int .i64 a0_3, .int .i64 a0_4]) (t := 46) ?hr ?_; (case hd => rfl); (case hg => rfl); (case hr => first | (go_simp; done) | (go_simp; rfl)); intro gb194 hg w89 hbox hb; have n0 := aM_ (below_step (by repeat (first | (with_reducible first | exact HB.out | apply hA_ | apply hN_ | apply hD_) | exact HB.out)) hb); have n1 := aM_ (hbox); have n2 := aM_ ((by rw [hg]; exact (below_size (by repeat (first | (with_reducible first | exact HB.out | apply hA_ | apply hN_ | apply hD_) | exact HB.out))) : w.heap.size ≤ gb194)); have n3 := aM_ ((by rw [hg]; exact (below_size (by repeat (first | (with_reducible first | exact HB.out | apply hA_ | apply hN_ | apply hD_) | exact HB.out))) : w.heap.size ≤ gb194)); clear HB; have HB := n0; have BK194 := n1; have GW194 := n2; have GE194 := n3; clear n0 n1 n2 n3; clear hb hbox hg; have hcz90_0 : w89.cell? ⟨gb194, 0, none⟩ = some (.int .i64 a0_0) := (blk_cell BK194.out 0).trans rfl; have hcz90_1 : w89.cell? ⟨gb194, 1, none⟩ = some (.int .i64 a0_1) := (blk_cell BK194.out 1).trans rfl; have hcz90_2 : w89.cell? ⟨gb194, 2, none⟩ = some (.int .i64 a0_2) := (blk_cell BK194.out 2).trans rfl; have hcz90_3 : w89.cell? ⟨gb194, 3, none⟩ = some (.int .i64 a0_3) := (blk_cell BK194.out 3).trans rfl; have hcz90_4 : w89.cell? ⟨gb194, 4, none⟩ = some (.int .i64 a0_4) := (blk_cell BK194.out 4).trans rfl; have hfz90_0 := blk_frozen BK194.out 0; have hfz90_1 := blk_frozen BK194.out 1; have hfz90_2 := blk_frozen BK194.out 2; have hfz90_3 := blk_frozen BK194.out 3; have hfz90_4 := blk_frozen BK194.out 4) | ((with_reducible refine gate_callee (f := 45) rfl ?_); refine goesL_ (some 4) rfl rfl Tryd.func45 (by kernel_rfl) rfl #[.agg #[.int .i64 a0_0, .int .i64 a0_1, .int .i64 a0_2, .int .i64 a0_3, .int .i64 a0_4], .int .i64 800] rfl (by (try simp only [mT_, mC_, mN_]); first | done | rfl | (simp only [List.length_drop, List.length_take]; rfl)) ?_; (with_reducible refine (impl_StepOk.calls k a0_0 a0_1 a0_2 a0_3 a0_4 800 true _ A2.out).mono ?_); rintro e w91 ⟨rfl, hb⟩; refine ⟨_, rfl, ?_⟩; have n0 := aM_ (blk_below (g := gb194) (o := .cells #[.int .i64 a0_0, .int .i64 a0_1, .int .i64 a0_2, .int .i64 a0_3, .int .i64 a0_4] 46 (0, 0)) (by (with_reducible repeat (first | refine bN_ ?_ _ | refine bD_ ?_ | refine bA_ ?_ _)); exact BK194.out) hb); have n1 := aM_ (below_step (by repeat (first | (with_reducible first | exact HB.out | apply hA_ | apply hN_ | apply hD_ | refine below_set ?_ GE194.out) | exact HB.out)) hb); clear BK194; clear HB; have BK194 := n0; have HB := n1; clear n0 n1; have hcz92_0 : w91.cell? ⟨gb194, 0, none⟩ = some (.int .i64 a0_0) := (blk_cell BK194.out 0).trans rfl; have hcz92_1 : w91.cell? ⟨gb194, 1, none⟩ = some (.int .i64 a0_1) := (blk_cell BK194.out 1).trans rfl; have hcz92_2 : w91.cell? ⟨gb194, 2, none⟩ = some (.int .i64 a0_2) := (blk_cell BK194.out 2).trans rfl; have hcz92_3 : w91.cell? ⟨gb194, 3, none⟩ = some (.int .i64 a0_3) := (blk_cell BK194.out 3).trans rfl; have hcz92_4 : w91.cell? ⟨gb194, 4, none⟩ = some (.int .i64 a0_4) := (blk_cell BK194.out 4).trans rfl; have hfz92_0 := blk_frozen BK194.out 0; have hfz92_1 := blk_frozen BK194.out 1; have hfz92_2 := blk_frozen BK194.out 2; have hfz92_3 := blk_frozen BK194.out 3; have hfz92_4 := blk_frozen BK194.out 4))
               (all_goals try (exfalso; have e1_ : (⟨#[32]⟩ : ByteArray).size = 1 := rfl; have e2_ : (⟨#[10]⟩ : ByteArray).size = 1 := rfl; simp only [ByteArray.size_append] at c86; omega))
               (all_goals try (exfalso; have e1_ : (⟨#[32]⟩ : ByteArray).size = 1 := rfl; have e2_ : (⟨#[10]⟩ : ByteArray).size = 1 := rfl; simp only [ByteArray.size_append] at c88; omega))
               have n0 := aM_ (blk_drew BK194.out)
               have n1 := aM_ (below_drew1 HB.out)
               clear BK194
               clear HB
               have BK194 := n0
               have HB := n1
               clear n0 n1
               refine start_ (n := 14) (S := fun w' => w'.cell? ⟨gb194, 0, none⟩ = some (.int .i64 a0_0) ∧ w'.cell? ⟨gb194, 1, none⟩ = some (.int .i64 a0_1) ∧ w'.cell? ⟨gb194, 2, none⟩ = some (.int .i64 a0_2) ∧ w'.cell? ⟨gb194, 3, none⟩ = some (.int .i64 a0_3) ∧ w'.cell? ⟨gb194, 4, none⟩ = some (.int .i64 a0_4)) (ds := []) #[false, false, false, false, false, false, false, false, false, false, false, false, false, false] (by kernel_rfl) rfl rfl ⟨(blk_cell BK194.out 0).trans rfl, (blk_cell BK194.out 1).trans rfl, (blk_cell BK194.out 2).trans rfl, (blk_cell BK194.out 3).trans rfl, (blk_cell BK194.out 4).trans rfl⟩ (fun hHeld => ?_); refine with_tabW impl_StepText.tab19 impl_StepText.bits19 (fun HT_ HW_ => ?_)
               generalize w91.drew = w93 at BK194 HB hHeld ⊢
               refine pure_ (i := 0) (N := some 66) (v := ?_) (a' := ?_) #[true, false, false, false, false, false, false, false, false, false, false, false, false, false] rfl rfl (any_of HT_.out (by kernel_rfl)) (fun _ _ _ h => h) (Or.inl ⟨by rfl, ?_⟩) ?_ ?_
               rotate_left
               ·intro w'
                go_simp
                with_reducible rfl
               rotate_left
               ·simp only [pt_, pn_, sI_, s0_, s1_, i64_w, i32_w]
                rfl
               refine pure_ (i := 9) (N := some 75) (v := ?_) (a' := ?_) #[true, false, false, false, false, false, false, false, false, true, false, false, false, false] rfl rfl (any_of HT_.out (by kernel_rfl)) (fun _ _ _ h => h) (Or.inl ⟨by rfl, ?_⟩) ?_ ?_
               rotate_left
               ·intro w'
                go_simp
                with_reducible rfl
               rotate_left
               ·simp only [pt_, pn_, sI_, s0_, s1_, i64_w, i32_w]
                rfl
               refine take_ (i := 1) (N := some 67) (v := ?_) (a' := ?_) #[true, true, false, false, false, false, false, false, false, true, false, false, false, false] rfl rfl (take_ofW HT_.out HW_.out (by kernel_rfl)) (fun _ _ _ h => h) (Or.inl ⟨by rfl, ?_⟩) hHeld ?_ ?_
               rotate_left
               ·rintro w' ⟨s0, s1, s2, s3, s4⟩
                go_simp
                with_reducible rfl
               rotate_left
               ·simp only [pt_, pn_, sI_, s0_, s1_, i64_w, i32_w]
                rfl
               refine take_ (i := 5) (N := some 71) (v := ?_) (a' := ?_) #[true, true, false, false, false, true, false, false, false, true, false, false, false, false] rfl rfl (take_ofW HT_.out HW_.out (by kernel_rfl)) (fun _ _ _ h => h) (Or.inl ⟨by rfl, ?_⟩) hHeld ?_ ?_
               rotate_left
               ·rintro w' ⟨s0, s1, s2, s3, s4⟩
                go_simp
                with_reducible rfl
               rotate_left
               ·simp only [pt_, pn_, sI_, s0_, s1_, i64_w, i32_w]
                rfl
               refine take_ (i := 10) (N := some 76) (v := ?_) (a' := ?_) #[true, true, false, false, false, true, false, false, false, true, true, false, false, false] rfl rfl (take_ofW HT_.out HW_.out (by kernel_rfl)) (fun _ _ _ h => h) (Or.inl ⟨by rfl, ?_⟩) hHeld ?_ ?_
               rotate_left
               ·rintro w' ⟨s0, s1, s2, s3, s4⟩
                go_simp
                with_reducible rfl
               rotate_left
               ·simp only [pt_, pn_, sI_, s0_, s1_, i64_w, i32_w]
                rfl
               refine one_ (i := 2) (N := some 68) #[true, true, true, false, false, true, false, false, false, true, true, false, false, false] rfl rfl (one_of HT_.out (by kernel_rfl)) (by decide) (fun K hK => ?_)
               refine goes_ Tryd.func79 (by kernel_rfl) rfl #[.int .i64 a0_1] (by rfl) rfl rfl (by (try simp only [mT_, mC_, mN_]); first | done | rfl | (simp only [List.length_drop, List.length_take]; rfl)) ?_
               with_reducible refine (impl_reg.calls a0_1 t207 _ A81.out ?sT).mono ?_
               (case sT => first | with_reducible exact hT | exact Tab.Laid.below hT (by repeat (first | (with_reducible first | exact HB.out | apply hA_ | apply hN_ | apply hD_ | refine below_set ?_ GE194.out) | exact HB.out)))
               rintro e w94 ⟨rfl, hb⟩
               refine ⟨_, rfl, ?_⟩
               have n0 := aM_ (blk_below (g := gb194) (o := .cells #[.int .i64 a0_0, .int .i64 a0_1, .int .i64 a0_2, .int .i64 a0_3, .int .i64 a0_4] 46 (0, 0)) (by (with_reducible repeat (first | refine bN_ ?_ _ | refine bD_ ?_ | refine bA_ ?_ _)); exact BK194.out) hb)
               have n1 := aM_ (below_step (by repeat (first | (with_reducible first | exact HB.out | apply hA_ | apply hN_ | apply hD_ | refine below_set ?_ GE194.out) | exact HB.out)) hb)
               clear BK194
               clear HB
               have BK194 := n0
               have HB := n1
               clear n0 n1
               (try clear hb)
               (try clear hb2)
               (try clear hk)
               (try clear hi)
               refine hK.out _ _ ⟨(blk_cell BK194.out 0).trans rfl, (blk_cell BK194.out 1).trans rfl, (blk_cell BK194.out 2).trans rfl, (blk_cell BK194.out 3).trans rfl, (blk_cell BK194.out 4).trans rfl⟩ (fun hHeld => ?_)
               clear hK K
               refine norm_ (a' := ?_) ?_ ?_
               rotate_left
               ·show Act.put _ (some 68) _ = _
                simp only [pt_, pn_, sI_, s0_, s1_, i64_w, i32_w]
                rfl
               refine pure_ (i := 3) (N := some 69) (v := ?_) (a' := ?_) #[true, true, true, true, false, true, false, false, false, true, true, false, false, false] rfl rfl (any_of HT_.out (by kernel_rfl)) (fun _ _ _ h => h) (Or.inl ⟨by rfl, ?_⟩) ?_ ?_
               rotate_left
               ·intro w'
                go_simp
                with_reducible rfl
               rotate_left
               ·simp only [pt_, pn_, sI_, s0_, s1_, i64_w, i32_w]
                rfl
               refine pure_ (i := 4) (N := some 70) (v := ?_) (a' := ?_) #[true, true, true, true, true, true, false, false, false, true, true, false, false, false] rfl rfl (any_of HT_.out (by kernel_rfl)) (fun _ _ _ h => h) (Or.inl ⟨by rfl, ?_⟩) ?_ ?_
               rotate_left
               ·intro w'
                go_simp
                with_reducible rfl
               rotate_left
               ·simp only [pt_, pn_, sI_, s0_, s1_, i64_w, i32_w]
                rfl
               refine one_ (i := 6) (N := some 72) #[true, true, true, true, true, true, true, false, false, true, true, false, false, false] rfl rfl (one_of HT_.out (by kernel_rfl)) (by decide) (fun K hK => ?_)
               refine goes_ Tryd.func81 (by kernel_rfl) rfl #[.agg #[.int .i64 a0_0, .int .i64 a0_1, .int .i64 a0_2, .int .i64 a0_3, .int .i64 a0_4]] (by rfl) rfl rfl (by (try simp only [mT_, mC_, mN_]); first | done | rfl | (simp only [List.length_drop, List.length_take]; rfl)) ?_
               with_reducible refine (impl_cellText.calls k a0_0 a0_1 a0_2 a0_3 a0_4 t208 _ A84.out ?sT).mono ?_
               (case sT => first | with_reducible exact hT | exact Tab.Laid.below hT (by repeat (first | (with_reducible first | exact HB.out | apply hA_ | apply hN_ | apply hD_ | refine below_set ?_ GE194.out) | exact HB.out)))
               rintro e w95 ⟨rfl, hb⟩
               refine ⟨_, rfl, ?_⟩
               have n0 := aM_ (blk_below (g := gb194) (o := .cells #[.int .i64 a0_0, .int .i64 a0_1, .int .i64 a0_2, .int .i64 a0_3, .int .i64 a0_4] 46 (0, 0)) (by (with_reducible repeat (first | refine bN_ ?_ _ | refine bD_ ?_ | refine bA_ ?_ _)); exact BK194.out) hb)
               have n1 := aM_ (below_step (by repeat (first | (with_reducible first | exact HB.out | apply hA_ | apply hN_ | apply hD_ | refine below_set ?_ GE194.out) | exact HB.out)) hb)
               clear BK194
               clear HB
               have BK194 := n0
               have HB := n1
               clear n0 n1
               (try clear hb)
               (try clear hb2)
               (try clear hk)
               (try clear hi)
               refine hK.out _ _ ⟨(blk_cell BK194.out 0).trans rfl, (blk_cell BK194.out 1).trans rfl, (blk_cell BK194.out 2).trans rfl, (blk_cell BK194.out 3).trans rfl, (blk_cell BK194.out 4).trans rfl⟩ (fun hHeld => ?_)
               clear hK K
               refine norm_ (a' := ?_) ?_ ?_
               rotate_left
               ·show Act.put _ (some 72) _ = _
                simp only [pt_, pn_, sI_, s0_, s1_, i64_w, i32_w]
                rfl
               refine pure_ (i := 7) (N := some 73) (v := ?_) (a' := ?_) #[true, true, true, true, true, true, true, true, false, true, true, false, false, false] rfl rfl (any_of HT_.out (by kernel_rfl)) (fun _ _ _ h => h) (Or.inl ⟨by rfl, ?_⟩) ?_ ?_
               rotate_left
               ·intro w'
                go_simp
                with_reducible rfl
               rotate_left
               ·simp only [pt_, pn_, sI_, s0_, s1_, i64_w, i32_w]
                rfl
               refine pure_ (i := 8) (N := some 74) (v := ?_) (a' := ?_) #[true, true, true, true, true, true, true, true, true, true, true, false, false, false] rfl rfl (any_of HT_.out (by kernel_rfl)) (fun _ _ _ h => h) (Or.inl ⟨by rfl, ?_⟩) ?_ ?_
               rotate_left
               ·intro w'
                go_simp
                with_reducible rfl
               rotate_left
               ·simp only [pt_, pn_, sI_, s0_, s1_, i64_w, i32_w]
                rfl
               refine one_ (i := 11) (N := some 77) #[true, true, true, true, true, true, true, true, true, true, true, true, false, false] rfl rfl (one_of HT_.out (by kernel_rfl)) (by decide) (fun K hK => ?_)
               refine goes_ Tryd.func79 (by kernel_rfl) rfl #[.int .i64 a0_3] (by rfl) rfl rfl (by (try simp only [mT_, mC_, mN_]); first | done | rfl | (simp only [List.length_drop, List.length_take]; rfl)) ?_
               with_reducible refine (impl_reg.calls a0_3 t209 _ A87.out ?sT).mono ?_
               (case sT => first | with_reducible exact hT | exact Tab.Laid.below hT (by repeat (first | (with_reducible first | exact HB.out | apply hA_ | apply hN_ | apply hD_ | refine below_set ?_ GE194.out) | exact HB.out)))
               rintro e w96 ⟨rfl, hb⟩
               refine ⟨_, rfl, ?_⟩
               have n0 := aM_ (blk_below (g := gb194) (o := .cells #[.int .i64 a0_0, .int .i64 a0_1, .int .i64 a0_2, .int .i64 a0_3, .int .i64 a0_4] 46 (0, 0)) (by (with_reducible repeat (first | refine bN_ ?_ _ | refine bD_ ?_ | refine bA_ ?_ _)); exact BK194.out) hb)
               have n1 := aM_ (below_step (by repeat (first | (with_reducible first | exact HB.out | apply hA_ | apply hN_ | apply hD_ | refine below_set ?_ GE194.out) | exact HB.out)) hb)
               clear BK194
               clear HB
               have BK194 := n0
               have HB := n1
               clear n0 n1
               (try clear hb)
               (try clear hb2)
               (try clear hk)
               (try clear hi)
               refine hK.out _ _ ⟨(blk_cell BK194.out 0).trans rfl, (blk_cell BK194.out 1).trans rfl, (blk_cell BK194.out 2).trans rfl, (blk_cell BK194.out 3).trans rfl, (blk_cell BK194.out 4).trans rfl⟩ (fun hHeld => ?_)
               clear hK K
               refine norm_ (a' := ?_) ?_ ?_
               rotate_left
               ·show Act.put _ (some 77) _ = _
                simp only [pt_, pn_, sI_, s0_, s1_, i64_w, i32_w]
                rfl
               refine pure_ (i := 12) (N := some 78) (v := ?_) (a' := ?_) #[true, true, true, true, true, true, true, true, true, true, true, true, true, false] rfl rfl (any_of HT_.out (by kernel_rfl)) (fun _ _ _ h => h) (Or.inl ⟨by rfl, ?_⟩) ?_ ?_
               rotate_left
               ·intro w'
                go_simp
                with_reducible rfl
               rotate_left
               ·simp only [pt_, pn_, sI_, s0_, s1_, i64_w, i32_w]
                rfl
               refine pure_ (i := 13) (N := some 2) (v := ?_) (a' := ?_) #[true, true, true, true, true, true, true, true, true, true, true, true, true, true] rfl rfl (any_of HT_.out (by kernel_rfl)) (fun _ _ _ h => h) (Or.inl ⟨by rfl, ?_⟩) ?_ ?_
               rotate_left
               ·intro w'
                go_simp
                with_reducible rfl
               rotate_left
               ·simp only [pt_, pn_, sI_, s0_, s1_, i64_w, i32_w]
                rfl
               refine done_ (done_of HT_.out (by kernel_rfl)) ?_
               try go_wp2
               go_ret
               exact ⟨by first | rfl | (simp [errW_none, errW_some] <;> rfl) | (simp [*, errW_none, errW_some] <;> rfl), by repeat (first | (with_reducible first | exact HB.out | apply hA_ | apply hN_ | apply hD_ | refine below_set ?_ GE194.out) | exact HB.out)⟩
              ·rw [if_neg c88] at H
               exact absurd H (by simp)
             ·rw [if_neg c86] at H
              exact absurd H (by simp)
            ·rw [if_neg c85] at H
             exact absurd H (by simp)
           ·rw [if_neg c83] at H
            exact absurd H (by simp)
          ·rw [if_neg c82] at H
           exact absurd H (by simp)
         ·rw [if_neg c80] at H
          have c80b0 : (a0_0 == 8) = false := beq_eq_false_iff_ne.mpr c80
          have c80b1 : (a0_0 != 8) = true := bne_iff_ne.mpr c80
          by_cases c97 : a0_0 = 9
          ·rw [if_pos c97] at H
           have c97b0 : (a0_0 == 9) = true := beq_iff_eq.mpr c97
           have c97b1 : (a0_0 != 9) = false := bne_eq_false_iff_eq.mpr c97
           clear c97
           replace H := Option.bind_eq_some_iff.mp H
           obtain ⟨t210, A980, H⟩ := H
           replace H : (if 6 + t210.size ≤ 9223372036854775807 then (some ((⟨#[112, 114, 105, 110, 116, 32]⟩ : ByteArray) ++ t210)) else (none)) = some r := H
           have A98 := aM_ A980
           clear A980
           by_cases c99 : 6 + t210.size ≤ 9223372036854775807
           ·rw [if_pos c99] at H
            have c99b0 := eq_true c99
            have c99b1 : decide (6 + t210.size ≤ 9223372036854775807) = true := decide_eq_true c99
            try have c99b2 : (9223372036854775807 < 6 + t210.size) = False := eq_false (Nat.not_lt.2 c99)
            obtain rfl := Option.some.inj H
            go_enter Tryd.func29, Tryd.ntmps29
            go_wp2_with (first | ((with_reducible refine gate_dst (N := 1) rfl ?_); refine box_event ?hg (N := 1) ?hd (cs := #[.int .i64 a0_0, .int .i64 a0_1, .int .i64 a0_2, .int .i64 a0_3, .int .i64 a0_4]) (t := 46) ?hr ?_; (case hd => rfl); (case hg => rfl); (case hr => first | (go_simp; done) | (go_simp; rfl)); intro gb194 hg w100 hbox hb; have n0 := aM_ (below_step (by repeat (first | (with_reducible first | exact HB.out | apply hA_ | apply hN_ | apply hD_) | exact HB.out)) hb); have n1 := aM_ (hbox); have n2 := aM_ ((by rw [hg]; exact (below_size (by repeat (first | (with_reducible first | exact HB.out | apply hA_ | apply hN_ | apply hD_) | exact HB.out))) : w.heap.size ≤ gb194)); have n3 := aM_ ((by rw [hg]; exact (below_size (by repeat (first | (with_reducible first | exact HB.out | apply hA_ | apply hN_ | apply hD_) | exact HB.out))) : w.heap.size ≤ gb194)); clear HB; have HB := n0; have BK194 := n1; have GW194 := n2; have GE194 := n3; clear n0 n1 n2 n3; clear hb hbox hg; have hcz101_0 : w100.cell? ⟨gb194, 0, none⟩ = some (.int .i64 a0_0) := (blk_cell BK194.out 0).trans rfl; have hcz101_1 : w100.cell? ⟨gb194, 1, none⟩ = some (.int .i64 a0_1) := (blk_cell BK194.out 1).trans rfl; have hcz101_2 : w100.cell? ⟨gb194, 2, none⟩ = some (.int .i64 a0_2) := (blk_cell BK194.out 2).trans rfl; have hcz101_3 : w100.cell? ⟨gb194, 3, none⟩ = some (.int .i64 a0_3) := (blk_cell BK194.out 3).trans rfl; have hcz101_4 : w100.cell? ⟨gb194, 4, none⟩ = some (.int .i64 a0_4) := (blk_cell BK194.out 4).trans rfl; have hfz101_0 := blk_frozen BK194.out 0; have hfz101_1 := blk_frozen BK194.out 1; have hfz101_2 := blk_frozen BK194.out 2; have hfz101_3 := blk_frozen BK194.out 3; have hfz101_4 := blk_frozen BK194.out 4) | ((with_reducible refine gate_callee (f := 45) rfl ?_); refine goesL_ (some 4) rfl rfl Tryd.func45 (by kernel_rfl) rfl #[.agg #[.int .i64 a0_0, .int .i64 a0_1, .int .i64 a0_2, .int .i64 a0_3, .int .i64 a0_4], .int .i64 800] rfl (by (try simp only [mT_, mC_, mN_]); first | done | rfl | (simp only [List.length_drop, List.length_take]; rfl)) ?_; (with_reducible refine (impl_StepOk.calls k a0_0 a0_1 a0_2 a0_3 a0_4 800 true _ A2.out).mono ?_); rintro e w102 ⟨rfl, hb⟩; refine ⟨_, rfl, ?_⟩; have n0 := aM_ (blk_below (g := gb194) (o := .cells #[.int .i64 a0_0, .int .i64 a0_1, .int .i64 a0_2, .int .i64 a0_3, .int .i64 a0_4] 46 (0, 0)) (by (with_reducible repeat (first | refine bN_ ?_ _ | refine bD_ ?_ | refine bA_ ?_ _)); exact BK194.out) hb); have n1 := aM_ (below_step (by repeat (first | (with_reducible first | exact HB.out | apply hA_ | apply hN_ | apply hD_ | refine below_set ?_ GE194.out) | exact HB.out)) hb); clear BK194; clear HB; have BK194 := n0; have HB := n1; clear n0 n1; have hcz103_0 : w102.cell? ⟨gb194, 0, none⟩ = some (.int .i64 a0_0) := (blk_cell BK194.out 0).trans rfl; have hcz103_1 : w102.cell? ⟨gb194, 1, none⟩ = some (.int .i64 a0_1) := (blk_cell BK194.out 1).trans rfl; have hcz103_2 : w102.cell? ⟨gb194, 2, none⟩ = some (.int .i64 a0_2) := (blk_cell BK194.out 2).trans rfl; have hcz103_3 : w102.cell? ⟨gb194, 3, none⟩ = some (.int .i64 a0_3) := (blk_cell BK194.out 3).trans rfl; have hcz103_4 : w102.cell? ⟨gb194, 4, none⟩ = some (.int .i64 a0_4) := (blk_cell BK194.out 4).trans rfl; have hfz103_0 := blk_frozen BK194.out 0; have hfz103_1 := blk_frozen BK194.out 1; have hfz103_2 := blk_frozen BK194.out 2; have hfz103_3 := blk_frozen BK194.out 3; have hfz103_4 := blk_frozen BK194.out 4) | ((with_reducible refine gate_callee (f := 79) rfl ?_); refine goesL_ (some 83) rfl rfl Tryd.func79 (by kernel_rfl) rfl #[.int .i64 a0_2] rfl (by (try simp only [mT_, mC_, mN_]); first | done | rfl | (simp only [List.length_drop, List.length_take]; rfl)) ?_; (with_reducible refine (impl_reg.calls a0_2 t210 _ A98.out ?sT).mono ?_); (case sT => first | with_reducible exact hT | exact Tab.Laid.below hT (by repeat (first | (with_reducible first | exact HB.out | apply hA_ | apply hN_ | apply hD_ | refine below_set ?_ GE194.out) | exact HB.out))); rintro e w104 ⟨rfl, hb⟩; refine ⟨_, rfl, ?_⟩; have n0 := aM_ (blk_below (g := gb194) (o := .cells #[.int .i64 a0_0, .int .i64 a0_1, .int .i64 a0_2, .int .i64 a0_3, .int .i64 a0_4] 46 (0, 0)) (by (with_reducible repeat (first | refine bN_ ?_ _ | refine bD_ ?_ | refine bA_ ?_ _)); exact BK194.out) hb); have n1 := aM_ (below_step (by repeat (first | (with_reducible first | exact HB.out | apply hA_ | apply hN_ | apply hD_ | refine below_set ?_ GE194.out) | exact HB.out)) hb); clear BK194; clear HB; have BK194 := n0; have HB := n1; clear n0 n1))
            go_ret
            exact ⟨by first | rfl | (simp [errW_none, errW_some] <;> rfl) | (simp [*, errW_none, errW_some] <;> rfl), by repeat (first | (with_reducible first | exact HB.out | apply hA_ | apply hN_ | apply hD_ | refine below_set ?_ GE194.out) | exact HB.out)⟩
           ·rw [if_neg c99] at H
            exact absurd H (by simp)
          ·rw [if_neg c97] at H
           have c97b0 : (a0_0 == 9) = false := beq_eq_false_iff_ne.mpr c97
           have c97b1 : (a0_0 != 9) = true := bne_iff_ne.mpr c97
           by_cases c105 : a0_0 = 10
           ·rw [if_pos c105] at H
            have c105b0 : (a0_0 == 10) = true := beq_iff_eq.mpr c105
            have c105b1 : (a0_0 != 10) = false := bne_eq_false_iff_eq.mpr c105
            clear c105
            replace H := Option.bind_eq_some_iff.mp H
            obtain ⟨t211, A1060, H⟩ := H
            replace H : (if 5 + t211.size ≤ 9223372036854775807 then (some ((⟨#[106, 117, 109, 112, 32]⟩ : ByteArray) ++ t211)) else (none)) = some r := H
            have A106 := aM_ A1060
            clear A1060
            by_cases c107 : 5 + t211.size ≤ 9223372036854775807
            ·rw [if_pos c107] at H
             have c107b0 := eq_true c107
             have c107b1 : decide (5 + t211.size ≤ 9223372036854775807) = true := decide_eq_true c107
             try have c107b2 : (9223372036854775807 < 5 + t211.size) = False := eq_false (Nat.not_lt.2 c107)
             obtain rfl := Option.some.inj H
             go_enter Tryd.func29, Tryd.ntmps29
             go_wp2_with (first | ((with_reducible refine gate_dst (N := 1) rfl ?_); refine box_event ?hg (N := 1) ?hd (cs := #[.int .i64 a0_0, .int .i64 a0_1, .int .i64 a0_2, .int .i64 a0_3, .int .i64 a0_4]) (t := 46) ?hr ?_; (case hd => rfl); (case hg => rfl); (case hr => first | (go_simp; done) | (go_simp; rfl)); intro gb194 hg w108 hbox hb; have n0 := aM_ (below_step (by repeat (first | (with_reducible first | exact HB.out | apply hA_ | apply hN_ | apply hD_) | exact HB.out)) hb); have n1 := aM_ (hbox); have n2 := aM_ ((by rw [hg]; exact (below_size (by repeat (first | (with_reducible first | exact HB.out | apply hA_ | apply hN_ | apply hD_) | exact HB.out))) : w.heap.size ≤ gb194)); have n3 := aM_ ((by rw [hg]; exact (below_size (by repeat (first | (with_reducible first | exact HB.out | apply hA_ | apply hN_ | apply hD_) | exact HB.out))) : w.heap.size ≤ gb194)); clear HB; have HB := n0; have BK194 := n1; have GW194 := n2; have GE194 := n3; clear n0 n1 n2 n3; clear hb hbox hg; have hcz109_0 : w108.cell? ⟨gb194, 0, none⟩ = some (.int .i64 a0_0) := (blk_cell BK194.out 0).trans rfl; have hcz109_1 : w108.cell? ⟨gb194, 1, none⟩ = some (.int .i64 a0_1) := (blk_cell BK194.out 1).trans rfl; have hcz109_2 : w108.cell? ⟨gb194, 2, none⟩ = some (.int .i64 a0_2) := (blk_cell BK194.out 2).trans rfl; have hcz109_3 : w108.cell? ⟨gb194, 3, none⟩ = some (.int .i64 a0_3) := (blk_cell BK194.out 3).trans rfl; have hcz109_4 : w108.cell? ⟨gb194, 4, none⟩ = some (.int .i64 a0_4) := (blk_cell BK194.out 4).trans rfl; have hfz109_0 := blk_frozen BK194.out 0; have hfz109_1 := blk_frozen BK194.out 1; have hfz109_2 := blk_frozen BK194.out 2; have hfz109_3 := blk_frozen BK194.out 3; have hfz109_4 := blk_frozen BK194.out 4) | ((with_reducible refine gate_callee (f := 45) rfl ?_); refine goesL_ (some 4) rfl rfl Tryd.func45 (by kernel_rfl) rfl #[.agg #[.int .i64 a0_0, .int .i64 a0_1, .int .i64 a0_2, .int .i64 a0_3, .int .i64 a0_4], .int .i64 800] rfl (by (try simp only [mT_, mC_, mN_]); first | done | rfl | (simp only [List.length_drop, List.length_take]; rfl)) ?_; (with_reducible refine (impl_StepOk.calls k a0_0 a0_1 a0_2 a0_3 a0_4 800 true _ A2.out).mono ?_); rintro e w110 ⟨rfl, hb⟩; refine ⟨_, rfl, ?_⟩; have n0 := aM_ (blk_below (g := gb194) (o := .cells #[.int .i64 a0_0, .int .i64 a0_1, .int .i64 a0_2, .int .i64 a0_3, .int .i64 a0_4] 46 (0, 0)) (by (with_reducible repeat (first | refine bN_ ?_ _ | refine bD_ ?_ | refine bA_ ?_ _)); exact BK194.out) hb); have n1 := aM_ (below_step (by repeat (first | (with_reducible first | exact HB.out | apply hA_ | apply hN_ | apply hD_ | refine below_set ?_ GE194.out) | exact HB.out)) hb); clear BK194; clear HB; have BK194 := n0; have HB := n1; clear n0 n1; have hcz111_0 : w110.cell? ⟨gb194, 0, none⟩ = some (.int .i64 a0_0) := (blk_cell BK194.out 0).trans rfl; have hcz111_1 : w110.cell? ⟨gb194, 1, none⟩ = some (.int .i64 a0_1) := (blk_cell BK194.out 1).trans rfl; have hcz111_2 : w110.cell? ⟨gb194, 2, none⟩ = some (.int .i64 a0_2) := (blk_cell BK194.out 2).trans rfl; have hcz111_3 : w110.cell? ⟨gb194, 3, none⟩ = some (.int .i64 a0_3) := (blk_cell BK194.out 3).trans rfl; have hcz111_4 : w110.cell? ⟨gb194, 4, none⟩ = some (.int .i64 a0_4) := (blk_cell BK194.out 4).trans rfl; have hfz111_0 := blk_frozen BK194.out 0; have hfz111_1 := blk_frozen BK194.out 1; have hfz111_2 := blk_frozen BK194.out 2; have hfz111_3 := blk_frozen BK194.out 3; have hfz111_4 := blk_frozen BK194.out 4) | ((with_reducible refine gate_callee (f := 64) rfl ?_); refine goesL_ (some 89) rfl rfl Tryd.func64 (by kernel_rfl) rfl #[.int .i64 a0_4] rfl (by (try simp only [mT_, mC_, mN_]); first | done | rfl | (simp only [List.length_drop, List.length_take]; rfl)) ?_; (with_reducible refine (impl_digits.calls a0_4 t211 _ A106.out ?sT).mono ?_); (case sT => first | with_reducible exact hT | exact Tab.Laid.below hT (by repeat (first | (with_reducible first | exact HB.out | apply hA_ | apply hN_ | apply hD_ | refine below_set ?_ GE194.out) | exact HB.out))); rintro e w112 ⟨rfl, hb⟩; refine ⟨_, rfl, ?_⟩; have n0 := aM_ (blk_below (g := gb194) (o := .cells #[.int .i64 a0_0, .int .i64 a0_1, .int .i64 a0_2, .int .i64 a0_3, .int .i64 a0_4] 46 (0, 0)) (by (with_reducible repeat (first | refine bN_ ?_ _ | refine bD_ ?_ | refine bA_ ?_ _)); exact BK194.out) hb); have n1 := aM_ (below_step (by repeat (first | (with_reducible first | exact HB.out | apply hA_ | apply hN_ | apply hD_ | refine below_set ?_ GE194.out) | exact HB.out)) hb); clear BK194; clear HB; have BK194 := n0; have HB := n1; clear n0 n1))
             go_ret
             exact ⟨by first | rfl | (simp [errW_none, errW_some] <;> rfl) | (simp [*, errW_none, errW_some] <;> rfl), by repeat (first | (with_reducible first | exact HB.out | apply hA_ | apply hN_ | apply hD_ | refine below_set ?_ GE194.out) | exact HB.out)⟩
            ·rw [if_neg c107] at H
             exact absurd H (by simp)
           ·rw [if_neg c105] at H
            have c105b0 : (a0_0 == 10) = false := beq_eq_false_iff_ne.mpr c105
            have c105b1 : (a0_0 != 10) = true := bne_iff_ne.mpr c105
            by_cases c113 : a0_0 = 11
            ·rw [if_pos c113] at H
             have c113b0 : (a0_0 == 11) = true := beq_iff_eq.mpr c113
             have c113b1 : (a0_0 != 11) = false := bne_eq_false_iff_eq.mpr c113
             clear c113
             replace H := Option.bind_eq_some_iff.mp H
             obtain ⟨t212, A1140, H⟩ := H
             replace H : (if 5 + t212.size ≤ 9223372036854775807 then (if ((⟨#[122, 101, 114, 111, 32]⟩ : ByteArray) ++ t212).size + 1 ≤ 9223372036854775807 then ((impl_digits.f a0_4).bind fun t213 => (if (((⟨#[122, 101, 114, 111, 32]⟩ : ByteArray) ++ t212) ++ (⟨#[32]⟩ : ByteArray)).size + t213.size ≤ 9223372036854775807 then (some ((((⟨#[122, 101, 114, 111, 32]⟩ : ByteArray) ++ t212) ++ (⟨#[32]⟩ : ByteArray)) ++ t213)) else (none))) else (none)) else (none)) = some r := H
             have A114 := aM_ A1140
             clear A1140
             by_cases c115 : 5 + t212.size ≤ 9223372036854775807
             ·rw [if_pos c115] at H
              have c115b0 := eq_true c115
              have c115b1 : decide (5 + t212.size ≤ 9223372036854775807) = true := decide_eq_true c115
              try have c115b2 : (9223372036854775807 < 5 + t212.size) = False := eq_false (Nat.not_lt.2 c115)
              by_cases c116 : ((⟨#[122, 101, 114, 111, 32]⟩ : ByteArray) ++ t212).size + 1 ≤ 9223372036854775807
              ·rw [if_pos c116] at H
               have c116b0 := eq_true c116
               have c116b1 : decide (((⟨#[122, 101, 114, 111, 32]⟩ : ByteArray) ++ t212).size + 1 ≤ 9223372036854775807) = true := decide_eq_true c116
               (try (have c116n := c116; simp only [ByteArray.size_append, Tab.sz_mk, List.size_toArray, List.length_cons, List.length_nil, Nat.zero_add, Nat.reduceAdd] at c116n; have c116b4 := eq_true c116n; have c116b5 := eq_false (Nat.not_lt.2 c116n)))
               try have c116b2 : (9223372036854775807 < ((⟨#[122, 101, 114, 111, 32]⟩ : ByteArray) ++ t212).size + 1) = False := eq_false (Nat.not_lt.2 c116)
               replace H := Option.bind_eq_some_iff.mp H
               obtain ⟨t213, A1170, H⟩ := H
               replace H : (if (((⟨#[122, 101, 114, 111, 32]⟩ : ByteArray) ++ t212) ++ (⟨#[32]⟩ : ByteArray)).size + t213.size ≤ 9223372036854775807 then (some ((((⟨#[122, 101, 114, 111, 32]⟩ : ByteArray) ++ t212) ++ (⟨#[32]⟩ : ByteArray)) ++ t213)) else (none)) = some r := H
               have A117 := aM_ A1170
               clear A1170
               by_cases c118 : (((⟨#[122, 101, 114, 111, 32]⟩ : ByteArray) ++ t212) ++ (⟨#[32]⟩ : ByteArray)).size + t213.size ≤ 9223372036854775807
               ·rw [if_pos c118] at H
                have c118b0 := eq_true c118
                have c118b1 : decide ((((⟨#[122, 101, 114, 111, 32]⟩ : ByteArray) ++ t212) ++ (⟨#[32]⟩ : ByteArray)).size + t213.size ≤ 9223372036854775807) = true := decide_eq_true c118
                (try (have c118n := c118; simp only [ByteArray.size_append, Tab.sz_mk, List.size_toArray, List.length_cons, List.length_nil, Nat.zero_add, Nat.reduceAdd] at c118n; have c118b4 := eq_true c118n; have c118b5 := eq_false (Nat.not_lt.2 c118n)))
                try have c118b2 : (9223372036854775807 < (((⟨#[122, 101, 114, 111, 32]⟩ : ByteArray) ++ t212) ++ (⟨#[32]⟩ : ByteArray)).size + t213.size) = False := eq_false (Nat.not_lt.2 c118)
                obtain rfl := Option.some.inj H
                go_enter Tryd.func29, Tryd.ntmps29
                try go_wp2_with (first | ((with_reducible refine gate_dst (N := 1) rfl ?_); refine box_event ?hg (N := 1) ?hd (cs := #[.int .i64 a0_0, .int .i64 a0_1, .int .i64 a0_2, .int .i64 a0_3, .int .i64 a0_4]) (t := 46) ?hr ?_; (case hd => rfl); (case hg => rfl); (case hr => first | (go_simp; done) | (go_simp; rfl)); intro gb194 hg w119 hbox hb; have n0 := aM_ (below_step (by repeat (first | (with_reducible first | exact HB.out | apply hA_ | apply hN_ | apply hD_) | exact HB.out)) hb); have n1 := aM_ (hbox); have n2 := aM_ ((by rw [hg]; exact (below_size (by repeat (first | (with_reducible first | exact HB.out | apply hA_ | apply hN_ | apply hD_) | exact HB.out))) : w.heap.size ≤ gb194)); have n3 := aM_ ((by rw [hg]; exact (below_size (by repeat (first | (with_reducible first | exact HB.out | apply hA_ | apply hN_ | apply hD_) | exact HB.out))) : w.heap.size ≤ gb194)); clear HB; have HB := n0; have BK194 := n1; have GW194 := n2; have GE194 := n3; clear n0 n1 n2 n3; clear hb hbox hg; have hcz120_0 : w119.cell? ⟨gb194, 0, none⟩ = some (.int .i64 a0_0) := (blk_cell BK194.out 0).trans rfl; have hcz120_1 : w119.cell? ⟨gb194, 1, none⟩ = some (.int .i64 a0_1) := (blk_cell BK194.out 1).trans rfl; have hcz120_2 : w119.cell? ⟨gb194, 2, none⟩ = some (.int .i64 a0_2) := (blk_cell BK194.out 2).trans rfl; have hcz120_3 : w119.cell? ⟨gb194, 3, none⟩ = some (.int .i64 a0_3) := (blk_cell BK194.out 3).trans rfl; have hcz120_4 : w119.cell? ⟨gb194, 4, none⟩ = some (.int .i64 a0_4) := (blk_cell BK194.out 4).trans rfl; have hfz120_0 := blk_frozen BK194.out 0; have hfz120_1 := blk_frozen BK194.out 1; have hfz120_2 := blk_frozen BK194.out 2; have hfz120_3 := blk_frozen BK194.out 3; have hfz120_4 := blk_frozen BK194.out 4) | ((with_reducible refine gate_callee (f := 45) rfl ?_); refine goesL_ (some 4) rfl rfl Tryd.func45 (by kernel_rfl) rfl #[.agg #[.int .i64 a0_0, .int .i64 a0_1, .int .i64 a0_2, .int .i64 a0_3, .int .i64 a0_4], .int .i64 800] rfl (by (try simp only [mT_, mC_, mN_]); first | done | rfl | (simp only [List.length_drop, List.length_take]; rfl)) ?_; (with_reducible refine (impl_StepOk.calls k a0_0 a0_1 a0_2 a0_3 a0_4 800 true _ A2.out).mono ?_); rintro e w121 ⟨rfl, hb⟩; refine ⟨_, rfl, ?_⟩; have n0 := aM_ (blk_below (g := gb194) (o := .cells #[.int .i64 a0_0, .int .i64 a0_1, .int .i64 a0_2, .int .i64 a0_3, .int .i64 a0_4] 46 (0, 0)) (by (with_reducible repeat (first | refine bN_ ?_ _ | refine bD_ ?_ | refine bA_ ?_ _)); exact BK194.out) hb); have n1 := aM_ (below_step (by repeat (first | (with_reducible first | exact HB.out | apply hA_ | apply hN_ | apply hD_ | refine below_set ?_ GE194.out) | exact HB.out)) hb); clear BK194; clear HB; have BK194 := n0; have HB := n1; clear n0 n1; have hcz122_0 : w121.cell? ⟨gb194, 0, none⟩ = some (.int .i64 a0_0) := (blk_cell BK194.out 0).trans rfl; have hcz122_1 : w121.cell? ⟨gb194, 1, none⟩ = some (.int .i64 a0_1) := (blk_cell BK194.out 1).trans rfl; have hcz122_2 : w121.cell? ⟨gb194, 2, none⟩ = some (.int .i64 a0_2) := (blk_cell BK194.out 2).trans rfl; have hcz122_3 : w121.cell? ⟨gb194, 3, none⟩ = some (.int .i64 a0_3) := (blk_cell BK194.out 3).trans rfl; have hcz122_4 : w121.cell? ⟨gb194, 4, none⟩ = some (.int .i64 a0_4) := (blk_cell BK194.out 4).trans rfl; have hfz122_0 := blk_frozen BK194.out 0; have hfz122_1 := blk_frozen BK194.out 1; have hfz122_2 := blk_frozen BK194.out 2; have hfz122_3 := blk_frozen BK194.out 3; have hfz122_4 := blk_frozen BK194.out 4))
                (all_goals try (exfalso; have e1_ : (⟨#[32]⟩ : ByteArray).size = 1 := rfl; have e2_ : (⟨#[10]⟩ : ByteArray).size = 1 := rfl; simp only [ByteArray.size_append] at c116; omega))
                (all_goals try (exfalso; have e1_ : (⟨#[32]⟩ : ByteArray).size = 1 := rfl; have e2_ : (⟨#[10]⟩ : ByteArray).size = 1 := rfl; simp only [ByteArray.size_append] at c118; omega))
                have n0 := aM_ (blk_drew BK194.out)
                have n1 := aM_ (below_drew1 HB.out)
                clear BK194
                clear HB
                have BK194 := n0
                have HB := n1
                clear n0 n1
                refine start_ (n := 10) (S := fun w' => w'.cell? ⟨gb194, 0, none⟩ = some (.int .i64 a0_0) ∧ w'.cell? ⟨gb194, 1, none⟩ = some (.int .i64 a0_1) ∧ w'.cell? ⟨gb194, 2, none⟩ = some (.int .i64 a0_2) ∧ w'.cell? ⟨gb194, 3, none⟩ = some (.int .i64 a0_3) ∧ w'.cell? ⟨gb194, 4, none⟩ = some (.int .i64 a0_4)) (ds := []) #[false, false, false, false, false, false, false, false, false, false] (by kernel_rfl) rfl rfl ⟨(blk_cell BK194.out 0).trans rfl, (blk_cell BK194.out 1).trans rfl, (blk_cell BK194.out 2).trans rfl, (blk_cell BK194.out 3).trans rfl, (blk_cell BK194.out 4).trans rfl⟩ (fun hHeld => ?_); refine with_tabW impl_StepText.tab25 impl_StepText.bits25 (fun HT_ HW_ => ?_)
                generalize w121.drew = w123 at BK194 HB hHeld ⊢
                refine pure_ (i := 0) (N := some 93) (v := ?_) (a' := ?_) #[true, false, false, false, false, false, false, false, false, false] rfl rfl (any_of HT_.out (by kernel_rfl)) (fun _ _ _ h => h) (Or.inl ⟨by rfl, ?_⟩) ?_ ?_
                rotate_left
                ·intro w'
                 go_simp
                 with_reducible rfl
                rotate_left
                ·simp only [pt_, pn_, sI_, s0_, s1_, i64_w, i32_w]
                 rfl
                refine pure_ (i := 5) (N := some 98) (v := ?_) (a' := ?_) #[true, false, false, false, false, true, false, false, false, false] rfl rfl (any_of HT_.out (by kernel_rfl)) (fun _ _ _ h => h) (Or.inl ⟨by rfl, ?_⟩) ?_ ?_
                rotate_left
                ·intro w'
                 go_simp
                 with_reducible rfl
                rotate_left
                ·simp only [pt_, pn_, sI_, s0_, s1_, i64_w, i32_w]
                 rfl
                refine take_ (i := 1) (N := some 94) (v := ?_) (a' := ?_) #[true, true, false, false, false, true, false, false, false, false] rfl rfl (take_ofW HT_.out HW_.out (by kernel_rfl)) (fun _ _ _ h => h) (Or.inl ⟨by rfl, ?_⟩) hHeld ?_ ?_
                rotate_left
                ·rintro w' ⟨s0, s1, s2, s3, s4⟩
                 go_simp
                 with_reducible rfl
                rotate_left
                ·simp only [pt_, pn_, sI_, s0_, s1_, i64_w, i32_w]
                 rfl
                refine take_ (i := 6) (N := some 99) (v := ?_) (a' := ?_) #[true, true, false, false, false, true, true, false, false, false] rfl rfl (take_ofW HT_.out HW_.out (by kernel_rfl)) (fun _ _ _ h => h) (Or.inl ⟨by rfl, ?_⟩) hHeld ?_ ?_
                rotate_left
                ·rintro w' ⟨s0, s1, s2, s3, s4⟩
                 go_simp
                 with_reducible rfl
                rotate_left
                ·simp only [pt_, pn_, sI_, s0_, s1_, i64_w, i32_w]
                 rfl
                refine one_ (i := 2) (N := some 95) #[true, true, true, false, false, true, true, false, false, false] rfl rfl (one_of HT_.out (by kernel_rfl)) (by decide) (fun K hK => ?_)
                refine goes_ Tryd.func79 (by kernel_rfl) rfl #[.int .i64 a0_2] (by rfl) rfl rfl (by (try simp only [mT_, mC_, mN_]); first | done | rfl | (simp only [List.length_drop, List.length_take]; rfl)) ?_
                with_reducible refine (impl_reg.calls a0_2 t212 _ A114.out ?sT).mono ?_
                (case sT => first | with_reducible exact hT | exact Tab.Laid.below hT (by repeat (first | (with_reducible first | exact HB.out | apply hA_ | apply hN_ | apply hD_ | refine below_set ?_ GE194.out) | exact HB.out)))
                rintro e w124 ⟨rfl, hb⟩
                refine ⟨_, rfl, ?_⟩
                have n0 := aM_ (blk_below (g := gb194) (o := .cells #[.int .i64 a0_0, .int .i64 a0_1, .int .i64 a0_2, .int .i64 a0_3, .int .i64 a0_4] 46 (0, 0)) (by (with_reducible repeat (first | refine bN_ ?_ _ | refine bD_ ?_ | refine bA_ ?_ _)); exact BK194.out) hb)
                have n1 := aM_ (below_step (by repeat (first | (with_reducible first | exact HB.out | apply hA_ | apply hN_ | apply hD_ | refine below_set ?_ GE194.out) | exact HB.out)) hb)
                clear BK194
                clear HB
                have BK194 := n0
                have HB := n1
                clear n0 n1
                (try clear hb)
                (try clear hb2)
                (try clear hk)
                (try clear hi)
                refine hK.out _ _ ⟨(blk_cell BK194.out 0).trans rfl, (blk_cell BK194.out 1).trans rfl, (blk_cell BK194.out 2).trans rfl, (blk_cell BK194.out 3).trans rfl, (blk_cell BK194.out 4).trans rfl⟩ (fun hHeld => ?_)
                clear hK K
                refine norm_ (a' := ?_) ?_ ?_
                rotate_left
                ·show Act.put _ (some 95) _ = _
                 simp only [pt_, pn_, sI_, s0_, s1_, i64_w, i32_w]
                 rfl
                refine pure_ (i := 3) (N := some 96) (v := ?_) (a' := ?_) #[true, true, true, true, false, true, true, false, false, false] rfl rfl (any_of HT_.out (by kernel_rfl)) (fun _ _ _ h => h) (Or.inl ⟨by rfl, ?_⟩) ?_ ?_
                rotate_left
                ·intro w'
                 go_simp
                 with_reducible rfl
                rotate_left
                ·simp only [pt_, pn_, sI_, s0_, s1_, i64_w, i32_w]
                 rfl
                refine pure_ (i := 4) (N := some 97) (v := ?_) (a' := ?_) #[true, true, true, true, true, true, true, false, false, false] rfl rfl (any_of HT_.out (by kernel_rfl)) (fun _ _ _ h => h) (Or.inl ⟨by rfl, ?_⟩) ?_ ?_
                rotate_left
                ·intro w'
                 go_simp
                 with_reducible rfl
                rotate_left
                ·simp only [pt_, pn_, sI_, s0_, s1_, i64_w, i32_w]
                 rfl
                refine one_ (i := 7) (N := some 100) #[true, true, true, true, true, true, true, true, false, false] rfl rfl (one_of HT_.out (by kernel_rfl)) (by decide) (fun K hK => ?_)
                refine goes_ Tryd.func64 (by kernel_rfl) rfl #[.int .i64 a0_4] (by rfl) rfl rfl (by (try simp only [mT_, mC_, mN_]); first | done | rfl | (simp only [List.length_drop, List.length_take]; rfl)) ?_
                with_reducible refine (impl_digits.calls a0_4 t213 _ A117.out ?sT).mono ?_
                (case sT => first | with_reducible exact hT | exact Tab.Laid.below hT (by repeat (first | (with_reducible first | exact HB.out | apply hA_ | apply hN_ | apply hD_ | refine below_set ?_ GE194.out) | exact HB.out)))
                rintro e w125 ⟨rfl, hb⟩
                refine ⟨_, rfl, ?_⟩
                have n0 := aM_ (blk_below (g := gb194) (o := .cells #[.int .i64 a0_0, .int .i64 a0_1, .int .i64 a0_2, .int .i64 a0_3, .int .i64 a0_4] 46 (0, 0)) (by (with_reducible repeat (first | refine bN_ ?_ _ | refine bD_ ?_ | refine bA_ ?_ _)); exact BK194.out) hb)
                have n1 := aM_ (below_step (by repeat (first | (with_reducible first | exact HB.out | apply hA_ | apply hN_ | apply hD_ | refine below_set ?_ GE194.out) | exact HB.out)) hb)
                clear BK194
                clear HB
                have BK194 := n0
                have HB := n1
                clear n0 n1
                (try clear hb)
                (try clear hb2)
                (try clear hk)
                (try clear hi)
                refine hK.out _ _ ⟨(blk_cell BK194.out 0).trans rfl, (blk_cell BK194.out 1).trans rfl, (blk_cell BK194.out 2).trans rfl, (blk_cell BK194.out 3).trans rfl, (blk_cell BK194.out 4).trans rfl⟩ (fun hHeld => ?_)
                clear hK K
                refine norm_ (a' := ?_) ?_ ?_
                rotate_left
                ·show Act.put _ (some 100) _ = _
                 simp only [pt_, pn_, sI_, s0_, s1_, i64_w, i32_w]
                 rfl
                refine pure_ (i := 8) (N := some 101) (v := ?_) (a' := ?_) #[true, true, true, true, true, true, true, true, true, false] rfl rfl (any_of HT_.out (by kernel_rfl)) (fun _ _ _ h => h) (Or.inl ⟨by rfl, ?_⟩) ?_ ?_
                rotate_left
                ·intro w'
                 go_simp
                 with_reducible rfl
                rotate_left
                ·simp only [pt_, pn_, sI_, s0_, s1_, i64_w, i32_w]
                 rfl
                refine pure_ (i := 9) (N := some 2) (v := ?_) (a' := ?_) #[true, true, true, true, true, true, true, true, true, true] rfl rfl (any_of HT_.out (by kernel_rfl)) (fun _ _ _ h => h) (Or.inl ⟨by rfl, ?_⟩) ?_ ?_
                rotate_left
                ·intro w'
                 go_simp
                 with_reducible rfl
                rotate_left
                ·simp only [pt_, pn_, sI_, s0_, s1_, i64_w, i32_w]
                 rfl
                refine done_ (done_of HT_.out (by kernel_rfl)) ?_
                try go_wp2
                go_ret
                exact ⟨by first | rfl | (simp [errW_none, errW_some] <;> rfl) | (simp [*, errW_none, errW_some] <;> rfl), by repeat (first | (with_reducible first | exact HB.out | apply hA_ | apply hN_ | apply hD_ | refine below_set ?_ GE194.out) | exact HB.out)⟩
               ·rw [if_neg c118] at H
                exact absurd H (by simp)
              ·rw [if_neg c116] at H
               exact absurd H (by simp)
             ·rw [if_neg c115] at H
              exact absurd H (by simp)
            ·rw [if_neg c113] at H
             have c113b0 : (a0_0 == 11) = false := beq_eq_false_iff_ne.mpr c113
             have c113b1 : (a0_0 != 11) = true := bne_iff_ne.mpr c113
             by_cases c126 : a0_0 = 12
             ·rw [if_pos c126] at H
              have c126b0 : (a0_0 == 12) = true := beq_iff_eq.mpr c126
              have c126b1 : (a0_0 != 12) = false := bne_eq_false_iff_eq.mpr c126
              clear c126
              obtain rfl := Option.some.inj H
              go_enter Tryd.func29, Tryd.ntmps29
              go_wp2_with (first | ((with_reducible refine gate_dst (N := 1) rfl ?_); refine box_event ?hg (N := 1) ?hd (cs := #[.int .i64 a0_0, .int .i64 a0_1, .int .i64 a0_2, .int .i64 a0_3, .int .i64 a0_4]) (t := 46) ?hr ?_; (case hd => rfl); (case hg => rfl); (case hr => first | (go_simp; done) | (go_simp; rfl)); intro gb194 hg w127 hbox hb; have n0 := aM_ (below_step (by repeat (first | (with_reducible first | exact HB.out | apply hA_ | apply hN_ | apply hD_) | exact HB.out)) hb); have n1 := aM_ (hbox); have n2 := aM_ ((by rw [hg]; exact (below_size (by repeat (first | (with_reducible first | exact HB.out | apply hA_ | apply hN_ | apply hD_) | exact HB.out))) : w.heap.size ≤ gb194)); have n3 := aM_ ((by rw [hg]; exact (below_size (by repeat (first | (with_reducible first | exact HB.out | apply hA_ | apply hN_ | apply hD_) | exact HB.out))) : w.heap.size ≤ gb194)); clear HB; have HB := n0; have BK194 := n1; have GW194 := n2; have GE194 := n3; clear n0 n1 n2 n3; clear hb hbox hg; have hcz128_0 : w127.cell? ⟨gb194, 0, none⟩ = some (.int .i64 a0_0) := (blk_cell BK194.out 0).trans rfl; have hcz128_1 : w127.cell? ⟨gb194, 1, none⟩ = some (.int .i64 a0_1) := (blk_cell BK194.out 1).trans rfl; have hcz128_2 : w127.cell? ⟨gb194, 2, none⟩ = some (.int .i64 a0_2) := (blk_cell BK194.out 2).trans rfl; have hcz128_3 : w127.cell? ⟨gb194, 3, none⟩ = some (.int .i64 a0_3) := (blk_cell BK194.out 3).trans rfl; have hcz128_4 : w127.cell? ⟨gb194, 4, none⟩ = some (.int .i64 a0_4) := (blk_cell BK194.out 4).trans rfl; have hfz128_0 := blk_frozen BK194.out 0; have hfz128_1 := blk_frozen BK194.out 1; have hfz128_2 := blk_frozen BK194.out 2; have hfz128_3 := blk_frozen BK194.out 3; have hfz128_4 := blk_frozen BK194.out 4) | ((with_reducible refine gate_callee (f := 45) rfl ?_); refine goesL_ (some 4) rfl rfl Tryd.func45 (by kernel_rfl) rfl #[.agg #[.int .i64 a0_0, .int .i64 a0_1, .int .i64 a0_2, .int .i64 a0_3, .int .i64 a0_4], .int .i64 800] rfl (by (try simp only [mT_, mC_, mN_]); first | done | rfl | (simp only [List.length_drop, List.length_take]; rfl)) ?_; (with_reducible refine (impl_StepOk.calls k a0_0 a0_1 a0_2 a0_3 a0_4 800 true _ A2.out).mono ?_); rintro e w129 ⟨rfl, hb⟩; refine ⟨_, rfl, ?_⟩; have n0 := aM_ (blk_below (g := gb194) (o := .cells #[.int .i64 a0_0, .int .i64 a0_1, .int .i64 a0_2, .int .i64 a0_3, .int .i64 a0_4] 46 (0, 0)) (by (with_reducible repeat (first | refine bN_ ?_ _ | refine bD_ ?_ | refine bA_ ?_ _)); exact BK194.out) hb); have n1 := aM_ (below_step (by repeat (first | (with_reducible first | exact HB.out | apply hA_ | apply hN_ | apply hD_ | refine below_set ?_ GE194.out) | exact HB.out)) hb); clear BK194; clear HB; have BK194 := n0; have HB := n1; clear n0 n1; have hcz130_0 : w129.cell? ⟨gb194, 0, none⟩ = some (.int .i64 a0_0) := (blk_cell BK194.out 0).trans rfl; have hcz130_1 : w129.cell? ⟨gb194, 1, none⟩ = some (.int .i64 a0_1) := (blk_cell BK194.out 1).trans rfl; have hcz130_2 : w129.cell? ⟨gb194, 2, none⟩ = some (.int .i64 a0_2) := (blk_cell BK194.out 2).trans rfl; have hcz130_3 : w129.cell? ⟨gb194, 3, none⟩ = some (.int .i64 a0_3) := (blk_cell BK194.out 3).trans rfl; have hcz130_4 : w129.cell? ⟨gb194, 4, none⟩ = some (.int .i64 a0_4) := (blk_cell BK194.out 4).trans rfl; have hfz130_0 := blk_frozen BK194.out 0; have hfz130_1 := blk_frozen BK194.out 1; have hfz130_2 := blk_frozen BK194.out 2; have hfz130_3 := blk_frozen BK194.out 3; have hfz130_4 := blk_frozen BK194.out 4))
              go_ret
              exact ⟨by first | rfl | (simp [errW_none, errW_some] <;> rfl) | (simp [*, errW_none, errW_some] <;> rfl), by repeat (first | (with_reducible first | exact HB.out | apply hA_ | apply hN_ | apply hD_ | refine below_set ?_ GE194.out) | exact HB.out)⟩
             ·rw [if_neg c126] at H
              have c126b0 : (a0_0 == 12) = false := beq_eq_false_iff_ne.mpr c126
              have c126b1 : (a0_0 != 12) = true := bne_iff_ne.mpr c126
              obtain rfl := Option.some.inj H
              go_enter Tryd.func29, Tryd.ntmps29
              go_wp2_with (first | ((with_reducible refine gate_dst (N := 1) rfl ?_); refine box_event ?hg (N := 1) ?hd (cs := #[.int .i64 a0_0, .int .i64 a0_1, .int .i64 a0_2, .int .i64 a0_3, .int .i64 a0_4]) (t := 46) ?hr ?_; (case hd => rfl); (case hg => rfl); (case hr => first | (go_simp; done) | (go_simp; rfl)); intro gb194 hg w131 hbox hb; have n0 := aM_ (below_step (by repeat (first | (with_reducible first | exact HB.out | apply hA_ | apply hN_ | apply hD_) | exact HB.out)) hb); have n1 := aM_ (hbox); have n2 := aM_ ((by rw [hg]; exact (below_size (by repeat (first | (with_reducible first | exact HB.out | apply hA_ | apply hN_ | apply hD_) | exact HB.out))) : w.heap.size ≤ gb194)); have n3 := aM_ ((by rw [hg]; exact (below_size (by repeat (first | (with_reducible first | exact HB.out | apply hA_ | apply hN_ | apply hD_) | exact HB.out))) : w.heap.size ≤ gb194)); clear HB; have HB := n0; have BK194 := n1; have GW194 := n2; have GE194 := n3; clear n0 n1 n2 n3; clear hb hbox hg; have hcz132_0 : w131.cell? ⟨gb194, 0, none⟩ = some (.int .i64 a0_0) := (blk_cell BK194.out 0).trans rfl; have hcz132_1 : w131.cell? ⟨gb194, 1, none⟩ = some (.int .i64 a0_1) := (blk_cell BK194.out 1).trans rfl; have hcz132_2 : w131.cell? ⟨gb194, 2, none⟩ = some (.int .i64 a0_2) := (blk_cell BK194.out 2).trans rfl; have hcz132_3 : w131.cell? ⟨gb194, 3, none⟩ = some (.int .i64 a0_3) := (blk_cell BK194.out 3).trans rfl; have hcz132_4 : w131.cell? ⟨gb194, 4, none⟩ = some (.int .i64 a0_4) := (blk_cell BK194.out 4).trans rfl; have hfz132_0 := blk_frozen BK194.out 0; have hfz132_1 := blk_frozen BK194.out 1; have hfz132_2 := blk_frozen BK194.out 2; have hfz132_3 := blk_frozen BK194.out 3; have hfz132_4 := blk_frozen BK194.out 4) | ((with_reducible refine gate_callee (f := 45) rfl ?_); refine goesL_ (some 4) rfl rfl Tryd.func45 (by kernel_rfl) rfl #[.agg #[.int .i64 a0_0, .int .i64 a0_1, .int .i64 a0_2, .int .i64 a0_3, .int .i64 a0_4], .int .i64 800] rfl (by (try simp only [mT_, mC_, mN_]); first | done | rfl | (simp only [List.length_drop, List.length_take]; rfl)) ?_; (with_reducible refine (impl_StepOk.calls k a0_0 a0_1 a0_2 a0_3 a0_4 800 true _ A2.out).mono ?_); rintro e w133 ⟨rfl, hb⟩; refine ⟨_, rfl, ?_⟩; have n0 := aM_ (blk_below (g := gb194) (o := .cells #[.int .i64 a0_0, .int .i64 a0_1, .int .i64 a0_2, .int .i64 a0_3, .int .i64 a0_4] 46 (0, 0)) (by (with_reducible repeat (first | refine bN_ ?_ _ | refine bD_ ?_ | refine bA_ ?_ _)); exact BK194.out) hb); have n1 := aM_ (below_step (by repeat (first | (with_reducible first | exact HB.out | apply hA_ | apply hN_ | apply hD_ | refine below_set ?_ GE194.out) | exact HB.out)) hb); clear BK194; clear HB; have BK194 := n0; have HB := n1; clear n0 n1; have hcz134_0 : w133.cell? ⟨gb194, 0, none⟩ = some (.int .i64 a0_0) := (blk_cell BK194.out 0).trans rfl; have hcz134_1 : w133.cell? ⟨gb194, 1, none⟩ = some (.int .i64 a0_1) := (blk_cell BK194.out 1).trans rfl; have hcz134_2 : w133.cell? ⟨gb194, 2, none⟩ = some (.int .i64 a0_2) := (blk_cell BK194.out 2).trans rfl; have hcz134_3 : w133.cell? ⟨gb194, 3, none⟩ = some (.int .i64 a0_3) := (blk_cell BK194.out 3).trans rfl; have hcz134_4 : w133.cell? ⟨gb194, 4, none⟩ = some (.int .i64 a0_4) := (blk_cell BK194.out 4).trans rfl; have hfz134_0 := blk_frozen BK194.out 0; have hfz134_1 := blk_frozen BK194.out 1; have hfz134_2 := blk_frozen BK194.out 2; have hfz134_3 := blk_frozen BK194.out 3; have hfz134_4 := blk_frozen BK194.out 4))
              go_ret
              exact ⟨by first | rfl | (simp [errW_none, errW_some] <;> rfl) | (simp [*, errW_none, errW_some] <;> rfl), by repeat (first | (with_reducible first | exact HB.out | apply hA_ | apply hN_ | apply hD_ | refine below_set ?_ GE194.out) | exact HB.out)⟩
 ·replace c3 := Bool.eq_false_iff.mpr c3
  subst c3
  have H1 : (some (⟨#[]⟩ : ByteArray)) = some r := by rw [if_neg (show ¬ (false = true) by decide)] at H; exact H
  clear H
  have H := H1
  clear H1
  obtain rfl := Option.some.inj H
  go_enter Tryd.func29, Tryd.ntmps29
  go_wp2_with (first | ((with_reducible refine gate_dst (N := 1) rfl ?_); refine box_event ?hg (N := 1) ?hd (cs := #[.int .i64 a0_0, .int .i64 a0_1, .int .i64 a0_2, .int .i64 a0_3, .int .i64 a0_4]) (t := 46) ?hr ?_; (case hd => rfl); (case hg => rfl); (case hr => first | (go_simp; done) | (go_simp; rfl)); intro gb194 hg w135 hbox hb; have n0 := aM_ (below_step (by repeat (first | (with_reducible first | exact HB.out | apply hA_ | apply hN_ | apply hD_) | exact HB.out)) hb); have n1 := aM_ (hbox); have n2 := aM_ ((by rw [hg]; exact (below_size (by repeat (first | (with_reducible first | exact HB.out | apply hA_ | apply hN_ | apply hD_) | exact HB.out))) : w.heap.size ≤ gb194)); have n3 := aM_ ((by rw [hg]; exact (below_size (by repeat (first | (with_reducible first | exact HB.out | apply hA_ | apply hN_ | apply hD_) | exact HB.out))) : w.heap.size ≤ gb194)); clear HB; have HB := n0; have BK194 := n1; have GW194 := n2; have GE194 := n3; clear n0 n1 n2 n3; clear hb hbox hg; have hcz136_0 : w135.cell? ⟨gb194, 0, none⟩ = some (.int .i64 a0_0) := (blk_cell BK194.out 0).trans rfl; have hcz136_1 : w135.cell? ⟨gb194, 1, none⟩ = some (.int .i64 a0_1) := (blk_cell BK194.out 1).trans rfl; have hcz136_2 : w135.cell? ⟨gb194, 2, none⟩ = some (.int .i64 a0_2) := (blk_cell BK194.out 2).trans rfl; have hcz136_3 : w135.cell? ⟨gb194, 3, none⟩ = some (.int .i64 a0_3) := (blk_cell BK194.out 3).trans rfl; have hcz136_4 : w135.cell? ⟨gb194, 4, none⟩ = some (.int .i64 a0_4) := (blk_cell BK194.out 4).trans rfl; have hfz136_0 := blk_frozen BK194.out 0; have hfz136_1 := blk_frozen BK194.out 1; have hfz136_2 := blk_frozen BK194.out 2; have hfz136_3 := blk_frozen BK194.out 3; have hfz136_4 := blk_frozen BK194.out 4) | ((with_reducible refine gate_callee (f := 45) rfl ?_); refine goesL_ (some 4) rfl rfl Tryd.func45 (by kernel_rfl) rfl #[.agg #[.int .i64 a0_0, .int .i64 a0_1, .int .i64 a0_2, .int .i64 a0_3, .int .i64 a0_4], .int .i64 800] rfl (by (try simp only [mT_, mC_, mN_]); first | done | rfl | (simp only [List.length_drop, List.length_take]; rfl)) ?_; (with_reducible refine (impl_StepOk.calls k a0_0 a0_1 a0_2 a0_3 a0_4 800 false _ A2.out).mono ?_); rintro e w137 ⟨rfl, hb⟩; refine ⟨_, rfl, ?_⟩; have n0 := aM_ (blk_below (g := gb194) (o := .cells #[.int .i64 a0_0, .int .i64 a0_1, .int .i64 a0_2, .int .i64 a0_3, .int .i64 a0_4] 46 (0, 0)) (by (with_reducible repeat (first | refine bN_ ?_ _ | refine bD_ ?_ | refine bA_ ?_ _)); exact BK194.out) hb); have n1 := aM_ (below_step (by repeat (first | (with_reducible first | exact HB.out | apply hA_ | apply hN_ | apply hD_ | refine below_set ?_ GE194.out) | exact HB.out)) hb); clear BK194; clear HB; have BK194 := n0; have HB := n1; clear n0 n1))
  go_ret
  exact ⟨by first | rfl | (simp [errW_none, errW_some] <;> rfl) | (simp [*, errW_none, errW_some] <;> rfl), by repeat (first | (with_reducible first | exact HB.out | apply hA_ | apply hN_ | apply hD_ | refine below_set ?_ GE194.out) | exact HB.out)⟩
end Go.Proofs.YtkjfcmgpplapeaaDoor.PFnExactCodeText
