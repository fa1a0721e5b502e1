/- A part of the proof that the law FnInsText holds for every input: the words, functions and walks that its row needs, without a condition of their own. -/
import Derived.Test.YtkjfcmgpplapeaaDoorZFnInsTexta4
import Derived.Test.YtkjfcmgpplapeaaDoorZFnInsTexta7
import Derived.Test.YtkjfcmgpplapeaaDoorZFnInsTexts
namespace Go.Proofs.YtkjfcmgpplapeaaDoor.PFnInsText
open Go.RowKit Go.Proofs.YtkjfcmgpplapeaaDoorW.PrintWords Go.Proofs.YtkjfcmgpplapeaaDoorW.PrintLast Go.Proofs.YtkjfcmgpplapeaaDoorW.PrintMore
attribute [local go_sem] max2_int min2_int max_two min_two max_three min_three max_four min_four   -- for this text's walks alone
set_option linter.unusedVariables false
set_option linter.unusedSimpArgs false
def impl_digits.f (a0 : Int) : Option ByteArray := TabT.digitsF a0
theorem impl_digits.calls (a0 : Int) (r : ByteArray) (w : World) (h : impl_digits.f a0 = some r) (hT : TabT.Laid w) :
  Calls Tryd.prog 64 #[.int .i64 a0] w fun e w' => e = .returned (.string r) ∧ Below w.heap.size w w' := TabT.digits_calls a0 r w h hT
def impl_words.l0 : Nat → ByteArray → List Int → Int → Int → Option (ByteArray)
  | 0, _, _, _, _ => none
  | k + 1, x5, x9, x10, x11 => if x11 < x10 then (if 0 ≤ x11 then (if x11 < (x9.length : Int) then ((impl_digits.f (rd x9 x11)).bind fun t195 => (if 1 + t195.size ≤ 9223372036854775807 then (if x5.size + ((⟨#[32]⟩ : ByteArray) ++ t195).size ≤ 9223372036854775807 then (impl_words.l0 k (x5 ++ ((⟨#[32]⟩ : ByteArray) ++ t195)) x9 x10 (wrap64 (x11 + 1))) else (none)) else (none))) else (none)) else (none)) else (some x5)
def impl_words.f (k : Nat) (a0 : ByteArray) (l1 : List Int) : Option (ByteArray) := impl_words.l0 k a0 l1 (l1.length : Int) 0
set_option maxHeartbeats 8000000 in
set_option maxRecDepth 100000 in
theorem impl_words.calls (k : Nat) (a0 : ByteArray) (A1 : Option Addr) (c1 : Nat) (l1 : List Int) (r : ByteArray) (w : World) (hr1 : Kd.C (Kd.int .i64) w A1 l1.length l1) (hc1 : l1.length ≤ c1) (h : impl_words.f k a0 l1 = some r) (hT : TabT.Laid w) :
  Calls Tryd.prog 70 #[.string a0, .slice A1 l1.length c1] w fun e w' => e = .returned (.string r) ∧ Below w.heap.size w w' := by
 have HR1 := aM_ hr1
 have HC1 := aM_ hc1
 clear hr1 hc1
 have HB := aM_ (Below.refl w.heap.size w)
 have H : (impl_words.l0 k a0 l1 (l1.length : Int) 0) = some r := h
 clear h
 have H' := aM_ H
 clear H
 go_enter Tryd.func70, Tryd.ntmps70
 go_wp2
 go_loopg [5, 11] k (fun kq v5 v11 w' => ∃ (x5_1 : ByteArray) (x11_1 : Int), v5 = .string x5_1 ∧ v11 = .int .i64 x11_1 ∧ Aside0 (impl_words.l0 kq x5_1 l1 (l1.length : Int) x11_1 = some r) ∧ Aside0 (kq ≤ k) ∧ Aside0 (Below w.heap.size w w'))
 case atStart => exact ⟨(a0), (0), (by first | rfl | (simp; done) | (simp [*]; done)), (by first | rfl | (simp; done) | (simp [*]; done)), H', ⟨Nat.le_refl _⟩, ⟨gW_ HB.out⟩⟩
 case round =>
  clear H'
  try clear c1
  try clear p2
  obtain ⟨x5_1, x11_1, rfl, rfl, HA, HK1, HB⟩ := hrel
  cases gk with
  | zero => exact absurd HA.out (by simp [impl_words.l0])
  | succ k1 =>
   have H := HA.out
   clear HA
   simp only [impl_words.l0] at H
   by_cases c3 : x11_1 < (l1.length : Int)
   ·rw [if_pos c3] at H
    have c3b0 : decide (x11_1 < (l1.length : Int)) = true := decide_eq_true c3
    clear c3
    by_cases c4 : 0 ≤ x11_1
    ·rw [if_pos c4] at H
     have c4b0 : decide (0 ≤ x11_1) = true := decide_eq_true c4
     clear c4
     by_cases c5 : x11_1 < (l1.length : Int)
     ·rw [if_pos c5] at H
      have c5b0 : decide (x11_1 < (l1.length : Int)) = true := decide_eq_true c5
      clear c5
      replace H := Option.bind_eq_some_iff.mp H
      obtain ⟨t195, A60, H⟩ := H
      replace H : (if 1 + t195.size ≤ 9223372036854775807 then (if x5_1.size + ((⟨#[32]⟩ : ByteArray) ++ t195).size ≤ 9223372036854775807 then (impl_words.l0 k1 (x5_1 ++ ((⟨#[32]⟩ : ByteArray) ++ t195)) l1 (l1.length : Int) (wrap64 (x11_1 + 1))) else (none)) else (none)) = some r := H
      have A6 := aM_ A60
      clear A60
      by_cases c7 : 1 + t195.size ≤ 9223372036854775807
      ·rw [if_pos c7] at H
       have c7b0 := eq_true c7
       have c7b1 : decide (1 + t195.size ≤ 9223372036854775807) = true := decide_eq_true c7
       try have c7b2 : (9223372036854775807 < 1 + t195.size) = False := eq_false (Nat.not_lt.2 c7)
       by_cases c8 : x5_1.size + ((⟨#[32]⟩ : ByteArray) ++ t195).size ≤ 9223372036854775807
       ·rw [if_pos c8] at H
        have c8b0 := eq_true c8
        have c8b1 : decide (x5_1.size + ((⟨#[32]⟩ : ByteArray) ++ t195).size ≤ 9223372036854775807) = true := decide_eq_true c8
        (try (have c8n := c8; simp only [ByteArray.size_append, Tab.sz_mk, List.size_toArray, List.length_cons, List.length_nil, Nat.zero_add, Nat.reduceAdd] at c8n; have c8b4 := eq_true c8n; have c8b5 := eq_false (Nat.not_lt.2 c8n)))
        try have c8b2 : (9223372036854775807 < x5_1.size + ((⟨#[32]⟩ : ByteArray) ++ t195).size) = False := eq_false (Nat.not_lt.2 c8)
        have H' := aM_ H
        clear H
        have p194 : 0 ≤ (x11_1 : Int) := of_decide_eq_true (by first | (with_reducible assumption) | assumption)
        have q194 : x11_1 < (l1.length : Int) := of_decide_eq_true (by first | (with_reducible assumption) | assumption)
        obtain ⟨ad194, e194, hx194_0⟩ := Kd.at_int HR1.out x11_1 p194 q194
        cases e194
        replace hx194_0 := cB_ HB.out hx194_0
        replace p194 := eq_true p194
        replace q194 := eq_true q194
        go_wp2_with (first | ((with_reducible refine gate_callee (f := 64) rfl ?_); refine gL_ (some 17) Tryd.func64 #[.int .i64 (rd l1 x11_1)] ?_; (with_reducible refine (impl_digits.calls (rd l1 x11_1) t195 _ A6.out ?sT).mono ?_); (case sT => first | with_reducible exact hT | exact TabT.Laid.below hT (by repeat (first | (with_reducible first | exact HB.out | apply hA_ | apply hN_ | apply hD_ | refine below_set ?_ GE196.out) | exact HB.out))); rintro e w9 ⟨rfl, hb⟩; refine ⟨_, rfl, ?_⟩; have n0 := aM_ (sT_ HB.out hb); clear HB; have HB := n0; clear n0))
        (all_goals try (exfalso; have e1_ : (⟨#[32]⟩ : ByteArray).size = 1 := rfl; have e2_ : (⟨#[10]⟩ : ByteArray).size = 1 := rfl; simp only [ByteArray.size_append] at c8; omega))
        go_roundg k1
        case measure => have := HK1.out; omega
        case rel => exact ⟨(x5_1 ++ ((⟨#[32]⟩ : ByteArray) ++ t195)), (wrap64 (x11_1 + 1)), (by first | rfl | (simp; done) | (simp [*]; done)), (by first | rfl | (simp; done) | (simp [*]; done)), H', ⟨by have := HK1.out; omega⟩, ⟨gW_ HB.out⟩⟩
       ·rw [if_neg c8] at H
        exact absurd H (by simp)
      ·rw [if_neg c7] at H
       exact absurd H (by simp)
     ·rw [if_neg c5] at H
      exact absurd H (by simp)
    ·rw [if_neg c4] at H
     exact absurd H (by simp)
   ·rw [if_neg c3] at H
    have c3b0 : decide (x11_1 < (l1.length : Int)) = false := decide_eq_false c3
    clear c3
    obtain rfl := Option.some.inj H
    go_wp2
    go_ret
    exact fI_ HB.out
def impl_InsText.f (k : Nat) (a0_0 : Int) (a0_1 : Int) (a0_2 : Int) (a0_3 : Int) (a0_4 : Int) : Option (ByteArray) := (impl_InsOk.f k a0_0 a0_1 a0_2 a0_3 a0_4 24 3).bind fun t197 => (if t197 = true then (if a0_0 = 1 then ((impl_words.f k (⟨#[115, 101, 116]⟩ : ByteArray) (([a0_1, a0_4] : List Int))).bind fun t201 => (some t201)) else (if a0_0 = 2 then ((impl_words.f k (⟨#[97, 100, 100]⟩ : ByteArray) (([a0_1, a0_2, a0_3] : List Int))).bind fun t205 => (some t205)) else (if a0_0 = 3 then ((impl_words.f k (⟨#[115, 117, 98]⟩ : ByteArray) (([a0_1, a0_2, a0_3] : List Int))).bind fun t209 => (some t209)) else (if a0_0 = 4 then ((impl_words.f k (⟨#[108, 101, 115, 115]⟩ : ByteArray) (([a0_1, a0_2, a0_3] : List Int))).bind fun t213 => (some t213)) else (if a0_0 = 5 then ((impl_words.f k (⟨#[115, 101, 110, 100]⟩ : ByteArray) (([a0_4, a0_2] : List Int))).bind fun t217 => (some t217)) else (if a0_0 = 6 then ((impl_words.f k (⟨#[116, 97, 107, 101]⟩ : ByteArray) (([a0_1, a0_3, a0_4] : List Int))).bind fun t221 => (some t221)) else (if a0_0 = 7 then ((impl_words.f k (⟨#[116, 114, 121, 115, 101, 110, 100]⟩ : ByteArray) (([a0_1, a0_4, a0_2] : List Int))).bind fun t225 => (some t225)) else (if a0_0 = 8 then ((impl_words.f k (⟨#[116, 114, 121, 116, 97, 107, 101]⟩ : ByteArray) (([a0_1, a0_3, a0_4] : List Int))).bind fun t229 => (some t229)) else (if a0_0 = 9 then ((impl_words.f k (⟨#[99, 108, 111, 115, 101]⟩ : ByteArray) (([a0_4] : List Int))).bind fun t233 => (some t233)) else (if a0_0 = 10 then ((impl_words.f k (⟨#[112, 114, 105, 110, 116]⟩ : ByteArray) (([a0_2] : List Int))).bind fun t237 => (some t237)) else (if a0_0 = 11 then ((impl_words.f k (⟨#[106, 117, 109, 112]⟩ : ByteArray) (([a0_4] : List Int))).bind fun t241 => (some t241)) else (if a0_0 = 12 then ((impl_words.f k (⟨#[122, 101, 114, 111]⟩ : ByteArray) (([a0_2, a0_4] : List Int))).bind fun t245 => (some t245)) else (some (⟨#[101, 110, 100]⟩ : ByteArray)))))))))))))) else (some (⟨#[]⟩ : ByteArray)))
set_option maxHeartbeats 8000000 in
set_option maxRecDepth 100000 in
theorem impl_InsText.calls (k : Nat) (a0_0 : Int) (a0_1 : Int) (a0_2 : Int) (a0_3 : Int) (a0_4 : Int) (r : ByteArray) (w : World) (h : impl_InsText.f k a0_0 a0_1 a0_2 a0_3 a0_4 = some r) (hT : TabT.Laid w) :
  Calls Tryd.prog 21 #[.agg #[.int .i64 a0_0, .int .i64 a0_1, .int .i64 a0_2, .int .i64 a0_3, .int .i64 a0_4]] w fun e w' => e = .returned (.string r) ∧ Below w.heap.size w w' := by
 have hu32 := Tryd.underlying32
 have HB := aM_ (Below.refl w.heap.size w)
 have H : ((impl_InsOk.f k a0_0 a0_1 a0_2 a0_3 a0_4 24 3).bind fun t197 => (if t197 = true then (if a0_0 = 1 then ((impl_words.f k (⟨#[115, 101, 116]⟩ : ByteArray) (([a0_1, a0_4] : List Int))).bind fun t201 => (some t201)) else (if a0_0 = 2 then ((impl_words.f k (⟨#[97, 100, 100]⟩ : ByteArray) (([a0_1, a0_2, a0_3] : List Int))).bind fun t205 => (some t205)) else (if a0_0 = 3 then ((impl_words.f k (⟨#[115, 117, 98]⟩ : ByteArray) (([a0_1, a0_2, a0_3] : List Int))).bind fun t209 => (some t209)) else (if a0_0 = 4 then ((impl_words.f k (⟨#[108, 101, 115, 115]⟩ : ByteArray) (([a0_1, a0_2, a0_3] : List Int))).bind fun t213 => (some t213)) else (if a0_0 = 5 then ((impl_words.f k (⟨#[115, 101, 110, 100]⟩ : ByteArray) (([a0_4, a0_2] : List Int))).bind fun t217 => (some t217)) else (if a0_0 = 6 then ((impl_words.f k (⟨#[116, 97, 107, 101]⟩ : ByteArray) (([a0_1, a0_3, a0_4] : List Int))).bind fun t221 => (some t221)) else (if a0_0 = 7 then ((impl_words.f k (⟨#[116, 114, 121, 115, 101, 110, 100]⟩ : ByteArray) (([a0_1, a0_4, a0_2] : List Int))).bind fun t225 => (some t225)) else (if a0_0 = 8 then ((impl_words.f k (⟨#[116, 114, 121, 116, 97, 107, 101]⟩ : ByteArray) (([a0_1, a0_3, a0_4] : List Int))).bind fun t229 => (some t229)) else (if a0_0 = 9 then ((impl_words.f k (⟨#[99, 108, 111, 115, 101]⟩ : ByteArray) (([a0_4] : List Int))).bind fun t233 => (some t233)) else (if a0_0 = 10 then ((impl_words.f k (⟨#[112, 114, 105, 110, 116]⟩ : ByteArray) (([a0_2] : List Int))).bind fun t237 => (some t237)) else (if a0_0 = 11 then ((impl_words.f k (⟨#[106, 117, 109, 112]⟩ : ByteArray) (([a0_4] : List Int))).bind fun t241 => (some t241)) else (if a0_0 = 12 then ((impl_words.f k (⟨#[122, 101, 114, 111]⟩ : ByteArray) (([a0_2, a0_4] : List Int))).bind fun t245 => (some t245)) else (some (⟨#[101, 110, 100]⟩ : ByteArray)))))))))))))) else (some (⟨#[]⟩ : ByteArray)))) = some r := h
 clear h
 replace H := Option.bind_eq_some_iff.mp H
 obtain ⟨t197, A20, H⟩ := H
 replace H : (if t197 = true then (if a0_0 = 1 then ((impl_words.f k (⟨#[115, 101, 116]⟩ : ByteArray) (([a0_1, a0_4] : List Int))).bind fun t201 => (some t201)) else (if a0_0 = 2 then ((impl_words.f k (⟨#[97, 100, 100]⟩ : ByteArray) (([a0_1, a0_2, a0_3] : List Int))).bind fun t205 => (some t205)) else (if a0_0 = 3 then ((impl_words.f k (⟨#[115, 117, 98]⟩ : ByteArray) (([a0_1, a0_2, a0_3] : List Int))).bind fun t209 => (some t209)) else (if a0_0 = 4 then ((impl_words.f k (⟨#[108, 101, 115, 115]⟩ : ByteArray) (([a0_1, a0_2, a0_3] : List Int))).bind fun t213 => (some t213)) else (if a0_0 = 5 then ((impl_words.f k (⟨#[115, 101, 110, 100]⟩ : ByteArray) (([a0_4, a0_2] : List Int))).bind fun t217 => (some t217)) else (if a0_0 = 6 then ((impl_words.f k (⟨#[116, 97, 107, 101]⟩ : ByteArray) (([a0_1, a0_3, a0_4] : List Int))).bind fun t221 => (some t221)) else (if a0_0 = 7 then ((impl_words.f k (⟨#[116, 114, 121, 115, 101, 110, 100]⟩ : ByteArray) (([a0_1, a0_4, a0_2] : List Int))).bind fun t225 => (some t225)) else (if a0_0 = 8 then ((impl_words.f k (⟨#[116, 114, 121, 116, 97, 107, 101]⟩ : ByteArray) (([a0_1, a0_3, a0_4] : List Int))).bind fun t229 => (some t229)) else (if a0_0 = 9 then ((impl_words.f k (⟨#[99, 108, 111, 115, 101]⟩ : ByteArray) (([a0_4] : List Int))).bind fun t233 => (some t233)) else (if a0_0 = 10 then ((impl_words.f k (⟨#[112, 114, 105, 110, 116]⟩ : ByteArray) (([a0_2] : List Int))).bind fun t237 => (some t237)) else (if a0_0 = 11 then ((impl_words.f k (⟨#[106, 117, 109, 112]⟩ : ByteArray) (([a0_4] : List Int))).bind fun t241 => (some t241)) else (if a0_0 = 12 then ((impl_words.f k (⟨#[122, 101, 114, 111]⟩ : ByteArray) (([a0_2, a0_4] : List Int))).bind fun t245 => (some t245)) else (some (⟨#[101, 110, 100]⟩ : ByteArray)))))))))))))) else (some (⟨#[]⟩ : ByteArray))) = some r := H
 have A2 := aM_ A20
 clear A20
 by_cases c3 : t197 = true
 ·subst c3
  have H1 : (if a0_0 = 1 then ((impl_words.f k (⟨#[115, 101, 116]⟩ : ByteArray) (([a0_1, a0_4] : List Int))).bind fun t201 => (some t201)) else (if a0_0 = 2 then ((impl_words.f k (⟨#[97, 100, 100]⟩ : ByteArray) (([a0_1, a0_2, a0_3] : List Int))).bind fun t205 => (some t205)) else (if a0_0 = 3 then ((impl_words.f k (⟨#[115, 117, 98]⟩ : ByteArray) (([a0_1, a0_2, a0_3] : List Int))).bind fun t209 => (some t209)) else (if a0_0 = 4 then ((impl_words.f k (⟨#[108, 101, 115, 115]⟩ : ByteArray) (([a0_1, a0_2, a0_3] : List Int))).bind fun t213 => (some t213)) else (if a0_0 = 5 then ((impl_words.f k (⟨#[115, 101, 110, 100]⟩ : ByteArray) (([a0_4, a0_2] : List Int))).bind fun t217 => (some t217)) else (if a0_0 = 6 then ((impl_words.f k (⟨#[116, 97, 107, 101]⟩ : ByteArray) (([a0_1, a0_3, a0_4] : List Int))).bind fun t221 => (some t221)) else (if a0_0 = 7 then ((impl_words.f k (⟨#[116, 114, 121, 115, 101, 110, 100]⟩ : ByteArray) (([a0_1, a0_4, a0_2] : List Int))).bind fun t225 => (some t225)) else (if a0_0 = 8 then ((impl_words.f k (⟨#[116, 114, 121, 116, 97, 107, 101]⟩ : ByteArray) (([a0_1, a0_3, a0_4] : List Int))).bind fun t229 => (some t229)) else (if a0_0 = 9 then ((impl_words.f k (⟨#[99, 108, 111, 115, 101]⟩ : ByteArray) (([a0_4] : List Int))).bind fun t233 => (some t233)) else (if a0_0 = 10 then ((impl_words.f k (⟨#[112, 114, 105, 110, 116]⟩ : ByteArray) (([a0_2] : List Int))).bind fun t237 => (some t237)) else (if a0_0 = 11 then ((impl_words.f k (⟨#[106, 117, 109, 112]⟩ : ByteArray) (([a0_4] : List Int))).bind fun t241 => (some t241)) else (if a0_0 = 12 then ((impl_words.f k (⟨#[122, 101, 114, 111]⟩ : ByteArray) (([a0_2, a0_4] : List Int))).bind fun t245 => (some t245)) else (some (⟨#[101, 110, 100]⟩ : ByteArray)))))))))))))) = some r := by rw [if_pos rfl] at H; exact H
  clear H
  have H := H1
  clear H1
  by_cases c4 : a0_0 = 1
  ·rw [if_pos c4] at H
   have c4b0 : (a0_0 == 1) = true := beq_iff_eq.mpr c4
   have c4b1 : (a0_0 != 1) = false := bne_eq_false_iff_eq.mpr c4
   clear c4
   obtain ⟨y198, hy198⟩ : ∃ y_ : List Int, y_ = (([a0_1, a0_4] : List Int)) := ⟨_, rfl⟩
   replace H : ((impl_words.f k (⟨#[115, 101, 116]⟩ : ByteArray) y198).bind fun t201 => (some t201)) = some r := by first | (rw [hy198]; with_reducible exact H) | (have H2_ := (Option.bind_some _ _).symm.trans H; rw [hy198]; with_reducible exact H2_) | (have H2_ := (Option.bind_some _ _).symm.trans H; with_reducible exact H2_) | with_reducible exact H | (rw [hy198]; exact H) | exact H
   have Ny198 := aM_ hy198
   clear hy198
   replace H := Option.bind_eq_some_iff.mp H
   obtain ⟨t201, A50, H⟩ := H
   replace H : (some t201) = some r := H
   have A5 := aM_ A50
   clear A50
   obtain rfl := Option.some.inj H
   go_enter Tryd.func21, Tryd.ntmps21
   go_wp2_with (first | ((with_reducible refine gate_dst (N := 1) rfl ?_); refine bX_ 1 (cs := #[.int .i64 a0_0, .int .i64 a0_1, .int .i64 a0_2, .int .i64 a0_3, .int .i64 a0_4]) (t := 32) ?_; intro gb196 hg w6 hbox hb; have n0 := aM_ (sT_ HB.out hb); have n1 := aM_ (hbox); have n2 := aM_ (sZ_ hg HB.out); have n3 := aM_ (sZ_ hg HB.out); clear HB; have HB := n0; have BK196 := n1; have GW196 := n2; have GE196 := n3; clear n0 n1 n2 n3; clear hb hbox hg; obtain ⟨hcz7_0, hcz7_1, hcz7_2, hcz7_3, hcz7_4, hfz7_0, hfz7_1, hfz7_2, hfz7_3, hfz7_4⟩ := bR5_ BK196.out) | ((with_reducible refine gate_callee (f := 49) rfl ?_); refine gL_ (some 4) Tryd.func49 #[.agg #[.int .i64 a0_0, .int .i64 a0_1, .int .i64 a0_2, .int .i64 a0_3, .int .i64 a0_4], .int .i64 24, .int .i64 3] ?_; (with_reducible refine (impl_InsOk.calls k a0_0 a0_1 a0_2 a0_3 a0_4 24 3 true _ A2.out).mono ?_); rintro e w8 ⟨rfl, hb⟩; refine ⟨_, rfl, ?_⟩; have n0 := aM_ (nB_ BK196.out hb); have n1 := aM_ (sT_ HB.out hb); clear BK196; clear HB; have BK196 := n0; have HB := n1; clear n0 n1; obtain ⟨hcz9_0, hcz9_1, hcz9_2, hcz9_3, hcz9_4, hfz9_0, hfz9_1, hfz9_2, hfz9_3, hfz9_4⟩ := bR5_ BK196.out) | ((with_reducible refine gate_dst (N := 14) rfl ?_); refine Kd.R_lit (Kd.int .i64) _ 3 ?hg (N := 14) ?hd (xs := ([a0_1, a0_4] : List Int)) (inner := [.int .i64 a0_1, .int .i64 a0_4]) (ok := fun _ => True) (okp := fun _ => True) ?hr ?hp (fun _ hk => hk) trivial (Below.refl _ _) (Nat.le_refl _) (by simp) ?_; (case hd => rfl); (case hg => rfl); (case hr => first | (go_simp; done) | (go_simp; rfl)); (case hp => exact (Reps.one (show Kd.M (Kd.int .i64) _ _ _ a0_1 [.int .i64 a0_1] from rfl) (Reps.one (show Kd.M (Kd.int .i64) _ _ _ a0_4 [.int .i64 a0_4] from rfl) (Reps.none _ _)))); intro v199 w10 ho11 hb hg_ hnew_; clear hg_ hnew_; (first | rw [← Ny198.out] at ho11 | (simp only [Int.reduceToNat] at ho11; rw [← Ny198.out] at ho11)); have n0 := aM_ (Kd.R_lower ho11 (below_size (by repeat (first | (with_reducible first | exact HB.out | apply hA_ | apply hN_ | apply hD_ | refine below_set ?_ GE196.out) | exact HB.out)))); have n1 := aM_ (nB_ BK196.out hb); have n2 := aM_ (sT_ HB.out hb); clear BK196; clear HB; have HO200 := n0; have BK196 := n1; have HB := n2; clear n0 n1 n2; clear hb ho11; obtain ⟨Ao12, co12, eo12⟩ := Kd.R_slice HO200.out; subst eo12) | ((with_reducible refine gate_callee (f := 70) rfl ?_); refine gL_ (some 15) Tryd.func70 #[.string (⟨#[115, 101, 116]⟩ : ByteArray), .slice Ao12 y198.length co12] ?_; (with_reducible refine (impl_words.calls k (⟨#[115, 101, 116]⟩ : ByteArray) _ _ y198 t201 _ ?side1 ?side2 A5.out ?sT).mono ?_); (case sT => first | with_reducible exact hT | exact TabT.Laid.below hT (by repeat (first | (with_reducible first | exact HB.out | apply hA_ | apply hN_ | apply hD_ | refine below_set ?_ GE196.out) | exact HB.out))); (case side1 => exact cS_ (Kd.R_reads' HO200.out).2.2); (case side2 => exact (Kd.R_reads' HO200.out).2.1); rintro e w13 ⟨rfl, hb⟩; refine ⟨_, rfl, ?_⟩; have n0 := aM_ (bR_ HO200.out hb); have n1 := aM_ (nB_ BK196.out hb); have n2 := aM_ (sT_ HB.out hb); clear HO200; clear BK196; clear HB; have HO200 := n0; have BK196 := n1; have HB := n2; clear n0 n1 n2))
   go_ret
   exact fI_ HB.out
  ·rw [if_neg c4] at H
   have c4b0 : (a0_0 == 1) = false := beq_eq_false_iff_ne.mpr c4
   have c4b1 : (a0_0 != 1) = true := bne_iff_ne.mpr c4
   by_cases c14 : a0_0 = 2
   ·rw [if_pos c14] at H
    have c14b0 : (a0_0 == 2) = true := beq_iff_eq.mpr c14
    have c14b1 : (a0_0 != 2) = false := bne_eq_false_iff_eq.mpr c14
    clear c14
    obtain ⟨y202, hy202⟩ : ∃ y_ : List Int, y_ = (([a0_1, a0_2, a0_3] : List Int)) := ⟨_, rfl⟩
    replace H : ((impl_words.f k (⟨#[97, 100, 100]⟩ : ByteArray) y202).bind fun t205 => (some t205)) = some r := by first | (rw [hy202]; with_reducible exact H) | (have H2_ := (Option.bind_some _ _).symm.trans H; rw [hy202]; with_reducible exact H2_) | (have H2_ := (Option.bind_some _ _).symm.trans H; with_reducible exact H2_) | with_reducible exact H | (rw [hy202]; exact H) | exact H
    have Ny202 := aM_ hy202
    clear hy202
    replace H := Option.bind_eq_some_iff.mp H
    obtain ⟨t205, A150, H⟩ := H
    replace H : (some t205) = some r := H
    have A15 := aM_ A150
    clear A150
    obtain rfl := Option.some.inj H
    go_enter Tryd.func21, Tryd.ntmps21
    go_wp2_with (first | ((with_reducible refine gate_dst (N := 1) rfl ?_); refine bX_ 1 (cs := #[.int .i64 a0_0, .int .i64 a0_1, .int .i64 a0_2, .int .i64 a0_3, .int .i64 a0_4]) (t := 32) ?_; intro gb196 hg w16 hbox hb; have n0 := aM_ (sT_ HB.out hb); have n1 := aM_ (hbox); have n2 := aM_ (sZ_ hg HB.out); have n3 := aM_ (sZ_ hg HB.out); clear HB; have HB := n0; have BK196 := n1; have GW196 := n2; have GE196 := n3; clear n0 n1 n2 n3; clear hb hbox hg; obtain ⟨hcz17_0, hcz17_1, hcz17_2, hcz17_3, hcz17_4, hfz17_0, hfz17_1, hfz17_2, hfz17_3, hfz17_4⟩ := bR5_ BK196.out) | ((with_reducible refine gate_callee (f := 49) rfl ?_); refine gL_ (some 4) Tryd.func49 #[.agg #[.int .i64 a0_0, .int .i64 a0_1, .int .i64 a0_2, .int .i64 a0_3, .int .i64 a0_4], .int .i64 24, .int .i64 3] ?_; (with_reducible refine (impl_InsOk.calls k a0_0 a0_1 a0_2 a0_3 a0_4 24 3 true _ A2.out).mono ?_); rintro e w18 ⟨rfl, hb⟩; refine ⟨_, rfl, ?_⟩; have n0 := aM_ (nB_ BK196.out hb); have n1 := aM_ (sT_ HB.out hb); clear BK196; clear HB; have BK196 := n0; have HB := n1; clear n0 n1; obtain ⟨hcz19_0, hcz19_1, hcz19_2, hcz19_3, hcz19_4, hfz19_0, hfz19_1, hfz19_2, hfz19_3, hfz19_4⟩ := bR5_ BK196.out) | ((with_reducible refine gate_dst (N := 24) rfl ?_); refine Kd.R_lit (Kd.int .i64) _ 3 ?hg (N := 24) ?hd (xs := ([a0_1, a0_2, a0_3] : List Int)) (inner := [.int .i64 a0_1, .int .i64 a0_2, .int .i64 a0_3]) (ok := fun _ => True) (okp := fun _ => True) ?hr ?hp (fun _ hk => hk) trivial (Below.refl _ _) (Nat.le_refl _) (by simp) ?_; (case hd => rfl); (case hg => rfl); (case hr => first | (go_simp; done) | (go_simp; rfl)); (case hp => exact (Reps.one (show Kd.M (Kd.int .i64) _ _ _ a0_1 [.int .i64 a0_1] from rfl) (Reps.one (show Kd.M (Kd.int .i64) _ _ _ a0_2 [.int .i64 a0_2] from rfl) (Reps.one (show Kd.M (Kd.int .i64) _ _ _ a0_3 [.int .i64 a0_3] from rfl) (Reps.none _ _))))); intro v203 w20 ho21 hb hg_ hnew_; clear hg_ hnew_; (first | rw [← Ny202.out] at ho21 | (simp only [Int.reduceToNat] at ho21; rw [← Ny202.out] at ho21)); have n0 := aM_ (Kd.R_lower ho21 (below_size (by repeat (first | (with_reducible first | exact HB.out | apply hA_ | apply hN_ | apply hD_ | refine below_set ?_ GE196.out) | exact HB.out)))); have n1 := aM_ (nB_ BK196.out hb); have n2 := aM_ (sT_ HB.out hb); clear BK196; clear HB; have HO204 := n0; have BK196 := n1; have HB := n2; clear n0 n1 n2; clear hb ho21; obtain ⟨Ao22, co22, eo22⟩ := Kd.R_slice HO204.out; subst eo22) | ((with_reducible refine gate_callee (f := 70) rfl ?_); refine gL_ (some 25) Tryd.func70 #[.string (⟨#[97, 100, 100]⟩ : ByteArray), .slice Ao22 y202.length co22] ?_; (with_reducible refine (impl_words.calls k (⟨#[97, 100, 100]⟩ : ByteArray) _ _ y202 t205 _ ?side1 ?side2 A15.out ?sT).mono ?_); (case sT => first | with_reducible exact hT | exact TabT.Laid.below hT (by repeat (first | (with_reducible first | exact HB.out | apply hA_ | apply hN_ | apply hD_ | refine below_set ?_ GE196.out) | exact HB.out))); (case side1 => exact cS_ (Kd.R_reads' HO204.out).2.2); (case side2 => exact (Kd.R_reads' HO204.out).2.1); rintro e w23 ⟨rfl, hb⟩; refine ⟨_, rfl, ?_⟩; have n0 := aM_ (bR_ HO204.out hb); have n1 := aM_ (nB_ BK196.out hb); have n2 := aM_ (sT_ HB.out hb); clear HO204; clear BK196; clear HB; have HO204 := n0; have BK196 := n1; have HB := n2; clear n0 n1 n2))
    go_ret
    exact fI_ HB.out
   ·rw [if_neg c14] at H
    have c14b0 : (a0_0 == 2) = false := beq_eq_false_iff_ne.mpr c14
    have c14b1 : (a0_0 != 2) = true := bne_iff_ne.mpr c14
    by_cases c24 : a0_0 = 3
    ·rw [if_pos c24] at H
     have c24b0 : (a0_0 == 3) = true := beq_iff_eq.mpr c24
     have c24b1 : (a0_0 != 3) = false := bne_eq_false_iff_eq.mpr c24
     clear c24
     obtain ⟨y206, hy206⟩ : ∃ y_ : List Int, y_ = (([a0_1, a0_2, a0_3] : List Int)) := ⟨_, rfl⟩
     replace H : ((impl_words.f k (⟨#[115, 117, 98]⟩ : ByteArray) y206).bind fun t209 => (some t209)) = some r := by first | (rw [hy206]; with_reducible exact H) | (have H2_ := (Option.bind_some _ _).symm.trans H; rw [hy206]; with_reducible exact H2_) | (have H2_ := (Option.bind_some _ _).symm.trans H; with_reducible exact H2_) | with_reducible exact H | (rw [hy206]; exact H) | exact H
     have Ny206 := aM_ hy206
     clear hy206
     replace H := Option.bind_eq_some_iff.mp H
     obtain ⟨t209, A250, H⟩ := H
     replace H : (some t209) = some r := H
     have A25 := aM_ A250
     clear A250
     obtain rfl := Option.some.inj H
     go_enter Tryd.func21, Tryd.ntmps21
     go_wp2_with (first | ((with_reducible refine gate_dst (N := 1) rfl ?_); refine bX_ 1 (cs := #[.int .i64 a0_0, .int .i64 a0_1, .int .i64 a0_2, .int .i64 a0_3, .int .i64 a0_4]) (t := 32) ?_; intro gb196 hg w26 hbox hb; have n0 := aM_ (sT_ HB.out hb); have n1 := aM_ (hbox); have n2 := aM_ (sZ_ hg HB.out); have n3 := aM_ (sZ_ hg HB.out); clear HB; have HB := n0; have BK196 := n1; have GW196 := n2; have GE196 := n3; clear n0 n1 n2 n3; clear hb hbox hg; obtain ⟨hcz27_0, hcz27_1, hcz27_2, hcz27_3, hcz27_4, hfz27_0, hfz27_1, hfz27_2, hfz27_3, hfz27_4⟩ := bR5_ BK196.out) | ((with_reducible refine gate_callee (f := 49) rfl ?_); refine gL_ (some 4) Tryd.func49 #[.agg #[.int .i64 a0_0, .int .i64 a0_1, .int .i64 a0_2, .int .i64 a0_3, .int .i64 a0_4], .int .i64 24, .int .i64 3] ?_; (with_reducible refine (impl_InsOk.calls k a0_0 a0_1 a0_2 a0_3 a0_4 24 3 true _ A2.out).mono ?_); rintro e w28 ⟨rfl, hb⟩; refine ⟨_, rfl, ?_⟩; have n0 := aM_ (nB_ BK196.out hb); have n1 := aM_ (sT_ HB.out hb); clear BK196; clear HB; have BK196 := n0; have HB := n1; clear n0 n1; obtain ⟨hcz29_0, hcz29_1, hcz29_2, hcz29_3, hcz29_4, hfz29_0, hfz29_1, hfz29_2, hfz29_3, hfz29_4⟩ := bR5_ BK196.out) | ((with_reducible refine gate_dst (N := 34) rfl ?_); refine Kd.R_lit (Kd.int .i64) _ 3 ?hg (N := 34) ?hd (xs := ([a0_1, a0_2, a0_3] : List Int)) (inner := [.int .i64 a0_1, .int .i64 a0_2, .int .i64 a0_3]) (ok := fun _ => True) (okp := fun _ => True) ?hr ?hp (fun _ hk => hk) trivial (Below.refl _ _) (Nat.le_refl _) (by simp) ?_; (case hd => rfl); (case hg => rfl); (case hr => first | (go_simp; done) | (go_simp; rfl)); (case hp => exact (Reps.one (show Kd.M (Kd.int .i64) _ _ _ a0_1 [.int .i64 a0_1] from rfl) (Reps.one (show Kd.M (Kd.int .i64) _ _ _ a0_2 [.int .i64 a0_2] from rfl) (Reps.one (show Kd.M (Kd.int .i64) _ _ _ a0_3 [.int .i64 a0_3] from rfl) (Reps.none _ _))))); intro v207 w30 ho31 hb hg_ hnew_; clear hg_ hnew_; (first | rw [← Ny206.out] at ho31 | (simp only [Int.reduceToNat] at ho31; rw [← Ny206.out] at ho31)); have n0 := aM_ (Kd.R_lower ho31 (below_size (by repeat (first | (with_reducible first | exact HB.out | apply hA_ | apply hN_ | apply hD_ | refine below_set ?_ GE196.out) | exact HB.out)))); have n1 := aM_ (nB_ BK196.out hb); have n2 := aM_ (sT_ HB.out hb); clear BK196; clear HB; have HO208 := n0; have BK196 := n1; have HB := n2; clear n0 n1 n2; clear hb ho31; obtain ⟨Ao32, co32, eo32⟩ := Kd.R_slice HO208.out; subst eo32) | ((with_reducible refine gate_callee (f := 70) rfl ?_); refine gL_ (some 35) Tryd.func70 #[.string (⟨#[115, 117, 98]⟩ : ByteArray), .slice Ao32 y206.length co32] ?_; (with_reducible refine (impl_words.calls k (⟨#[115, 117, 98]⟩ : ByteArray) _ _ y206 t209 _ ?side1 ?side2 A25.out ?sT).mono ?_); (case sT => first | with_reducible exact hT | exact TabT.Laid.below hT (by repeat (first | (with_reducible first | exact HB.out | apply hA_ | apply hN_ | apply hD_ | refine below_set ?_ GE196.out) | exact HB.out))); (case side1 => exact cS_ (Kd.R_reads' HO208.out).2.2); (case side2 => exact (Kd.R_reads' HO208.out).2.1); rintro e w33 ⟨rfl, hb⟩; refine ⟨_, rfl, ?_⟩; have n0 := aM_ (bR_ HO208.out hb); have n1 := aM_ (nB_ BK196.out hb); have n2 := aM_ (sT_ HB.out hb); clear HO208; clear BK196; clear HB; have HO208 := n0; have BK196 := n1; have HB := n2; clear n0 n1 n2))
     go_ret
     exact fI_ HB.out
    ·rw [if_neg c24] at H
     have c24b0 : (a0_0 == 3) = false := beq_eq_false_iff_ne.mpr c24
     have c24b1 : (a0_0 != 3) = true := bne_iff_ne.mpr c24
     by_cases c34 : a0_0 = 4
     ·rw [if_pos c34] at H
      have c34b0 : (a0_0 == 4) = true := beq_iff_eq.mpr c34
      have c34b1 : (a0_0 != 4) = false := bne_eq_false_iff_eq.mpr c34
      clear c34
      obtain ⟨y210, hy210⟩ : ∃ y_ : List Int, y_ = (([a0_1, a0_2, a0_3] : List Int)) := ⟨_, rfl⟩
      replace H : ((impl_words.f k (⟨#[108, 101, 115, 115]⟩ : ByteArray) y210).bind fun t213 => (some t213)) = some r := by first | (rw [hy210]; with_reducible exact H) | (have H2_ := (Option.bind_some _ _).symm.trans H; rw [hy210]; with_reducible exact H2_) | (have H2_ := (Option.bind_some _ _).symm.trans H; with_reducible exact H2_) | with_reducible exact H | (rw [hy210]; exact H) | exact H
      have Ny210 := aM_ hy210
      clear hy210
      replace H := Option.bind_eq_some_iff.mp H
      obtain ⟨t213, A350, H⟩ := H
      replace H : (some t213) = some r := H
      have A35 := aM_ A350
      clear A350
      obtain rfl := Option.some.inj H
      go_enter Tryd.func21, Tryd.ntmps21
      go_wp2_with (first | ((with_reducible refine gate_dst (N := 1) rfl ?_); refine bX_ 1 (cs := #[.int .i64 a0_0, .int .i64 a0_1, .int .i64 a0_2, .int .i64 a0_3, .int .i64 a0_4]) (t := 32) ?_; intro gb196 hg w36 hbox hb; have n0 := aM_ (sT_ HB.out hb); have n1 := aM_ (hbox); have n2 := aM_ (sZ_ hg HB.out); have n3 := aM_ (sZ_ hg HB.out); clear HB; have HB := n0; have BK196 := n1; have GW196 := n2; have GE196 := n3; clear n0 n1 n2 n3; clear hb hbox hg; obtain ⟨hcz37_0, hcz37_1, hcz37_2, hcz37_3, hcz37_4, hfz37_0, hfz37_1, hfz37_2, hfz37_3, hfz37_4⟩ := bR5_ BK196.out) | ((with_reducible refine gate_callee (f := 49) rfl ?_); refine gL_ (some 4) Tryd.func49 #[.agg #[.int .i64 a0_0, .int .i64 a0_1, .int .i64 a0_2, .int .i64 a0_3, .int .i64 a0_4], .int .i64 24, .int .i64 3] ?_; (with_reducible refine (impl_InsOk.calls k a0_0 a0_1 a0_2 a0_3 a0_4 24 3 true _ A2.out).mono ?_); rintro e w38 ⟨rfl, hb⟩; refine ⟨_, rfl, ?_⟩; have n0 := aM_ (nB_ BK196.out hb); have n1 := aM_ (sT_ HB.out hb); clear BK196; clear HB; have BK196 := n0; have HB := n1; clear n0 n1; obtain ⟨hcz39_0, hcz39_1, hcz39_2, hcz39_3, hcz39_4, hfz39_0, hfz39_1, hfz39_2, hfz39_3, hfz39_4⟩ := bR5_ BK196.out) | ((with_reducible refine gate_dst (N := 44) rfl ?_); refine Kd.R_lit (Kd.int .i64) _ 3 ?hg (N := 44) ?hd (xs := ([a0_1, a0_2, a0_3] : List Int)) (inner := [.int .i64 a0_1, .int .i64 a0_2, .int .i64 a0_3]) (ok := fun _ => True) (okp := fun _ => True) ?hr ?hp (fun _ hk => hk) trivial (Below.refl _ _) (Nat.le_refl _) (by simp) ?_; (case hd => rfl); (case hg => rfl); (case hr => first | (go_simp; done) | (go_simp; rfl)); (case hp => exact (Reps.one (show Kd.M (Kd.int .i64) _ _ _ a0_1 [.int .i64 a0_1] from rfl) (Reps.one (show Kd.M (Kd.int .i64) _ _ _ a0_2 [.int .i64 a0_2] from rfl) (Reps.one (show Kd.M (Kd.int .i64) _ _ _ a0_3 [.int .i64 a0_3] from rfl) (Reps.none _ _))))); intro v211 w40 ho41 hb hg_ hnew_; clear hg_ hnew_; (first | rw [← Ny210.out] at ho41 | (simp only [Int.reduceToNat] at ho41; rw [← Ny210.out] at ho41)); have n0 := aM_ (Kd.R_lower ho41 (below_size (by repeat (first | (with_reducible first | exact HB.out | apply hA_ | apply hN_ | apply hD_ | refine below_set ?_ GE196.out) | exact HB.out)))); have n1 := aM_ (nB_ BK196.out hb); have n2 := aM_ (sT_ HB.out hb); clear BK196; clear HB; have HO212 := n0; have BK196 := n1; have HB := n2; clear n0 n1 n2; clear hb ho41; obtain ⟨Ao42, co42, eo42⟩ := Kd.R_slice HO212.out; subst eo42) | ((with_reducible refine gate_callee (f := 70) rfl ?_); refine gL_ (some 45) Tryd.func70 #[.string (⟨#[108, 101, 115, 115]⟩ : ByteArray), .slice Ao42 y210.length co42] ?_; (with_reducible refine (impl_words.calls k (⟨#[108, 101, 115, 115]⟩ : ByteArray) _ _ y210 t213 _ ?side1 ?side2 A35.out ?sT).mono ?_); (case sT => first | with_reducible exact hT | exact TabT.Laid.below hT (by repeat (first | (with_reducible first | exact HB.out | apply hA_ | apply hN_ | apply hD_ | refine below_set ?_ GE196.out) | exact HB.out))); (case side1 => exact cS_ (Kd.R_reads' HO212.out).2.2); (case side2 => exact (Kd.R_reads' HO212.out).2.1); rintro e w43 ⟨rfl, hb⟩; refine ⟨_, rfl, ?_⟩; have n0 := aM_ (bR_ HO212.out hb); have n1 := aM_ (nB_ BK196.out hb); have n2 := aM_ (sT_ HB.out hb); clear HO212; clear BK196; clear HB; have HO212 := n0; have BK196 := n1; have HB := n2; clear n0 n1 n2))
      go_ret
      exact fI_ HB.out
     ·rw [if_neg c34] at H
      have c34b0 : (a0_0 == 4) = false := beq_eq_false_iff_ne.mpr c34
      have c34b1 : (a0_0 != 4) = true := bne_iff_ne.mpr c34
      by_cases c44 : a0_0 = 5
      ·rw [if_pos c44] at H
       have c44b0 : (a0_0 == 5) = true := beq_iff_eq.mpr c44
       have c44b1 : (a0_0 != 5) = false := bne_eq_false_iff_eq.mpr c44
       clear c44
       obtain ⟨y214, hy214⟩ : ∃ y_ : List Int, y_ = (([a0_4, a0_2] : List Int)) := ⟨_, rfl⟩
       replace H : ((impl_words.f k (⟨#[115, 101, 110, 100]⟩ : ByteArray) y214).bind fun t217 => (some t217)) = some r := by first | (rw [hy214]; with_reducible exact H) | (have H2_ := (Option.bind_some _ _).symm.trans H; rw [hy214]; with_reducible exact H2_) | (have H2_ := (Option.bind_some _ _).symm.trans H; with_reducible exact H2_) | with_reducible exact H | (rw [hy214]; exact H) | exact H
       have Ny214 := aM_ hy214
       clear hy214
       replace H := Option.bind_eq_some_iff.mp H
       obtain ⟨t217, A450, H⟩ := H
       replace H : (some t217) = some r := H
       have A45 := aM_ A450
       clear A450
       obtain rfl := Option.some.inj H
       go_enter Tryd.func21, Tryd.ntmps21
       go_wp2_with (first | ((with_reducible refine gate_dst (N := 1) rfl ?_); refine bX_ 1 (cs := #[.int .i64 a0_0, .int .i64 a0_1, .int .i64 a0_2, .int .i64 a0_3, .int .i64 a0_4]) (t := 32) ?_; intro gb196 hg w46 hbox hb; have n0 := aM_ (sT_ HB.out hb); have n1 := aM_ (hbox); have n2 := aM_ (sZ_ hg HB.out); have n3 := aM_ (sZ_ hg HB.out); clear HB; have HB := n0; have BK196 := n1; have GW196 := n2; have GE196 := n3; clear n0 n1 n2 n3; clear hb hbox hg; obtain ⟨hcz47_0, hcz47_1, hcz47_2, hcz47_3, hcz47_4, hfz47_0, hfz47_1, hfz47_2, hfz47_3, hfz47_4⟩ := bR5_ BK196.out) | ((with_reducible refine gate_callee (f := 49) rfl ?_); refine gL_ (some 4) Tryd.func49 #[.agg #[.int .i64 a0_0, .int .i64 a0_1, .int .i64 a0_2, .int .i64 a0_3, .int .i64 a0_4], .int .i64 24, .int .i64 3] ?_; (with_reducible refine (impl_InsOk.calls k a0_0 a0_1 a0_2 a0_3 a0_4 24 3 true _ A2.out).mono ?_); rintro e w48 ⟨rfl, hb⟩; refine ⟨_, rfl, ?_⟩; have n0 := aM_ (nB_ BK196.out hb); have n1 := aM_ (sT_ HB.out hb); clear BK196; clear HB; have BK196 := n0; have HB := n1; clear n0 n1; obtain ⟨hcz49_0, hcz49_1, hcz49_2, hcz49_3, hcz49_4, hfz49_0, hfz49_1, hfz49_2, hfz49_3, hfz49_4⟩ := bR5_ BK196.out) | ((with_reducible refine gate_dst (N := 52) rfl ?_); refine Kd.R_lit (Kd.int .i64) _ 3 ?hg (N := 52) ?hd (xs := ([a0_4, a0_2] : List Int)) (inner := [.int .i64 a0_4, .int .i64 a0_2]) (ok := fun _ => True) (okp := fun _ => True) ?hr ?hp (fun _ hk => hk) trivial (Below.refl _ _) (Nat.le_refl _) (by simp) ?_; (case hd => rfl); (case hg => rfl); (case hr => first | (go_simp; done) | (go_simp; rfl)); (case hp => exact (Reps.one (show Kd.M (Kd.int .i64) _ _ _ a0_4 [.int .i64 a0_4] from rfl) (Reps.one (show Kd.M (Kd.int .i64) _ _ _ a0_2 [.int .i64 a0_2] from rfl) (Reps.none _ _)))); intro v215 w50 ho51 hb hg_ hnew_; clear hg_ hnew_; (first | rw [← Ny214.out] at ho51 | (simp only [Int.reduceToNat] at ho51; rw [← Ny214.out] at ho51)); have n0 := aM_ (Kd.R_lower ho51 (below_size (by repeat (first | (with_reducible first | exact HB.out | apply hA_ | apply hN_ | apply hD_ | refine below_set ?_ GE196.out) | exact HB.out)))); have n1 := aM_ (nB_ BK196.out hb); have n2 := aM_ (sT_ HB.out hb); clear BK196; clear HB; have HO216 := n0; have BK196 := n1; have HB := n2; clear n0 n1 n2; clear hb ho51; obtain ⟨Ao52, co52, eo52⟩ := Kd.R_slice HO216.out; subst eo52) | ((with_reducible refine gate_callee (f := 70) rfl ?_); refine gL_ (some 53) Tryd.func70 #[.string (⟨#[115, 101, 110, 100]⟩ : ByteArray), .slice Ao52 y214.length co52] ?_; (with_reducible refine (impl_words.calls k (⟨#[115, 101, 110, 100]⟩ : ByteArray) _ _ y214 t217 _ ?side1 ?side2 A45.out ?sT).mono ?_); (case sT => first | with_reducible exact hT | exact TabT.Laid.below hT (by repeat (first | (with_reducible first | exact HB.out | apply hA_ | apply hN_ | apply hD_ | refine below_set ?_ GE196.out) | exact HB.out))); (case side1 => exact cS_ (Kd.R_reads' HO216.out).2.2); (case side2 => exact (Kd.R_reads' HO216.out).2.1); rintro e w53 ⟨rfl, hb⟩; refine ⟨_, rfl, ?_⟩; have n0 := aM_ (bR_ HO216.out hb); have n1 := aM_ (nB_ BK196.out hb); have n2 := aM_ (sT_ HB.out hb); clear HO216; clear BK196; clear HB; have HO216 := n0; have BK196 := n1; have HB := n2; clear n0 n1 n2))
       go_ret
       exact fI_ HB.out
      ·rw [if_neg c44] at H
       have c44b0 : (a0_0 == 5) = false := beq_eq_false_iff_ne.mpr c44
       have c44b1 : (a0_0 != 5) = true := bne_iff_ne.mpr c44
       by_cases c54 : a0_0 = 6
       ·rw [if_pos c54] at H
        have c54b0 : (a0_0 == 6) = true := beq_iff_eq.mpr c54
        have c54b1 : (a0_0 != 6) = false := bne_eq_false_iff_eq.mpr c54
        clear c54
        obtain ⟨y218, hy218⟩ : ∃ y_ : List Int, y_ = (([a0_1, a0_3, a0_4] : List Int)) := ⟨_, rfl⟩
        replace H : ((impl_words.f k (⟨#[116, 97, 107, 101]⟩ : ByteArray) y218).bind fun t221 => (some t221)) = some r := by first | (rw [hy218]; with_reducible exact H) | (have H2_ := (Option.bind_some _ _).symm.trans H; rw [hy218]; with_reducible exact H2_) | (have H2_ := (Option.bind_some _ _).symm.trans H; with_reducible exact H2_) | with_reducible exact H | (rw [hy218]; exact H) | exact H
        have Ny218 := aM_ hy218
        clear hy218
        replace H := Option.bind_eq_some_iff.mp H
        obtain ⟨t221, A550, H⟩ := H
        replace H : (some t221) = some r := H
        have A55 := aM_ A550
        clear A550
        obtain rfl := Option.some.inj H
        go_enter Tryd.func21, Tryd.ntmps21
        go_wp2_with (first | ((with_reducible refine gate_dst (N := 1) rfl ?_); refine bX_ 1 (cs := #[.int .i64 a0_0, .int .i64 a0_1, .int .i64 a0_2, .int .i64 a0_3, .int .i64 a0_4]) (t := 32) ?_; intro gb196 hg w56 hbox hb; have n0 := aM_ (sT_ HB.out hb); have n1 := aM_ (hbox); have n2 := aM_ (sZ_ hg HB.out); have n3 := aM_ (sZ_ hg HB.out); clear HB; have HB := n0; have BK196 := n1; have GW196 := n2; have GE196 := n3; clear n0 n1 n2 n3; clear hb hbox hg; obtain ⟨hcz57_0, hcz57_1, hcz57_2, hcz57_3, hcz57_4, hfz57_0, hfz57_1, hfz57_2, hfz57_3, hfz57_4⟩ := bR5_ BK196.out) | ((with_reducible refine gate_callee (f := 49) rfl ?_); refine gL_ (some 4) Tryd.func49 #[.agg #[.int .i64 a0_0, .int .i64 a0_1, .int .i64 a0_2, .int .i64 a0_3, .int .i64 a0_4], .int .i64 24, .int .i64 3] ?_; (with_reducible refine (impl_InsOk.calls k a0_0 a0_1 a0_2 a0_3 a0_4 24 3 true _ A2.out).mono ?_); rintro e w58 ⟨rfl, hb⟩; refine ⟨_, rfl, ?_⟩; have n0 := aM_ (nB_ BK196.out hb); have n1 := aM_ (sT_ HB.out hb); clear BK196; clear HB; have BK196 := n0; have HB := n1; clear n0 n1; obtain ⟨hcz59_0, hcz59_1, hcz59_2, hcz59_3, hcz59_4, hfz59_0, hfz59_1, hfz59_2, hfz59_3, hfz59_4⟩ := bR5_ BK196.out) | ((with_reducible refine gate_dst (N := 62) rfl ?_); refine Kd.R_lit (Kd.int .i64) _ 3 ?hg (N := 62) ?hd (xs := ([a0_1, a0_3, a0_4] : List Int)) (inner := [.int .i64 a0_1, .int .i64 a0_3, .int .i64 a0_4]) (ok := fun _ => True) (okp := fun _ => True) ?hr ?hp (fun _ hk => hk) trivial (Below.refl _ _) (Nat.le_refl _) (by simp) ?_; (case hd => rfl); (case hg => rfl); (case hr => first | (go_simp; done) | (go_simp; rfl)); (case hp => exact (Reps.one (show Kd.M (Kd.int .i64) _ _ _ a0_1 [.int .i64 a0_1] from rfl) (Reps.one (show Kd.M (Kd.int .i64) _ _ _ a0_3 [.int .i64 a0_3] from rfl) (Reps.one (show Kd.M (Kd.int .i64) _ _ _ a0_4 [.int .i64 a0_4] from rfl) (Reps.none _ _))))); intro v219 w60 ho61 hb hg_ hnew_; clear hg_ hnew_; (first | rw [← Ny218.out] at ho61 | (simp only [Int.reduceToNat] at ho61; rw [← Ny218.out] at ho61)); have n0 := aM_ (Kd.R_lower ho61 (below_size (by repeat (first | (with_reducible first | exact HB.out | apply hA_ | apply hN_ | apply hD_ | refine below_set ?_ GE196.out) | exact HB.out)))); have n1 := aM_ (nB_ BK196.out hb); have n2 := aM_ (sT_ HB.out hb); clear BK196; clear HB; have HO220 := n0; have BK196 := n1; have HB := n2; clear n0 n1 n2; clear hb ho61; obtain ⟨Ao62, co62, eo62⟩ := Kd.R_slice HO220.out; subst eo62) | ((with_reducible refine gate_callee (f := 70) rfl ?_); refine gL_ (some 63) Tryd.func70 #[.string (⟨#[116, 97, 107, 101]⟩ : ByteArray), .slice Ao62 y218.length co62] ?_; (with_reducible refine (impl_words.calls k (⟨#[116, 97, 107, 101]⟩ : ByteArray) _ _ y218 t221 _ ?side1 ?side2 A55.out ?sT).mono ?_); (case sT => first | with_reducible exact hT | exact TabT.Laid.below hT (by repeat (first | (with_reducible first | exact HB.out | apply hA_ | apply hN_ | apply hD_ | refine below_set ?_ GE196.out) | exact HB.out))); (case side1 => exact cS_ (Kd.R_reads' HO220.out).2.2); (case side2 => exact (Kd.R_reads' HO220.out).2.1); rintro e w63 ⟨rfl, hb⟩; refine ⟨_, rfl, ?_⟩; have n0 := aM_ (bR_ HO220.out hb); have n1 := aM_ (nB_ BK196.out hb); have n2 := aM_ (sT_ HB.out hb); clear HO220; clear BK196; clear HB; have HO220 := n0; have BK196 := n1; have HB := n2; clear n0 n1 n2))
        go_ret
        exact fI_ HB.out
       ·rw [if_neg c54] at H
        have c54b0 : (a0_0 == 6) = false := beq_eq_false_iff_ne.mpr c54
        have c54b1 : (a0_0 != 6) = true := bne_iff_ne.mpr c54
        by_cases c64 : a0_0 = 7
        ·rw [if_pos c64] at H
         have c64b0 : (a0_0 == 7) = true := beq_iff_eq.mpr c64
         have c64b1 : (a0_0 != 7) = false := bne_eq_false_iff_eq.mpr c64
         clear c64
         obtain ⟨y222, hy222⟩ : ∃ y_ : List Int, y_ = (([a0_1, a0_4, a0_2] : List Int)) := ⟨_, rfl⟩
         replace H : ((impl_words.f k (⟨#[116, 114, 121, 115, 101, 110, 100]⟩ : ByteArray) y222).bind fun t225 => (some t225)) = some r := by first | (rw [hy222]; with_reducible exact H) | (have H2_ := (Option.bind_some _ _).symm.trans H; rw [hy222]; with_reducible exact H2_) | (have H2_ := (Option.bind_some _ _).symm.trans H; with_reducible exact H2_) | with_reducible exact H | (rw [hy222]; exact H) | exact H
         have Ny222 := aM_ hy222
         clear hy222
         replace H := Option.bind_eq_some_iff.mp H
         obtain ⟨t225, A650, H⟩ := H
         replace H : (some t225) = some r := H
         have A65 := aM_ A650
         clear A650
         obtain rfl := Option.some.inj H
         go_enter Tryd.func21, Tryd.ntmps21
         go_wp2_with (first | ((with_reducible refine gate_dst (N := 1) rfl ?_); refine bX_ 1 (cs := #[.int .i64 a0_0, .int .i64 a0_1, .int .i64 a0_2, .int .i64 a0_3, .int .i64 a0_4]) (t := 32) ?_; intro gb196 hg w66 hbox hb; have n0 := aM_ (sT_ HB.out hb); have n1 := aM_ (hbox); have n2 := aM_ (sZ_ hg HB.out); have n3 := aM_ (sZ_ hg HB.out); clear HB; have HB := n0; have BK196 := n1; have GW196 := n2; have GE196 := n3; clear n0 n1 n2 n3; clear hb hbox hg; obtain ⟨hcz67_0, hcz67_1, hcz67_2, hcz67_3, hcz67_4, hfz67_0, hfz67_1, hfz67_2, hfz67_3, hfz67_4⟩ := bR5_ BK196.out) | ((with_reducible refine gate_callee (f := 49) rfl ?_); refine gL_ (some 4) Tryd.func49 #[.agg #[.int .i64 a0_0, .int .i64 a0_1, .int .i64 a0_2, .int .i64 a0_3, .int .i64 a0_4], .int .i64 24, .int .i64 3] ?_; (with_reducible refine (impl_InsOk.calls k a0_0 a0_1 a0_2 a0_3 a0_4 24 3 true _ A2.out).mono ?_); rintro e w68 ⟨rfl, hb⟩; refine ⟨_, rfl, ?_⟩; have n0 := aM_ (nB_ BK196.out hb); have n1 := aM_ (sT_ HB.out hb); clear BK196; clear HB; have BK196 := n0; have HB := n1; clear n0 n1; obtain ⟨hcz69_0, hcz69_1, hcz69_2, hcz69_3, hcz69_4, hfz69_0, hfz69_1, hfz69_2, hfz69_3, hfz69_4⟩ := bR5_ BK196.out) | ((with_reducible refine gate_dst (N := 72) rfl ?_); refine Kd.R_lit (Kd.int .i64) _ 3 ?hg (N := 72) ?hd (xs := ([a0_1, a0_4, a0_2] : List Int)) (inner := [.int .i64 a0_1, .int .i64 a0_4, .int .i64 a0_2]) (ok := fun _ => True) (okp := fun _ => True) ?hr ?hp (fun _ hk => hk) trivial (Below.refl _ _) (Nat.le_refl _) (by simp) ?_; (case hd => rfl); (case hg => rfl); (case hr => first | (go_simp; done) | (go_simp; rfl)); (case hp => exact (Reps.one (show Kd.M (Kd.int .i64) _ _ _ a0_1 [.int .i64 a0_1] from rfl) (Reps.one (show Kd.M (Kd.int .i64) _ _ _ a0_4 [.int .i64 a0_4] from rfl) (Reps.one (show Kd.M (Kd.int .i64) _ _ _ a0_2 [.int .i64 a0_2] from rfl) (Reps.none _ _))))); intro v223 w70 ho71 hb hg_ hnew_; clear hg_ hnew_; (first | rw [← Ny222.out] at ho71 | (simp only [Int.reduceToNat] at ho71; rw [← Ny222.out] at ho71)); have n0 := aM_ (Kd.R_lower ho71 (below_size (by repeat (first | (with_reducible first | exact HB.out | apply hA_ | apply hN_ | apply hD_ | refine below_set ?_ GE196.out) | exact HB.out)))); have n1 := aM_ (nB_ BK196.out hb); have n2 := aM_ (sT_ HB.out hb); clear BK196; clear HB; have HO224 := n0; have BK196 := n1; have HB := n2; clear n0 n1 n2; clear hb ho71; obtain ⟨Ao72, co72, eo72⟩ := Kd.R_slice HO224.out; subst eo72) | ((with_reducible refine gate_callee (f := 70) rfl ?_); refine gL_ (some 73) Tryd.func70 #[.string (⟨#[116, 114, 121, 115, 101, 110, 100]⟩ : ByteArray), .slice Ao72 y222.length co72] ?_; (with_reducible refine (impl_words.calls k (⟨#[116, 114, 121, 115, 101, 110, 100]⟩ : ByteArray) _ _ y222 t225 _ ?side1 ?side2 A65.out ?sT).mono ?_); (case sT => first | with_reducible exact hT | exact TabT.Laid.below hT (by repeat (first | (with_reducible first | exact HB.out | apply hA_ | apply hN_ | apply hD_ | refine below_set ?_ GE196.out) | exact HB.out))); (case side1 => exact cS_ (Kd.R_reads' HO224.out).2.2); (case side2 => exact (Kd.R_reads' HO224.out).2.1); rintro e w73 ⟨rfl, hb⟩; refine ⟨_, rfl, ?_⟩; have n0 := aM_ (bR_ HO224.out hb); have n1 := aM_ (nB_ BK196.out hb); have n2 := aM_ (sT_ HB.out hb); clear HO224; clear BK196; clear HB; have HO224 := n0; have BK196 := n1; have HB := n2; clear n0 n1 n2))
         go_ret
         exact fI_ HB.out
        ·rw [if_neg c64] at H
         have c64b0 : (a0_0 == 7) = false := beq_eq_false_iff_ne.mpr c64
         have c64b1 : (a0_0 != 7) = true := bne_iff_ne.mpr c64
         by_cases c74 : a0_0 = 8
         ·rw [if_pos c74] at H
          have c74b0 : (a0_0 == 8) = true := beq_iff_eq.mpr c74
          have c74b1 : (a0_0 != 8) = false := bne_eq_false_iff_eq.mpr c74
          clear c74
          obtain ⟨y226, hy226⟩ : ∃ y_ : List Int, y_ = (([a0_1, a0_3, a0_4] : List Int)) := ⟨_, rfl⟩
          replace H : ((impl_words.f k (⟨#[116, 114, 121, 116, 97, 107, 101]⟩ : ByteArray) y226).bind fun t229 => (some t229)) = some r := by first | (rw [hy226]; with_reducible exact H) | (have H2_ := (Option.bind_some _ _).symm.trans H; rw [hy226]; with_reducible exact H2_) | (have H2_ := (Option.bind_some _ _).symm.trans H; with_reducible exact H2_) | with_reducible exact H | (rw [hy226]; exact H) | exact H
          have Ny226 := aM_ hy226
          clear hy226
          replace H := Option.bind_eq_some_iff.mp H
          obtain ⟨t229, A750, H⟩ := H
          replace H : (some t229) = some r := H
          have A75 := aM_ A750
          clear A750
          obtain rfl := Option.some.inj H
          go_enter Tryd.func21, Tryd.ntmps21
          go_wp2_with (first | ((with_reducible refine gate_dst (N := 1) rfl ?_); refine bX_ 1 (cs := #[.int .i64 a0_0, .int .i64 a0_1, .int .i64 a0_2, .int .i64 a0_3, .int .i64 a0_4]) (t := 32) ?_; intro gb196 hg w76 hbox hb; have n0 := aM_ (sT_ HB.out hb); have n1 := aM_ (hbox); have n2 := aM_ (sZ_ hg HB.out); have n3 := aM_ (sZ_ hg HB.out); clear HB; have HB := n0; have BK196 := n1; have GW196 := n2; have GE196 := n3; clear n0 n1 n2 n3; clear hb hbox hg; obtain ⟨hcz77_0, hcz77_1, hcz77_2, hcz77_3, hcz77_4, hfz77_0, hfz77_1, hfz77_2, hfz77_3, hfz77_4⟩ := bR5_ BK196.out) | ((with_reducible refine gate_callee (f := 49) rfl ?_); refine gL_ (some 4) Tryd.func49 #[.agg #[.int .i64 a0_0, .int .i64 a0_1, .int .i64 a0_2, .int .i64 a0_3, .int .i64 a0_4], .int .i64 24, .int .i64 3] ?_; (with_reducible refine (impl_InsOk.calls k a0_0 a0_1 a0_2 a0_3 a0_4 24 3 true _ A2.out).mono ?_); rintro e w78 ⟨rfl, hb⟩; refine ⟨_, rfl, ?_⟩; have n0 := aM_ (nB_ BK196.out hb); have n1 := aM_ (sT_ HB.out hb); clear BK196; clear HB; have BK196 := n0; have HB := n1; clear n0 n1; obtain ⟨hcz79_0, hcz79_1, hcz79_2, hcz79_3, hcz79_4, hfz79_0, hfz79_1, hfz79_2, hfz79_3, hfz79_4⟩ := bR5_ BK196.out) | ((with_reducible refine gate_dst (N := 82) rfl ?_); refine Kd.R_lit (Kd.int .i64) _ 3 ?hg (N := 82) ?hd (xs := ([a0_1, a0_3, a0_4] : List Int)) (inner := [.int .i64 a0_1, .int .i64 a0_3, .int .i64 a0_4]) (ok := fun _ => True) (okp := fun _ => True) ?hr ?hp (fun _ hk => hk) trivial (Below.refl _ _) (Nat.le_refl _) (by simp) ?_; (case hd => rfl); (case hg => rfl); (case hr => first | (go_simp; done) | (go_simp; rfl)); (case hp => exact (Reps.one (show Kd.M (Kd.int .i64) _ _ _ a0_1 [.int .i64 a0_1] from rfl) (Reps.one (show Kd.M (Kd.int .i64) _ _ _ a0_3 [.int .i64 a0_3] from rfl) (Reps.one (show Kd.M (Kd.int .i64) _ _ _ a0_4 [.int .i64 a0_4] from rfl) (Reps.none _ _))))); intro v227 w80 ho81 hb hg_ hnew_; clear hg_ hnew_; (first | rw [← Ny226.out] at ho81 | (simp only [Int.reduceToNat] at ho81; rw [← Ny226.out] at ho81)); have n0 := aM_ (Kd.R_lower ho81 (below_size (by repeat (first | (with_reducible first | exact HB.out | apply hA_ | apply hN_ | apply hD_ | refine below_set ?_ GE196.out) | exact HB.out)))); have n1 := aM_ (nB_ BK196.out hb); have n2 := aM_ (sT_ HB.out hb); clear BK196; clear HB; have HO228 := n0; have BK196 := n1; have HB := n2; clear n0 n1 n2; clear hb ho81; obtain ⟨Ao82, co82, eo82⟩ := Kd.R_slice HO228.out; subst eo82) | ((with_reducible refine gate_callee (f := 70) rfl ?_); refine gL_ (some 83) Tryd.func70 #[.string (⟨#[116, 114, 121, 116, 97, 107, 101]⟩ : ByteArray), .slice Ao82 y226.length co82] ?_; (with_reducible refine (impl_words.calls k (⟨#[116, 114, 121, 116, 97, 107, 101]⟩ : ByteArray) _ _ y226 t229 _ ?side1 ?side2 A75.out ?sT).mono ?_); (case sT => first | with_reducible exact hT | exact TabT.Laid.below hT (by repeat (first | (with_reducible first | exact HB.out | apply hA_ | apply hN_ | apply hD_ | refine below_set ?_ GE196.out) | exact HB.out))); (case side1 => exact cS_ (Kd.R_reads' HO228.out).2.2); (case side2 => exact (Kd.R_reads' HO228.out).2.1); rintro e w83 ⟨rfl, hb⟩; refine ⟨_, rfl, ?_⟩; have n0 := aM_ (bR_ HO228.out hb); have n1 := aM_ (nB_ BK196.out hb); have n2 := aM_ (sT_ HB.out hb); clear HO228; clear BK196; clear HB; have HO228 := n0; have BK196 := n1; have HB := n2; clear n0 n1 n2))
          go_ret
          exact fI_ HB.out
         ·rw [if_neg c74] at H
          have c74b0 : (a0_0 == 8) = false := beq_eq_false_iff_ne.mpr c74
          have c74b1 : (a0_0 != 8) = true := bne_iff_ne.mpr c74
          by_cases c84 : a0_0 = 9
          ·rw [if_pos c84] at H
           have c84b0 : (a0_0 == 9) = true := beq_iff_eq.mpr c84
           have c84b1 : (a0_0 != 9) = false := bne_eq_false_iff_eq.mpr c84
           clear c84
           obtain ⟨y230, hy230⟩ : ∃ y_ : List Int, y_ = (([a0_4] : List Int)) := ⟨_, rfl⟩
           replace H : ((impl_words.f k (⟨#[99, 108, 111, 115, 101]⟩ : ByteArray) y230).bind fun t233 => (some t233)) = some r := by first | (rw [hy230]; with_reducible exact H) | (have H2_ := (Option.bind_some _ _).symm.trans H; rw [hy230]; with_reducible exact H2_) | (have H2_ := (Option.bind_some _ _).symm.trans H; with_reducible exact H2_) | with_reducible exact H | (rw [hy230]; exact H) | exact H
           have Ny230 := aM_ hy230
           clear hy230
           replace H := Option.bind_eq_some_iff.mp H
           obtain ⟨t233, A850, H⟩ := H
           replace H : (some t233) = some r := H
           have A85 := aM_ A850
           clear A850
           obtain rfl := Option.some.inj H
           go_enter Tryd.func21, Tryd.ntmps21
           go_wp2_with (first | ((with_reducible refine gate_dst (N := 1) rfl ?_); refine bX_ 1 (cs := #[.int .i64 a0_0, .int .i64 a0_1, .int .i64 a0_2, .int .i64 a0_3, .int .i64 a0_4]) (t := 32) ?_; intro gb196 hg w86 hbox hb; have n0 := aM_ (sT_ HB.out hb); have n1 := aM_ (hbox); have n2 := aM_ (sZ_ hg HB.out); have n3 := aM_ (sZ_ hg HB.out); clear HB; have HB := n0; have BK196 := n1; have GW196 := n2; have GE196 := n3; clear n0 n1 n2 n3; clear hb hbox hg; obtain ⟨hcz87_0, hcz87_1, hcz87_2, hcz87_3, hcz87_4, hfz87_0, hfz87_1, hfz87_2, hfz87_3, hfz87_4⟩ := bR5_ BK196.out) | ((with_reducible refine gate_callee (f := 49) rfl ?_); refine gL_ (some 4) Tryd.func49 #[.agg #[.int .i64 a0_0, .int .i64 a0_1, .int .i64 a0_2, .int .i64 a0_3, .int .i64 a0_4], .int .i64 24, .int .i64 3] ?_; (with_reducible refine (impl_InsOk.calls k a0_0 a0_1 a0_2 a0_3 a0_4 24 3 true _ A2.out).mono ?_); rintro e w88 ⟨rfl, hb⟩; refine ⟨_, rfl, ?_⟩; have n0 := aM_ (nB_ BK196.out hb); have n1 := aM_ (sT_ HB.out hb); clear BK196; clear HB; have BK196 := n0; have HB := n1; clear n0 n1; obtain ⟨hcz89_0, hcz89_1, hcz89_2, hcz89_3, hcz89_4, hfz89_0, hfz89_1, hfz89_2, hfz89_3, hfz89_4⟩ := bR5_ BK196.out) | ((with_reducible refine gate_dst (N := 88) rfl ?_); refine Kd.R_lit (Kd.int .i64) _ 3 ?hg (N := 88) ?hd (xs := ([a0_4] : List Int)) (inner := [.int .i64 a0_4]) (ok := fun _ => True) (okp := fun _ => True) ?hr ?hp (fun _ hk => hk) trivial (Below.refl _ _) (Nat.le_refl _) (by simp) ?_; (case hd => rfl); (case hg => rfl); (case hr => first | (go_simp; done) | (go_simp; rfl)); (case hp => exact (Reps.one (show Kd.M (Kd.int .i64) _ _ _ a0_4 [.int .i64 a0_4] from rfl) (Reps.none _ _))); intro v231 w90 ho91 hb hg_ hnew_; clear hg_ hnew_; (first | rw [← Ny230.out] at ho91 | (simp only [Int.reduceToNat] at ho91; rw [← Ny230.out] at ho91)); have n0 := aM_ (Kd.R_lower ho91 (below_size (by repeat (first | (with_reducible first | exact HB.out | apply hA_ | apply hN_ | apply hD_ | refine below_set ?_ GE196.out) | exact HB.out)))); have n1 := aM_ (nB_ BK196.out hb); have n2 := aM_ (sT_ HB.out hb); clear BK196; clear HB; have HO232 := n0; have BK196 := n1; have HB := n2; clear n0 n1 n2; clear hb ho91; obtain ⟨Ao92, co92, eo92⟩ := Kd.R_slice HO232.out; subst eo92) | ((with_reducible refine gate_callee (f := 70) rfl ?_); refine gL_ (some 89) Tryd.func70 #[.string (⟨#[99, 108, 111, 115, 101]⟩ : ByteArray), .slice Ao92 y230.length co92] ?_; (with_reducible refine (impl_words.calls k (⟨#[99, 108, 111, 115, 101]⟩ : ByteArray) _ _ y230 t233 _ ?side1 ?side2 A85.out ?sT).mono ?_); (case sT => first | with_reducible exact hT | exact TabT.Laid.below hT (by repeat (first | (with_reducible first | exact HB.out | apply hA_ | apply hN_ | apply hD_ | refine below_set ?_ GE196.out) | exact HB.out))); (case side1 => exact cS_ (Kd.R_reads' HO232.out).2.2); (case side2 => exact (Kd.R_reads' HO232.out).2.1); rintro e w93 ⟨rfl, hb⟩; refine ⟨_, rfl, ?_⟩; have n0 := aM_ (bR_ HO232.out hb); have n1 := aM_ (nB_ BK196.out hb); have n2 := aM_ (sT_ HB.out hb); clear HO232; clear BK196; clear HB; have HO232 := n0; have BK196 := n1; have HB := n2; clear n0 n1 n2))
           go_ret
           exact fI_ HB.out
          ·rw [if_neg c84] at H
           have c84b0 : (a0_0 == 9) = false := beq_eq_false_iff_ne.mpr c84
           have c84b1 : (a0_0 != 9) = true := bne_iff_ne.mpr c84
           by_cases c94 : a0_0 = 10
           ·rw [if_pos c94] at H
            have c94b0 : (a0_0 == 10) = true := beq_iff_eq.mpr c94
            have c94b1 : (a0_0 != 10) = false := bne_eq_false_iff_eq.mpr c94
            clear c94
            obtain ⟨y234, hy234⟩ : ∃ y_ : List Int, y_ = (([a0_2] : List Int)) := ⟨_, rfl⟩
            replace H : ((impl_words.f k (⟨#[112, 114, 105, 110, 116]⟩ : ByteArray) y234).bind fun t237 => (some t237)) = some r := by first | (rw [hy234]; with_reducible exact H) | (have H2_ := (Option.bind_some _ _).symm.trans H; rw [hy234]; with_reducible exact H2_) | (have H2_ := (Option.bind_some _ _).symm.trans H; with_reducible exact H2_) | with_reducible exact H | (rw [hy234]; exact H) | exact H
            have Ny234 := aM_ hy234
            clear hy234
            replace H := Option.bind_eq_some_iff.mp H
            obtain ⟨t237, A950, H⟩ := H
            replace H : (some t237) = some r := H
            have A95 := aM_ A950
            clear A950
            obtain rfl := Option.some.inj H
            go_enter Tryd.func21, Tryd.ntmps21
            go_wp2_with (first | ((with_reducible refine gate_dst (N := 1) rfl ?_); refine bX_ 1 (cs := #[.int .i64 a0_0, .int .i64 a0_1, .int .i64 a0_2, .int .i64 a0_3, .int .i64 a0_4]) (t := 32) ?_; intro gb196 hg w96 hbox hb; have n0 := aM_ (sT_ HB.out hb); have n1 := aM_ (hbox); have n2 := aM_ (sZ_ hg HB.out); have n3 := aM_ (sZ_ hg HB.out); clear HB; have HB := n0; have BK196 := n1; have GW196 := n2; have GE196 := n3; clear n0 n1 n2 n3; clear hb hbox hg; obtain ⟨hcz97_0, hcz97_1, hcz97_2, hcz97_3, hcz97_4, hfz97_0, hfz97_1, hfz97_2, hfz97_3, hfz97_4⟩ := bR5_ BK196.out) | ((with_reducible refine gate_callee (f := 49) rfl ?_); refine gL_ (some 4) Tryd.func49 #[.agg #[.int .i64 a0_0, .int .i64 a0_1, .int .i64 a0_2, .int .i64 a0_3, .int .i64 a0_4], .int .i64 24, .int .i64 3] ?_; (with_reducible refine (impl_InsOk.calls k a0_0 a0_1 a0_2 a0_3 a0_4 24 3 true _ A2.out).mono ?_); rintro e w98 ⟨rfl, hb⟩; refine ⟨_, rfl, ?_⟩; have n0 := aM_ (nB_ BK196.out hb); have n1 := aM_ (sT_ HB.out hb); clear BK196; clear HB; have BK196 := n0; have HB := n1; clear n0 n1; obtain ⟨hcz99_0, hcz99_1, hcz99_2, hcz99_3, hcz99_4, hfz99_0, hfz99_1, hfz99_2, hfz99_3, hfz99_4⟩ := bR5_ BK196.out) | ((with_reducible refine gate_dst (N := 94) rfl ?_); refine Kd.R_lit (Kd.int .i64) _ 3 ?hg (N := 94) ?hd (xs := ([a0_2] : List Int)) (inner := [.int .i64 a0_2]) (ok := fun _ => True) (okp := fun _ => True) ?hr ?hp (fun _ hk => hk) trivial (Below.refl _ _) (Nat.le_refl _) (by simp) ?_; (case hd => rfl); (case hg => rfl); (case hr => first | (go_simp; done) | (go_simp; rfl)); (case hp => exact (Reps.one (show Kd.M (Kd.int .i64) _ _ _ a0_2 [.int .i64 a0_2] from rfl) (Reps.none _ _))); intro v235 w100 ho101 hb hg_ hnew_; clear hg_ hnew_; (first | rw [← Ny234.out] at ho101 | (simp only [Int.reduceToNat] at ho101; rw [← Ny234.out] at ho101)); have n0 := aM_ (Kd.R_lower ho101 (below_size (by repeat (first | (with_reducible first | exact HB.out | apply hA_ | apply hN_ | apply hD_ | refine below_set ?_ GE196.out) | exact HB.out)))); have n1 := aM_ (nB_ BK196.out hb); have n2 := aM_ (sT_ HB.out hb); clear BK196; clear HB; have HO236 := n0; have BK196 := n1; have HB := n2; clear n0 n1 n2; clear hb ho101; obtain ⟨Ao102, co102, eo102⟩ := Kd.R_slice HO236.out; subst eo102) | ((with_reducible refine gate_callee (f := 70) rfl ?_); refine gL_ (some 95) Tryd.func70 #[.string (⟨#[112, 114, 105, 110, 116]⟩ : ByteArray), .slice Ao102 y234.length co102] ?_; (with_reducible refine (impl_words.calls k (⟨#[112, 114, 105, 110, 116]⟩ : ByteArray) _ _ y234 t237 _ ?side1 ?side2 A95.out ?sT).mono ?_); (case sT => first | with_reducible exact hT | exact TabT.Laid.below hT (by repeat (first | (with_reducible first | exact HB.out | apply hA_ | apply hN_ | apply hD_ | refine below_set ?_ GE196.out) | exact HB.out))); (case side1 => exact cS_ (Kd.R_reads' HO236.out).2.2); (case side2 => exact (Kd.R_reads' HO236.out).2.1); rintro e w103 ⟨rfl, hb⟩; refine ⟨_, rfl, ?_⟩; have n0 := aM_ (bR_ HO236.out hb); have n1 := aM_ (nB_ BK196.out hb); have n2 := aM_ (sT_ HB.out hb); clear HO236; clear BK196; clear HB; have HO236 := n0; have BK196 := n1; have HB := n2; clear n0 n1 n2))
            go_ret
            exact fI_ HB.out
           ·rw [if_neg c94] at H
            have c94b0 : (a0_0 == 10) = false := beq_eq_false_iff_ne.mpr c94
            have c94b1 : (a0_0 != 10) = true := bne_iff_ne.mpr c94
            by_cases c104 : a0_0 = 11
            ·rw [if_pos c104] at H
             have c104b0 : (a0_0 == 11) = true := beq_iff_eq.mpr c104
             have c104b1 : (a0_0 != 11) = false := bne_eq_false_iff_eq.mpr c104
             clear c104
             obtain ⟨y238, hy238⟩ : ∃ y_ : List Int, y_ = (([a0_4] : List Int)) := ⟨_, rfl⟩
             replace H : ((impl_words.f k (⟨#[106, 117, 109, 112]⟩ : ByteArray) y238).bind fun t241 => (some t241)) = some r := by first | (rw [hy238]; with_reducible exact H) | (have H2_ := (Option.bind_some _ _).symm.trans H; rw [hy238]; with_reducible exact H2_) | (have H2_ := (Option.bind_some _ _).symm.trans H; with_reducible exact H2_) | with_reducible exact H | (rw [hy238]; exact H) | exact H
             have Ny238 := aM_ hy238
             clear hy238
             replace H := Option.bind_eq_some_iff.mp H
             obtain ⟨t241, A1050, H⟩ := H
             replace H : (some t241) = some r := H
             have A105 := aM_ A1050
             clear A1050
             obtain rfl := Option.some.inj H
             go_enter Tryd.func21, Tryd.ntmps21
             go_wp2_with (first | ((with_reducible refine gate_dst (N := 1) rfl ?_); refine bX_ 1 (cs := #[.int .i64 a0_0, .int .i64 a0_1, .int .i64 a0_2, .int .i64 a0_3, .int .i64 a0_4]) (t := 32) ?_; intro gb196 hg w106 hbox hb; have n0 := aM_ (sT_ HB.out hb); have n1 := aM_ (hbox); have n2 := aM_ (sZ_ hg HB.out); have n3 := aM_ (sZ_ hg HB.out); clear HB; have HB := n0; have BK196 := n1; have GW196 := n2; have GE196 := n3; clear n0 n1 n2 n3; clear hb hbox hg; obtain ⟨hcz107_0, hcz107_1, hcz107_2, hcz107_3, hcz107_4, hfz107_0, hfz107_1, hfz107_2, hfz107_3, hfz107_4⟩ := bR5_ BK196.out) | ((with_reducible refine gate_callee (f := 49) rfl ?_); refine gL_ (some 4) Tryd.func49 #[.agg #[.int .i64 a0_0, .int .i64 a0_1, .int .i64 a0_2, .int .i64 a0_3, .int .i64 a0_4], .int .i64 24, .int .i64 3] ?_; (with_reducible refine (impl_InsOk.calls k a0_0 a0_1 a0_2 a0_3 a0_4 24 3 true _ A2.out).mono ?_); rintro e w108 ⟨rfl, hb⟩; refine ⟨_, rfl, ?_⟩; have n0 := aM_ (nB_ BK196.out hb); have n1 := aM_ (sT_ HB.out hb); clear BK196; clear HB; have BK196 := n0; have HB := n1; clear n0 n1; obtain ⟨hcz109_0, hcz109_1, hcz109_2, hcz109_3, hcz109_4, hfz109_0, hfz109_1, hfz109_2, hfz109_3, hfz109_4⟩ := bR5_ BK196.out) | ((with_reducible refine gate_dst (N := 100) rfl ?_); refine Kd.R_lit (Kd.int .i64) _ 3 ?hg (N := 100) ?hd (xs := ([a0_4] : List Int)) (inner := [.int .i64 a0_4]) (ok := fun _ => True) (okp := fun _ => True) ?hr ?hp (fun _ hk => hk) trivial (Below.refl _ _) (Nat.le_refl _) (by simp) ?_; (case hd => rfl); (case hg => rfl); (case hr => first | (go_simp; done) | (go_simp; rfl)); (case hp => exact (Reps.one (show Kd.M (Kd.int .i64) _ _ _ a0_4 [.int .i64 a0_4] from rfl) (Reps.none _ _))); intro v239 w110 ho111 hb hg_ hnew_; clear hg_ hnew_; (first | rw [← Ny238.out] at ho111 | (simp only [Int.reduceToNat] at ho111; rw [← Ny238.out] at ho111)); have n0 := aM_ (Kd.R_lower ho111 (below_size (by repeat (first | (with_reducible first | exact HB.out | apply hA_ | apply hN_ | apply hD_ | refine below_set ?_ GE196.out) | exact HB.out)))); have n1 := aM_ (nB_ BK196.out hb); have n2 := aM_ (sT_ HB.out hb); clear BK196; clear HB; have HO240 := n0; have BK196 := n1; have HB := n2; clear n0 n1 n2; clear hb ho111; obtain ⟨Ao112, co112, eo112⟩ := Kd.R_slice HO240.out; subst eo112) | ((with_reducible refine gate_callee (f := 70) rfl ?_); refine gL_ (some 101) Tryd.func70 #[.string (⟨#[106, 117, 109, 112]⟩ : ByteArray), .slice Ao112 y238.length co112] ?_; (with_reducible refine (impl_words.calls k (⟨#[106, 117, 109, 112]⟩ : ByteArray) _ _ y238 t241 _ ?side1 ?side2 A105.out ?sT).mono ?_); (case sT => first | with_reducible exact hT | exact TabT.Laid.below hT (by repeat (first | (with_reducible first | exact HB.out | apply hA_ | apply hN_ | apply hD_ | refine below_set ?_ GE196.out) | exact HB.out))); (case side1 => exact cS_ (Kd.R_reads' HO240.out).2.2); (case side2 => exact (Kd.R_reads' HO240.out).2.1); rintro e w113 ⟨rfl, hb⟩; refine ⟨_, rfl, ?_⟩; have n0 := aM_ (bR_ HO240.out hb); have n1 := aM_ (nB_ BK196.out hb); have n2 := aM_ (sT_ HB.out hb); clear HO240; clear BK196; clear HB; have HO240 := n0; have BK196 := n1; have HB := n2; clear n0 n1 n2))
             go_ret
             exact fI_ HB.out
            ·rw [if_neg c104] at H
             have c104b0 : (a0_0 == 11) = false := beq_eq_false_iff_ne.mpr c104
             have c104b1 : (a0_0 != 11) = true := bne_iff_ne.mpr c104
             by_cases c114 : a0_0 = 12
             ·rw [if_pos c114] at H
              have c114b0 : (a0_0 == 12) = true := beq_iff_eq.mpr c114
              have c114b1 : (a0_0 != 12) = false := bne_eq_false_iff_eq.mpr c114
              clear c114
              obtain ⟨y242, hy242⟩ : ∃ y_ : List Int, y_ = (([a0_2, a0_4] : List Int)) := ⟨_, rfl⟩
              replace H : ((impl_words.f k (⟨#[122, 101, 114, 111]⟩ : ByteArray) y242).bind fun t245 => (some t245)) = some r := by first | (rw [hy242]; with_reducible exact H) | (have H2_ := (Option.bind_some _ _).symm.trans H; rw [hy242]; with_reducible exact H2_) | (have H2_ := (Option.bind_some _ _).symm.trans H; with_reducible exact H2_) | with_reducible exact H | (rw [hy242]; exact H) | exact H
              have Ny242 := aM_ hy242
              clear hy242
              replace H := Option.bind_eq_some_iff.mp H
              obtain ⟨t245, A1150, H⟩ := H
              replace H : (some t245) = some r := H
              have A115 := aM_ A1150
              clear A1150
              obtain rfl := Option.some.inj H
              go_enter Tryd.func21, Tryd.ntmps21
              go_wp2_with (first | ((with_reducible refine gate_dst (N := 1) rfl ?_); refine bX_ 1 (cs := #[.int .i64 a0_0, .int .i64 a0_1, .int .i64 a0_2, .int .i64 a0_3, .int .i64 a0_4]) (t := 32) ?_; intro gb196 hg w116 hbox hb; have n0 := aM_ (sT_ HB.out hb); have n1 := aM_ (hbox); have n2 := aM_ (sZ_ hg HB.out); have n3 := aM_ (sZ_ hg HB.out); clear HB; have HB := n0; have BK196 := n1; have GW196 := n2; have GE196 := n3; clear n0 n1 n2 n3; clear hb hbox hg; obtain ⟨hcz117_0, hcz117_1, hcz117_2, hcz117_3, hcz117_4, hfz117_0, hfz117_1, hfz117_2, hfz117_3, hfz117_4⟩ := bR5_ BK196.out) | ((with_reducible refine gate_callee (f := 49) rfl ?_); refine gL_ (some 4) Tryd.func49 #[.agg #[.int .i64 a0_0, .int .i64 a0_1, .int .i64 a0_2, .int .i64 a0_3, .int .i64 a0_4], .int .i64 24, .int .i64 3] ?_; (with_reducible refine (impl_InsOk.calls k a0_0 a0_1 a0_2 a0_3 a0_4 24 3 true _ A2.out).mono ?_); rintro e w118 ⟨rfl, hb⟩; refine ⟨_, rfl, ?_⟩; have n0 := aM_ (nB_ BK196.out hb); have n1 := aM_ (sT_ HB.out hb); clear BK196; clear HB; have BK196 := n0; have HB := n1; clear n0 n1; obtain ⟨hcz119_0, hcz119_1, hcz119_2, hcz119_3, hcz119_4, hfz119_0, hfz119_1, hfz119_2, hfz119_3, hfz119_4⟩ := bR5_ BK196.out) | ((with_reducible refine gate_dst (N := 108) rfl ?_); refine Kd.R_lit (Kd.int .i64) _ 3 ?hg (N := 108) ?hd (xs := ([a0_2, a0_4] : List Int)) (inner := [.int .i64 a0_2, .int .i64 a0_4]) (ok := fun _ => True) (okp := fun _ => True) ?hr ?hp (fun _ hk => hk) trivial (Below.refl _ _) (Nat.le_refl _) (by simp) ?_; (case hd => rfl); (case hg => rfl); (case hr => first | (go_simp; done) | (go_simp; rfl)); (case hp => exact (Reps.one (show Kd.M (Kd.int .i64) _ _ _ a0_2 [.int .i64 a0_2] from rfl) (Reps.one (show Kd.M (Kd.int .i64) _ _ _ a0_4 [.int .i64 a0_4] from rfl) (Reps.none _ _)))); intro v243 w120 ho121 hb hg_ hnew_; clear hg_ hnew_; (first | rw [← Ny242.out] at ho121 | (simp only [Int.reduceToNat] at ho121; rw [← Ny242.out] at ho121)); have n0 := aM_ (Kd.R_lower ho121 (below_size (by repeat (first | (with_reducible first | exact HB.out | apply hA_ | apply hN_ | apply hD_ | refine below_set ?_ GE196.out) | exact HB.out)))); have n1 := aM_ (nB_ BK196.out hb); have n2 := aM_ (sT_ HB.out hb); clear BK196; clear HB; have HO244 := n0; have BK196 := n1; have HB := n2; clear n0 n1 n2; clear hb ho121; obtain ⟨Ao122, co122, eo122⟩ := Kd.R_slice HO244.out; subst eo122) | ((with_reducible refine gate_callee (f := 70) rfl ?_); refine gL_ (some 109) Tryd.func70 #[.string (⟨#[122, 101, 114, 111]⟩ : ByteArray), .slice Ao122 y242.length co122] ?_; (with_reducible refine (impl_words.calls k (⟨#[122, 101, 114, 111]⟩ : ByteArray) _ _ y242 t245 _ ?side1 ?side2 A115.out ?sT).mono ?_); (case sT => first | with_reducible exact hT | exact TabT.Laid.below hT (by repeat (first | (with_reducible first | exact HB.out | apply hA_ | apply hN_ | apply hD_ | refine below_set ?_ GE196.out) | exact HB.out))); (case side1 => exact cS_ (Kd.R_reads' HO244.out).2.2); (case side2 => exact (Kd.R_reads' HO244.out).2.1); rintro e w123 ⟨rfl, hb⟩; refine ⟨_, rfl, ?_⟩; have n0 := aM_ (bR_ HO244.out hb); have n1 := aM_ (nB_ BK196.out hb); have n2 := aM_ (sT_ HB.out hb); clear HO244; clear BK196; clear HB; have HO244 := n0; have BK196 := n1; have HB := n2; clear n0 n1 n2))
              go_ret
              exact fI_ HB.out
             ·rw [if_neg c114] at H
              have c114b0 : (a0_0 == 12) = false := beq_eq_false_iff_ne.mpr c114
              have c114b1 : (a0_0 != 12) = true := bne_iff_ne.mpr c114
              obtain rfl := Option.some.inj H
              go_enter Tryd.func21, Tryd.ntmps21
              go_wp2_with (first | ((with_reducible refine gate_dst (N := 1) rfl ?_); refine bX_ 1 (cs := #[.int .i64 a0_0, .int .i64 a0_1, .int .i64 a0_2, .int .i64 a0_3, .int .i64 a0_4]) (t := 32) ?_; intro gb196 hg w124 hbox hb; have n0 := aM_ (sT_ HB.out hb); have n1 := aM_ (hbox); have n2 := aM_ (sZ_ hg HB.out); have n3 := aM_ (sZ_ hg HB.out); clear HB; have HB := n0; have BK196 := n1; have GW196 := n2; have GE196 := n3; clear n0 n1 n2 n3; clear hb hbox hg; obtain ⟨hcz125_0, hcz125_1, hcz125_2, hcz125_3, hcz125_4, hfz125_0, hfz125_1, hfz125_2, hfz125_3, hfz125_4⟩ := bR5_ BK196.out) | ((with_reducible refine gate_callee (f := 49) rfl ?_); refine gL_ (some 4) Tryd.func49 #[.agg #[.int .i64 a0_0, .int .i64 a0_1, .int .i64 a0_2, .int .i64 a0_3, .int .i64 a0_4], .int .i64 24, .int .i64 3] ?_; (with_reducible refine (impl_InsOk.calls k a0_0 a0_1 a0_2 a0_3 a0_4 24 3 true _ A2.out).mono ?_); rintro e w126 ⟨rfl, hb⟩; refine ⟨_, rfl, ?_⟩; have n0 := aM_ (nB_ BK196.out hb); have n1 := aM_ (sT_ HB.out hb); clear BK196; clear HB; have BK196 := n0; have HB := n1; clear n0 n1; obtain ⟨hcz127_0, hcz127_1, hcz127_2, hcz127_3, hcz127_4, hfz127_0, hfz127_1, hfz127_2, hfz127_3, hfz127_4⟩ := bR5_ BK196.out))
              go_ret
              exact fI_ HB.out
 ·replace c3 := Bool.eq_false_iff.mpr c3
  subst c3
  have H1 : (some (⟨#[]⟩ : ByteArray)) = some r := by rw [if_neg (show ¬ (false = true) by decide)] at H; exact H
  clear H
  have H := H1
  clear H1
  obtain rfl := Option.some.inj H
  go_enter Tryd.func21, Tryd.ntmps21
  go_wp2_with (first | ((with_reducible refine gate_dst (N := 1) rfl ?_); refine bX_ 1 (cs := #[.int .i64 a0_0, .int .i64 a0_1, .int .i64 a0_2, .int .i64 a0_3, .int .i64 a0_4]) (t := 32) ?_; intro gb196 hg w128 hbox hb; have n0 := aM_ (sT_ HB.out hb); have n1 := aM_ (hbox); have n2 := aM_ (sZ_ hg HB.out); have n3 := aM_ (sZ_ hg HB.out); clear HB; have HB := n0; have BK196 := n1; have GW196 := n2; have GE196 := n3; clear n0 n1 n2 n3; clear hb hbox hg; obtain ⟨hcz129_0, hcz129_1, hcz129_2, hcz129_3, hcz129_4, hfz129_0, hfz129_1, hfz129_2, hfz129_3, hfz129_4⟩ := bR5_ BK196.out) | ((with_reducible refine gate_callee (f := 49) rfl ?_); refine gL_ (some 4) Tryd.func49 #[.agg #[.int .i64 a0_0, .int .i64 a0_1, .int .i64 a0_2, .int .i64 a0_3, .int .i64 a0_4], .int .i64 24, .int .i64 3] ?_; (with_reducible refine (impl_InsOk.calls k a0_0 a0_1 a0_2 a0_3 a0_4 24 3 false _ A2.out).mono ?_); rintro e w130 ⟨rfl, hb⟩; refine ⟨_, rfl, ?_⟩; have n0 := aM_ (nB_ BK196.out hb); have n1 := aM_ (sT_ HB.out hb); clear BK196; clear HB; have BK196 := n0; have HB := n1; clear n0 n1))
  go_ret
  exact fI_ HB.out
def laws_big.f (l0 : List Int) : Option (Bool) := some (decide ((l0.length : Int) > 1048576))
set_option maxHeartbeats 8000000 in
set_option maxRecDepth 100000 in
theorem laws_big.calls (A0 : Option Addr) (c0 : Nat) (l0 : List Int) (r : Bool) (w : World) (hr0 : Kd.C (Kd.int .u8) w A0 l0.length l0) (hc0 : l0.length ≤ c0) (h : laws_big.f l0 = some r) :
  Calls Tryd.prog 40 #[.slice A0 l0.length c0] w fun e w' => e = .returned (.bool r) ∧ Drawn0 w w' := by
 have HR0 := aM_ hr0
 have HC0 := aM_ hc0
 clear hr0 hc0
 have H : (some (decide ((l0.length : Int) > 1048576))) = some r := h
 clear h
 obtain rfl := Option.some.inj H
 go_enter Tryd.func40, Tryd.ntmps40
 go_wp2
 go_ret
 exact ⟨by first | rfl | (simp; done) | (simp [*]; done), by repeat (first | exact Drawn0.refl _ | apply Drawn0.step)⟩
end Go.Proofs.YtkjfcmgpplapeaaDoor.PFnInsText
