/- A part of the proof that the law FnTexts holds for every input: the words, functions and walks that its row needs, without a condition of their own. -/
import Derived.Test.YtdbobicbbfmepaaDoorZFnTextsa4
import Derived.Test.YtdbobicbbfmepaaDoorZFnTextsa12
import Derived.Test.YtdbobicbbfmepaaDoorZFnTextsa13
import Derived.Test.YtdbobicbbfmepaaDoorZFnTextsa15
import Derived.Test.YtdbobicbbfmepaaDoorZFnTextss
namespace Go.Proofs.YtdbobicbbfmepaaDoor.PFnTexts
open Go.RowKit Go.Proofs.YtdbobicbbfmepaaDoorW.PrintWords Go.Proofs.YtdbobicbbfmepaaDoorW.PrintLast Go.Proofs.YtdbobicbbfmepaaDoorW.PrintMore
attribute [local go_sem] max2_int min2_int max_two min_two max_three min_three max_four min_four   -- for this text's walks alone
set_option linter.unusedVariables false
set_option linter.unusedSimpArgs false
def spec_CodeOk.l0 : Nat → List (S25) → Int → Int → Option (Bool)
  | 0, _, _, _ => none
  | k + 1, x0, x3, x4 => if x4 < x3 then (if 0 ≤ x4 then (if x4 < (x0.length : Int) then ((spec_StepOk.f k ((rd_T25 x0 x4).f0) ((rd_T25 x0 x4).f1) ((rd_T25 x0 x4).f2) ((rd_T25 x0 x4).f3) ((rd_T25 x0 x4).f4) x3).bind fun t485 => (if t485 = true then (spec_CodeOk.l0 k x0 x3 (wrap64 (x4 + 1))) else (some false))) else (none)) else (none)) else (if 0 ≤ (wrap64 (x3 - 1)) then (if (wrap64 (x3 - 1)) < (x0.length : Int) then (if ((rd_T25 x0 (wrap64 (x3 - 1))).f0) = 10 then (some true) else (if ((rd_T25 x0 (wrap64 (x3 - 1))).f0) = 12 then (some true) else (some (((rd_T25 x0 (wrap64 (x3 - 1))).f0) == 13)))) else (none)) else (none))
def spec_CodeOk.f (k : Nat) (l0 : List (S25)) : Option (Bool) := (spec_l1In.f (l0.length : Int) 1 800).bind fun t483 => (if t483 = true then (spec_CodeOk.l0 k l0 (l0.length : Int) 0) else (some false))
set_option maxHeartbeats 8000000 in
set_option maxRecDepth 100000 in
theorem spec_CodeOk.calls (k : Nat) (A0 : Option Addr) (c0 : Nat) (l0 : List (S25)) (r : Bool) (w : World) (hr0 : Kd.C k25 w A0 l0.length l0) (hc0 : l0.length ≤ c0) (h : spec_CodeOk.f k l0 = some r) :
  Calls Tryd.prog 49 #[.slice A0 l0.length c0] w fun e w' => e = .returned (.bool r) ∧ Below w.heap.size w w' := by
 have hu25 := Tryd.underlying25
 have HR0 := aM_ hr0
 have HC0 := aM_ hc0
 clear hr0 hc0
 have HB := aM_ (Below.refl w.heap.size w)
 have H : ((spec_l1In.f (l0.length : Int) 1 800).bind fun t483 => (if t483 = true then (spec_CodeOk.l0 k l0 (l0.length : Int) 0) else (some false))) = some r := h
 clear h
 replace H := Option.bind_eq_some_iff.mp H
 obtain ⟨t483, A20, H⟩ := H
 replace H : (if t483 = true then (spec_CodeOk.l0 k l0 (l0.length : Int) 0) else (some false)) = some r := H
 have A2 := aM_ A20
 clear A20
 by_cases c3 : t483 = true
 ·subst c3
  have H1 : (spec_CodeOk.l0 k l0 (l0.length : Int) 0) = some r := by rw [if_pos rfl] at H; exact H
  clear H
  have H := H1
  clear H1
  have H' := aM_ H
  clear H
  go_enter Tryd.func49, Tryd.ntmps49
  go_wp2_with (first | ((with_reducible refine gate_callee (f := 86) rfl ?_); refine gL_ (some 9) Tryd.func86 #[.int .i64 (l0.length : Int), .int .i64 1, .int .i64 800] ?_; (with_reducible refine (spec_l1In.calls (l0.length : Int) 1 800 true _ A2.out).mono ?_); rintro e w' ⟨rfl, ⟨nd, rfl⟩⟩; refine ⟨_, rfl, ?_⟩))
  go_loopg [4] k (fun kq v4 w' => ∃ (x4_1 : Int), v4 = .int .i64 x4_1 ∧ Aside0 (spec_CodeOk.l0 kq l0 (l0.length : Int) x4_1 = some r) ∧ Aside0 (kq ≤ k) ∧ Aside0 (Below w.heap.size w w'))
  case atStart => exact ⟨(0), (by first | rfl | (simp; done) | (simp [*]; done)), H', ⟨Nat.le_refl _⟩, ⟨gW_ HB.out⟩⟩
  case round =>
   clear H'
   try clear p2
   try clear c3
   obtain ⟨x4_1, rfl, HA, HK1, HB⟩ := hrel
   cases gk with
   | zero => exact absurd HA.out (by simp [spec_CodeOk.l0])
   | succ k1 =>
    have H := HA.out
    clear HA
    simp only [spec_CodeOk.l0] at H
    by_cases c4 : x4_1 < (l0.length : Int)
    ·rw [if_pos c4] at H
     have c4b0 : decide (x4_1 < (l0.length : Int)) = true := decide_eq_true c4
     clear c4
     by_cases c5 : 0 ≤ x4_1
     ·rw [if_pos c5] at H
      have c5b0 : decide (0 ≤ x4_1) = true := decide_eq_true c5
      clear c5
      by_cases c6 : x4_1 < (l0.length : Int)
      ·rw [if_pos c6] at H
       have c6b0 : decide (x4_1 < (l0.length : Int)) = true := decide_eq_true c6
       clear c6
       replace H := Option.bind_eq_some_iff.mp H
       obtain ⟨t485, A70, H⟩ := H
       replace H : (if t485 = true then (spec_CodeOk.l0 k1 l0 (l0.length : Int) (wrap64 (x4_1 + 1))) else (some false)) = some r := H
       have A7 := aM_ A70
       clear A70
       by_cases c8 : t485 = true
       ·subst c8
        have H1 : (spec_CodeOk.l0 k1 l0 (l0.length : Int) (wrap64 (x4_1 + 1))) = some r := by rw [if_pos rfl] at H; exact H
        clear H
        have H := H1
        clear H1
        have H' := aM_ H
        clear H
        have p484 : 0 ≤ (x4_1 : Int) := of_decide_eq_true (by first | (with_reducible assumption) | assumption)
        have q484 : x4_1 < (l0.length : Int) := of_decide_eq_true (by first | (with_reducible assumption) | assumption)
        obtain ⟨ad484, e484, hx484_0, hx484_1, hx484_2, hx484_3, hx484_4⟩ := at_T25 HR0.out x4_1 p484 q484
        cases e484
        replace hx484_0 := cB_ HB.out hx484_0
        replace hx484_1 := cB_ HB.out hx484_1
        replace hx484_2 := cB_ HB.out hx484_2
        replace hx484_3 := cB_ HB.out hx484_3
        replace hx484_4 := cB_ HB.out hx484_4
        replace p484 := eq_true p484
        replace q484 := eq_true q484
        go_wp2_with (first | ((with_reducible refine gate_callee (f := 45) rfl ?_); refine gL_ (some 21) Tryd.func45 #[.agg #[.int .i64 ((rd_T25 l0 x4_1).f0), .int .i64 ((rd_T25 l0 x4_1).f1), .int .i64 ((rd_T25 l0 x4_1).f2), .int .i64 ((rd_T25 l0 x4_1).f3), .int .i64 ((rd_T25 l0 x4_1).f4)], .int .i64 (l0.length : Int)] ?_; (with_reducible refine (spec_StepOk.calls k1 ((rd_T25 l0 x4_1).f0) ((rd_T25 l0 x4_1).f1) ((rd_T25 l0 x4_1).f2) ((rd_T25 l0 x4_1).f3) ((rd_T25 l0 x4_1).f4) (l0.length : Int) true _ A7.out).mono ?_); rintro e w9 ⟨rfl, hb⟩; refine ⟨_, rfl, ?_⟩; have n0 := aM_ (sT_ HB.out hb); clear HB; have HB := n0; clear n0))
        go_roundg k1
        case measure => have := HK1.out; omega
        case rel => exact ⟨(wrap64 (x4_1 + 1)), (by first | rfl | (simp; done) | (simp [*]; done)), H', ⟨by have := HK1.out; omega⟩, ⟨gW_ HB.out⟩⟩
       ·replace c8 := Bool.eq_false_iff.mpr c8
        subst c8
        have H1 : (some false) = some r := by rw [if_neg (show ¬ (false = true) by decide)] at H; exact H
        clear H
        have H := H1
        clear H1
        obtain rfl := Option.some.inj H
        have p484 : 0 ≤ (x4_1 : Int) := of_decide_eq_true (by first | (with_reducible assumption) | assumption)
        have q484 : x4_1 < (l0.length : Int) := of_decide_eq_true (by first | (with_reducible assumption) | assumption)
        obtain ⟨ad484, e484, hx484_0, hx484_1, hx484_2, hx484_3, hx484_4⟩ := at_T25 HR0.out x4_1 p484 q484
        cases e484
        replace hx484_0 := cB_ HB.out hx484_0
        replace hx484_1 := cB_ HB.out hx484_1
        replace hx484_2 := cB_ HB.out hx484_2
        replace hx484_3 := cB_ HB.out hx484_3
        replace hx484_4 := cB_ HB.out hx484_4
        replace p484 := eq_true p484
        replace q484 := eq_true q484
        go_wp2_with (first | ((with_reducible refine gate_callee (f := 45) rfl ?_); refine gL_ (some 21) Tryd.func45 #[.agg #[.int .i64 ((rd_T25 l0 x4_1).f0), .int .i64 ((rd_T25 l0 x4_1).f1), .int .i64 ((rd_T25 l0 x4_1).f2), .int .i64 ((rd_T25 l0 x4_1).f3), .int .i64 ((rd_T25 l0 x4_1).f4)], .int .i64 (l0.length : Int)] ?_; (with_reducible refine (spec_StepOk.calls k1 ((rd_T25 l0 x4_1).f0) ((rd_T25 l0 x4_1).f1) ((rd_T25 l0 x4_1).f2) ((rd_T25 l0 x4_1).f3) ((rd_T25 l0 x4_1).f4) (l0.length : Int) false _ A7.out).mono ?_); rintro e w10 ⟨rfl, hb⟩; refine ⟨_, rfl, ?_⟩; have n0 := aM_ (sT_ HB.out hb); clear HB; have HB := n0; clear n0))
        go_ret
        exact fI_ HB.out
      ·rw [if_neg c6] at H
       exact absurd H (by simp)
     ·rw [if_neg c5] at H
      exact absurd H (by simp)
    ·rw [if_neg c4] at H
     have c4b0 : decide (x4_1 < (l0.length : Int)) = false := decide_eq_false c4
     clear c4
     obtain ⟨ji11, hji11⟩ : ∃ j_ : Int, (wrap64 ((l0.length : Int) - 1)) = j_ := ⟨_, rfl⟩
     replace H : (if 0 ≤ (ji11) then (if (ji11) < (l0.length : Int) then (if ((rd_T25 l0 (ji11)).f0) = 10 then (some true) else (if ((rd_T25 l0 (ji11)).f0) = 12 then (some true) else (some (((rd_T25 l0 (ji11)).f0) == 13)))) else (none)) else (none)) = some r := by first | (rw [hji11] at H; exact H) | (simp only [hji11] at H ⊢; exact H)
     have hji11w : (IntKind.i64.wrap ((l0.length : Int) - 1)) = ji11 := (i64_w _).trans hji11
     by_cases c12 : 0 ≤ (ji11)
     ·rw [if_pos c12] at H
      have c12b0 : decide (0 ≤ (ji11)) = true := decide_eq_true c12
      clear c12
      by_cases c13 : (ji11) < (l0.length : Int)
      ·rw [if_pos c13] at H
       have c13b0 : decide ((ji11) < (l0.length : Int)) = true := decide_eq_true c13
       clear c13
       by_cases c14 : ((rd_T25 l0 (ji11)).f0) = 10
       ·rw [if_pos c14] at H
        have c14b0 : (((rd_T25 l0 (ji11)).f0) == 10) = true := beq_iff_eq.mpr c14
        have c14b1 : (((rd_T25 l0 (ji11)).f0) != 10) = false := bne_eq_false_iff_eq.mpr c14
        clear c14
        obtain rfl := Option.some.inj H
        have p486 : 0 ≤ ((ji11) : Int) := of_decide_eq_true (by first | (with_reducible assumption) | assumption)
        have q486 : (ji11) < (l0.length : Int) := of_decide_eq_true (by first | (with_reducible assumption) | assumption)
        obtain ⟨ad486, e486, hx486_0, hx486_1, hx486_2, hx486_3, hx486_4⟩ := at_T25 HR0.out (ji11) p486 q486
        cases e486
        replace hx486_0 := cB_ HB.out hx486_0
        replace hx486_1 := cB_ HB.out hx486_1
        replace hx486_2 := cB_ HB.out hx486_2
        replace hx486_3 := cB_ HB.out hx486_3
        replace hx486_4 := cB_ HB.out hx486_4
        replace p486 := eq_true p486
        replace q486 := eq_true q486
        go_wp2
        go_ret
        exact ⟨by first | rfl | (simp [errW_none, errW_some] <;> rfl) | (simp only [← hji11]; first | rfl | (simp [errW_none, errW_some] <;> rfl)) | (simp [*, errW_none, errW_some] <;> rfl), gB_ HB.out⟩
       ·rw [if_neg c14] at H
        have c14b0 : (((rd_T25 l0 (ji11)).f0) == 10) = false := beq_eq_false_iff_ne.mpr c14
        have c14b1 : (((rd_T25 l0 (ji11)).f0) != 10) = true := bne_iff_ne.mpr c14
        by_cases c15 : ((rd_T25 l0 (ji11)).f0) = 12
        ·rw [if_pos c15] at H
         have c15b0 : (((rd_T25 l0 (ji11)).f0) == 12) = true := beq_iff_eq.mpr c15
         have c15b1 : (((rd_T25 l0 (ji11)).f0) != 12) = false := bne_eq_false_iff_eq.mpr c15
         clear c15
         obtain rfl := Option.some.inj H
         have p486 : 0 ≤ ((ji11) : Int) := of_decide_eq_true (by first | (with_reducible assumption) | assumption)
         have q486 : (ji11) < (l0.length : Int) := of_decide_eq_true (by first | (with_reducible assumption) | assumption)
         obtain ⟨ad486, e486, hx486_0, hx486_1, hx486_2, hx486_3, hx486_4⟩ := at_T25 HR0.out (ji11) p486 q486
         cases e486
         replace hx486_0 := cB_ HB.out hx486_0
         replace hx486_1 := cB_ HB.out hx486_1
         replace hx486_2 := cB_ HB.out hx486_2
         replace hx486_3 := cB_ HB.out hx486_3
         replace hx486_4 := cB_ HB.out hx486_4
         replace p486 := eq_true p486
         replace q486 := eq_true q486
         go_wp2
         go_ret
         exact ⟨by first | rfl | (simp [errW_none, errW_some] <;> rfl) | (simp only [← hji11]; first | rfl | (simp [errW_none, errW_some] <;> rfl)) | (simp [*, errW_none, errW_some] <;> rfl), gB_ HB.out⟩
        ·rw [if_neg c15] at H
         have c15b0 : (((rd_T25 l0 (ji11)).f0) == 12) = false := beq_eq_false_iff_ne.mpr c15
         have c15b1 : (((rd_T25 l0 (ji11)).f0) != 12) = true := bne_iff_ne.mpr c15
         obtain rfl := Option.some.inj H
         have p486 : 0 ≤ ((ji11) : Int) := of_decide_eq_true (by first | (with_reducible assumption) | assumption)
         have q486 : (ji11) < (l0.length : Int) := of_decide_eq_true (by first | (with_reducible assumption) | assumption)
         obtain ⟨ad486, e486, hx486_0, hx486_1, hx486_2, hx486_3, hx486_4⟩ := at_T25 HR0.out (ji11) p486 q486
         cases e486
         replace hx486_0 := cB_ HB.out hx486_0
         replace hx486_1 := cB_ HB.out hx486_1
         replace hx486_2 := cB_ HB.out hx486_2
         replace hx486_3 := cB_ HB.out hx486_3
         replace hx486_4 := cB_ HB.out hx486_4
         replace p486 := eq_true p486
         replace q486 := eq_true q486
         go_wp2
         go_ret
         exact ⟨by first | rfl | (simp [errW_none, errW_some] <;> rfl) | (simp only [← hji11]; first | rfl | (simp [errW_none, errW_some] <;> rfl)) | (simp [*, errW_none, errW_some] <;> rfl), gB_ HB.out⟩
      ·rw [if_neg c13] at H
       exact absurd H (by simp)
     ·rw [if_neg c12] at H
      exact absurd H (by simp)
 ·replace c3 := Bool.eq_false_iff.mpr c3
  subst c3
  have H1 : (some false) = some r := by rw [if_neg (show ¬ (false = true) by decide)] at H; exact H
  clear H
  have H := H1
  clear H1
  obtain rfl := Option.some.inj H
  go_enter Tryd.func49, Tryd.ntmps49
  go_wp2_with (first | ((with_reducible refine gate_callee (f := 86) rfl ?_); refine gL_ (some 9) Tryd.func86 #[.int .i64 (l0.length : Int), .int .i64 1, .int .i64 800] ?_; (with_reducible refine (spec_l1In.calls (l0.length : Int) 1 800 false _ A2.out).mono ?_); rintro e w' ⟨rfl, ⟨nd, rfl⟩⟩; refine ⟨_, rfl, ?_⟩))
  go_ret
  exact fI_ HB.out
def spec_CodeText.l0 : Nat → List (S25) → ByteArray → Int → Option (ByteArray)
  | 0, _, _, _ => none
  | k + 1, x0, x3, x4 => if x4 < (x0.length : Int) then ((spec_CodeOk.f k x0).bind fun t487 => (if t487 = true then (if 0 ≤ x4 then ((spec_StepText.f k ((rd_T25 x0 x4).f0) ((rd_T25 x0 x4).f1) ((rd_T25 x0 x4).f2) ((rd_T25 x0 x4).f3) ((rd_T25 x0 x4).f4)).bind fun t489 => (if x3.size + t489.size ≤ 9223372036854775807 then (if (x3 ++ t489).size + 1 ≤ 9223372036854775807 then (spec_CodeText.l0 k x0 ((x3 ++ t489) ++ (⟨#[10]⟩ : ByteArray)) (wrap64 (x4 + 1))) else (none)) else (none))) else (none)) else (some x3))) else (some x3)
def spec_CodeText.f (k : Nat) (l0 : List (S25)) : Option (ByteArray) := spec_CodeText.l0 k l0 (⟨#[]⟩ : ByteArray) 0
set_option maxHeartbeats 8000000 in
set_option maxRecDepth 100000 in
theorem spec_CodeText.calls (k : Nat) (A0 : Option Addr) (c0 : Nat) (l0 : List (S25)) (r : ByteArray) (w : World) (hr0 : Kd.C k25 w A0 l0.length l0) (hc0 : l0.length ≤ c0) (h : spec_CodeText.f k l0 = some r) :
  Calls Tryd.prog 16 #[.slice A0 l0.length c0] w fun e w' => e = .returned (.string r) ∧ Below w.heap.size w w' := by
 have hu25 := Tryd.underlying25
 have HR0 := aM_ hr0
 have HC0 := aM_ hc0
 clear hr0 hc0
 have HB := aM_ (Below.refl w.heap.size w)
 have H : (spec_CodeText.l0 k l0 (⟨#[]⟩ : ByteArray) 0) = some r := h
 clear h
 have H' := aM_ H
 clear H
 go_enter Tryd.func16, Tryd.ntmps16
 go_wp2
 go_loopg [3, 4] k (fun kq v3 v4 w' => ∃ (x3_1 : ByteArray) (x4_1 : Int), v3 = .string x3_1 ∧ v4 = .int .i64 x4_1 ∧ Aside0 (spec_CodeText.l0 kq l0 x3_1 x4_1 = some r) ∧ Aside0 (kq ≤ k) ∧ Aside0 (Below w.heap.size w w'))
 case atStart => exact ⟨((⟨#[]⟩ : ByteArray)), (0), (by first | rfl | (simp; done) | (simp [*]; done)), (by first | rfl | (simp; done) | (simp [*]; done)), H', ⟨Nat.le_refl _⟩, ⟨gW_ HB.out⟩⟩
 case round =>
  clear H'
  try clear c1
  obtain ⟨x3_1, x4_1, rfl, rfl, HA, HK1, HB⟩ := hrel
  cases gk with
  | zero => exact absurd HA.out (by simp [spec_CodeText.l0])
  | succ k1 =>
   have H := HA.out
   clear HA
   simp only [spec_CodeText.l0] at H
   by_cases c2 : x4_1 < (l0.length : Int)
   ·rw [if_pos c2] at H
    have c2b0 : decide (x4_1 < (l0.length : Int)) = true := decide_eq_true c2
    clear c2
    replace H := Option.bind_eq_some_iff.mp H
    obtain ⟨t487, A30, H⟩ := H
    replace H : (if t487 = true then (if 0 ≤ x4_1 then ((spec_StepText.f k1 ((rd_T25 l0 x4_1).f0) ((rd_T25 l0 x4_1).f1) ((rd_T25 l0 x4_1).f2) ((rd_T25 l0 x4_1).f3) ((rd_T25 l0 x4_1).f4)).bind fun t489 => (if x3_1.size + t489.size ≤ 9223372036854775807 then (if (x3_1 ++ t489).size + 1 ≤ 9223372036854775807 then (spec_CodeText.l0 k1 l0 ((x3_1 ++ t489) ++ (⟨#[10]⟩ : ByteArray)) (wrap64 (x4_1 + 1))) else (none)) else (none))) else (none)) else (some x3_1)) = some r := H
    have A3 := aM_ A30
    clear A30
    by_cases c4 : t487 = true
    ·subst c4
     have H1 : (if 0 ≤ x4_1 then ((spec_StepText.f k1 ((rd_T25 l0 x4_1).f0) ((rd_T25 l0 x4_1).f1) ((rd_T25 l0 x4_1).f2) ((rd_T25 l0 x4_1).f3) ((rd_T25 l0 x4_1).f4)).bind fun t489 => (if x3_1.size + t489.size ≤ 9223372036854775807 then (if (x3_1 ++ t489).size + 1 ≤ 9223372036854775807 then (spec_CodeText.l0 k1 l0 ((x3_1 ++ t489) ++ (⟨#[10]⟩ : ByteArray)) (wrap64 (x4_1 + 1))) else (none)) else (none))) else (none)) = some r := by rw [if_pos rfl] at H; exact H
     clear H
     have H := H1
     clear H1
     by_cases c5 : 0 ≤ x4_1
     ·rw [if_pos c5] at H
      have c5b0 : decide (0 ≤ x4_1) = true := decide_eq_true c5
      clear c5
      replace H := Option.bind_eq_some_iff.mp H
      obtain ⟨t489, A60, H⟩ := H
      replace H : (if x3_1.size + t489.size ≤ 9223372036854775807 then (if (x3_1 ++ t489).size + 1 ≤ 9223372036854775807 then (spec_CodeText.l0 k1 l0 ((x3_1 ++ t489) ++ (⟨#[10]⟩ : ByteArray)) (wrap64 (x4_1 + 1))) else (none)) else (none)) = some r := H
      have A6 := aM_ A60
      clear A60
      by_cases c7 : x3_1.size + t489.size ≤ 9223372036854775807
      ·rw [if_pos c7] at H
       have c7b0 := eq_true c7
       have c7b1 : decide (x3_1.size + t489.size ≤ 9223372036854775807) = true := decide_eq_true c7
       try have c7b2 : (9223372036854775807 < x3_1.size + t489.size) = False := eq_false (Nat.not_lt.2 c7)
       by_cases c8 : (x3_1 ++ t489).size + 1 ≤ 9223372036854775807
       ·rw [if_pos c8] at H
        have c8b0 := eq_true c8
        have c8b1 : decide ((x3_1 ++ t489).size + 1 ≤ 9223372036854775807) = true := decide_eq_true c8
        (try (have c8n := c8; simp only [ByteArray.size_append, Tab.sz_mk, List.size_toArray, List.length_cons, List.length_nil, Nat.zero_add, Nat.reduceAdd] at c8n; have c8b4 := eq_true c8n; have c8b5 := eq_false (Nat.not_lt.2 c8n)))
        try have c8b2 : (9223372036854775807 < (x3_1 ++ t489).size + 1) = False := eq_false (Nat.not_lt.2 c8)
        have H' := aM_ H
        clear H
        go_wp2_with (first | (go_at_call 49; (with_reducible refine (spec_CodeOk.calls k1 _ _ l0 true _ ?side1 ?side2 A3.out).mono ?_); (case side1 => exact cS_ (Kd.C_below HR0.out HB.out)); (case side2 => exact HC0.out); rintro e w9 ⟨rfl, hb⟩; have n0 := aM_ (sT_ HB.out hb); clear HB; have HB := n0; clear n0; have p488 : 0 ≤ (x4_1 : Int) := of_decide_eq_true (by first | (with_reducible assumption) | assumption); have q488 : x4_1 < (l0.length : Int) := of_decide_eq_true (by first | (with_reducible assumption) | assumption); obtain ⟨ad488, e488, hx488_0, hx488_1, hx488_2, hx488_3, hx488_4⟩ := at_T25 HR0.out x4_1 p488 q488; cases e488; replace hx488_0 := cB_ HB.out hx488_0; replace hx488_1 := cB_ HB.out hx488_1; replace hx488_2 := cB_ HB.out hx488_2; replace hx488_3 := cB_ HB.out hx488_3; replace hx488_4 := cB_ HB.out hx488_4; replace p488 := eq_true p488; replace q488 := eq_true q488) | ((with_reducible refine gate_callee (f := 15) rfl ?_); refine gL_ (some 20) Tryd.func15 #[.agg #[.int .i64 ((rd_T25 l0 x4_1).f0), .int .i64 ((rd_T25 l0 x4_1).f1), .int .i64 ((rd_T25 l0 x4_1).f2), .int .i64 ((rd_T25 l0 x4_1).f3), .int .i64 ((rd_T25 l0 x4_1).f4)]] ?_; (with_reducible refine (spec_StepText.calls k1 ((rd_T25 l0 x4_1).f0) ((rd_T25 l0 x4_1).f1) ((rd_T25 l0 x4_1).f2) ((rd_T25 l0 x4_1).f3) ((rd_T25 l0 x4_1).f4) t489 _ A6.out).mono ?_); rintro e w10 ⟨rfl, hb⟩; refine ⟨_, rfl, ?_⟩; have n0 := aM_ (sT_ HB.out hb); clear HB; have HB := n0; clear n0))
        (all_goals try (exfalso; have e1_ : (⟨#[32]⟩ : ByteArray).size = 1 := rfl; have e2_ : (⟨#[10]⟩ : ByteArray).size = 1 := rfl; simp only [ByteArray.size_append] at c8; omega))
        go_roundg k1
        case measure => have := HK1.out; omega
        case rel => exact ⟨((x3_1 ++ t489) ++ (⟨#[10]⟩ : ByteArray)), (wrap64 (x4_1 + 1)), (by first | rfl | (simp; done) | (simp [*]; done)), (by first | rfl | (simp; done) | (simp [*]; done)), H', ⟨by have := HK1.out; omega⟩, ⟨gW_ HB.out⟩⟩
       ·rw [if_neg c8] at H
        exact absurd H (by simp)
      ·rw [if_neg c7] at H
       exact absurd H (by simp)
     ·rw [if_neg c5] at H
      exact absurd H (by simp)
    ·replace c4 := Bool.eq_false_iff.mpr c4
     subst c4
     have H1 : (some x3_1) = some r := by rw [if_neg (show ¬ (false = true) by decide)] at H; exact H
     clear H
     have H := H1
     clear H1
     obtain rfl := Option.some.inj H
     go_wp2_with (first | (go_at_call 49; (with_reducible refine (spec_CodeOk.calls k1 _ _ l0 false _ ?side1 ?side2 A3.out).mono ?_); (case side1 => exact cS_ (Kd.C_below HR0.out HB.out)); (case side2 => exact HC0.out); rintro e w11 ⟨rfl, hb⟩; have n0 := aM_ (sT_ HB.out hb); clear HB; have HB := n0; clear n0))
     go_ret
     exact fI_ HB.out
   ·rw [if_neg c2] at H
    have c2b0 : decide (x4_1 < (l0.length : Int)) = false := decide_eq_false c2
    clear c2
    obtain rfl := Option.some.inj H
    go_wp2
    go_ret
    exact fI_ HB.out
end Go.Proofs.YtdbobicbbfmepaaDoor.PFnTexts
