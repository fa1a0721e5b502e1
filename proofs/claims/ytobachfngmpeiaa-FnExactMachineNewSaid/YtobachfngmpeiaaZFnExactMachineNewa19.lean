/- A part of the proof that the law FnExactMachineNew holds for every input. -/
import Derived.Test.YtobachfngmpeiaaZFnExactMachineNewa7
import Derived.Test.YtobachfngmpeiaaZFnExactMachineNewa18
import Derived.Test.YtobachfngmpeiaaZFnExactMachineNews
namespace Go.Proofs.Ytobachfngmpeiaa.PFnExactMachineNew
open Go.RowKit Go.Proofs.YtobachfngmpeiaaW.PrintWords Go.Proofs.YtobachfngmpeiaaW.PrintLast Go.Proofs.YtobachfngmpeiaaW.PrintMore
attribute [local go_sem] max2_int min2_int max_two min_two max_three min_three max_four min_four   -- for this text's walks alone
set_option linter.unusedVariables false
set_option linter.unusedSimpArgs false
attribute [local go_sem high] eqA175
mutual
def spec_StepOk.j0 : Nat → Int → Bool → Int → Int → Int → Int → Int → Option (Bool)
  | 0, _, _, _, _, _, _, _ => none
  | k + 1, x1, x5, x140000, x140001, x140002, x140003, x140004 => (spec_l7Reg.f x140001).bind fun t140 => (if t140 = true then ((spec_l7Reg.f x140003).bind fun t141 => (if t141 = true then ((spec_l7Reg.f x140002).bind fun t142 => (if t142 = true then (spec_StepOk.j1 k x1 false x140000 x140001 x140002 x140003 x140004) else (if x5 = true then (spec_StepOk.j1 k x1 (x140002 != (-1)) x140000 x140001 x140002 x140003 x140004) else (spec_StepOk.j1 k x1 true x140000 x140001 x140002 x140003 x140004)))) else (spec_StepOk.j1 k x1 true x140000 x140001 x140002 x140003 x140004))) else (spec_StepOk.j1 k x1 true x140000 x140001 x140002 x140003 x140004))
def spec_StepOk.j1 : Nat → Int → Bool → Int → Int → Int → Int → Int → Option (Bool)
  | 0, _, _, _, _, _, _, _ => none
  | k + 1, x1, x45, x140000, x140001, x140002, x140003, x140004 => if x45 = true then (some false) else (if x140004 ≥ 0 then (spec_StepOk.j2 k (decide (x140004 < x1)) x140000 x140001 x140002 x140003 x140004) else (spec_StepOk.j2 k false x140000 x140001 x140002 x140003 x140004))
def spec_StepOk.j2 : Nat → Bool → Int → Int → Int → Int → Int → Option (Bool)
  | 0, _, _, _, _, _, _ => none
  | k + 1, x6, x140000, x140001, x140002, x140003, x140004 => (spec_l1In.f x140004 0 23).bind fun t143 => (if x140000 = 1 then ((spec_l1In.f x140004 (-1000000000) 1000000000).bind fun t144 => (if t144 = true then (if x140002 = 0 then (some (x140003 == 0)) else (some false)) else (some false))) else (if x140000 = 2 then (spec_StepOk.j3 k x6 t143 x140000 (x140000 == 2) x140000 x140001 x140002 x140003 x140004) else (if x140000 = 3 then (spec_StepOk.j3 k x6 t143 x140000 (x140000 == 3) x140000 x140001 x140002 x140003 x140004) else (spec_StepOk.j3 k x6 t143 x140000 (x140000 == 4) x140000 x140001 x140002 x140003 x140004))))
def spec_StepOk.j3 : Nat → Bool → Bool → Int → Bool → Int → Int → Int → Int → Int → Option (Bool)
  | 0, _, _, _, _, _, _, _, _, _ => none
  | k + 1, x6, x7, x59, x75, x140000, x140001, x140002, x140003, x140004 => if x75 = true then (some (x140004 == 0)) else (if x59 = 5 then (if x7 = true then (some (x140003 == 0)) else (some false)) else (if x59 = 6 then (spec_StepOk.j4 k x6 x7 x59 (x59 == 6) x140000 x140001 x140002 x140003 x140004) else (spec_StepOk.j4 k x6 x7 x59 (x59 == 7) x140000 x140001 x140002 x140003 x140004)))
def spec_StepOk.j4 : Nat → Bool → Bool → Int → Bool → Int → Int → Int → Int → Int → Option (Bool)
  | 0, _, _, _, _, _, _, _, _, _ => none
  | k + 1, x6, x7, x59, x90, x140000, x140001, x140002, x140003, x140004 => if x90 = true then (if x7 = true then (some (x140001 == 0)) else (some false)) else (if x59 = 8 then (if x7 = true then (some (x140002 == 0)) else (some false)) else (if x59 = 9 then (if x140001 = 0 then (if x140003 = 0 then (some (x140004 == 0)) else (some false)) else (some false)) else (if x59 = 10 then (if x6 = true then (if x140001 = 0 then (if x140002 = 0 then (some (x140003 == 0)) else (some false)) else (some false)) else (some false)) else (if x59 = 11 then (if x6 = true then (if x140001 = 0 then (some (x140003 == 0)) else (some false)) else (some false)) else (if x59 = 12 then (spec_StepOk.j5 k (x59 == 12) x140000 x140001 x140002 x140003 x140004) else (spec_StepOk.j5 k (x59 == 13) x140000 x140001 x140002 x140003 x140004))))))
def spec_StepOk.j5 : Nat → Bool → Int → Int → Int → Int → Int → Option (Bool)
  | 0, _, _, _, _, _, _ => none
  | k + 1, x153, x140000, x140001, x140002, x140003, x140004 => if x153 = true then (some (x140001 == 0 && (x140002 == 0 && (x140003 == 0 && (x140004 == 0))))) else (some false)
end
def spec_StepOk.f (k : Nat) (a0_0 : Int) (a0_1 : Int) (a0_2 : Int) (a0_3 : Int) (a0_4 : Int) (a1 : Int) : Option (Bool) := if a0_0 = 5 then (spec_StepOk.j0 k a1 true a0_0 a0_1 a0_2 a0_3 a0_4) else (if a0_0 = 6 then (spec_StepOk.j0 k a1 true a0_0 a0_1 a0_2 a0_3 a0_4) else (spec_StepOk.j0 k a1 (a0_0 == 7) a0_0 a0_1 a0_2 a0_3 a0_4))
set_option maxHeartbeats 8000000 in
set_option maxRecDepth 100000 in
theorem spec_StepOk.calls (k : Nat) (a0_0 : Int) (a0_1 : Int) (a0_2 : Int) (a0_3 : Int) (a0_4 : Int) (a1 : Int) (r : Bool) (w : World) (h : spec_StepOk.f k a0_0 a0_1 a0_2 a0_3 a0_4 a1 = some r) :
  Calls Try.prog 166 #[.agg #[.int .i64 a0_0, .int .i64 a0_1, .int .i64 a0_2, .int .i64 a0_3, .int .i64 a0_4], .int .i64 a1] w fun e w' => e = .returned (.bool r) ∧ Below w.heap.size w w' := by
 have hu175 := Try.underlying175
 have HB := aM_ (Below.refl w.heap.size w)
 have H : (if a0_0 = 5 then (spec_StepOk.j0 k a1 true a0_0 a0_1 a0_2 a0_3 a0_4) else (if a0_0 = 6 then (spec_StepOk.j0 k a1 true a0_0 a0_1 a0_2 a0_3 a0_4) else (spec_StepOk.j0 k a1 (a0_0 == 7) a0_0 a0_1 a0_2 a0_3 a0_4))) = some r := h
 clear h
 have HC3 := aM_ H
 clear H
 go_enter Try.func166, Try.ntmps166
 go_upto_region 1 with (first | ((with_reducible refine gate_dst (N := 2) rfl ?_); refine bX_ 2 (cs := #[.int .i64 a0_0, .int .i64 a0_1, .int .i64 a0_2, .int .i64 a0_3, .int .i64 a0_4]) (t := 175) ?_; intro gb139 hg w4 hbox hb; have BK139 := aM_ (hbox); have GE139 := aM_ (sZ_ hg HB.out); replace HB := aM_ (sT_ HB.out hb); clear hb hbox hg))
 (try simp only [Act.put, List.setIfInBounds_toArray, List.set_cons_zero, List.set_cons_succ])
 go_cut [5] (fun v5 wc => ∃ (kq : Nat) (x5_2 : Bool), v5 = .bool x5_2 ∧ Aside0 (spec_StepOk.j0 kq a1 x5_2 a0_0 a0_1 a0_2 a0_3 a0_4 = some r) ∧ Aside0 (kq ≤ k) ∧ Aside0 (wc.heap[gb139]? = some (.cells #[.int .i64 a0_0, .int .i64 a0_1, .int .i64 a0_2, .int .i64 a0_3, .int .i64 a0_4] 175 (0, 0))) ∧ Aside0 (Below w.heap.size w wc))
 case first =>
  have H := HC3.out
  clear HC3
  by_cases c5 : a0_0 = 5
  ·rw [if_pos c5] at H
   have c5b0 : (a0_0 == 5) = true := beq_iff_eq.mpr c5
   have c5b1 : (a0_0 != 5) = false := bne_eq_false_iff_eq.mpr c5
   clear c5
   (first | rw [c5b0] | (simp only [i64_w, i32_w]; rw [c5b0]) | skip)
   have H' := aM_ H
   clear H
   have z_6 := bR5_ BK139.out
   go_wp2
   go_meet
   case rel => exact ⟨_, (true), (by first | rfl | (simp; done) | (simp [*]; done)), H', ⟨by first | omega | exact Nat.le_refl _⟩, ⟨rW_ BK139.out⟩, ⟨gW_ HB.out⟩⟩
  ·rw [if_neg c5] at H
   have c5b0 : (a0_0 == 5) = false := beq_eq_false_iff_ne.mpr c5
   have c5b1 : (a0_0 != 5) = true := bne_iff_ne.mpr c5
   (first | rw [c5b0] | (simp only [i64_w, i32_w]; rw [c5b0]) | skip)
   by_cases c7 : a0_0 = 6
   ·rw [if_pos c7] at H
    have c7b0 : (a0_0 == 6) = true := beq_iff_eq.mpr c7
    have c7b1 : (a0_0 != 6) = false := bne_eq_false_iff_eq.mpr c7
    clear c7
    have H' := aM_ H
    clear H
    have z_8 := bR5_ BK139.out
    go_wp2
    go_meet
    case rel => exact ⟨_, (true), (by first | rfl | (simp; done) | (simp [*]; done)), H', ⟨by first | omega | exact Nat.le_refl _⟩, ⟨rW_ BK139.out⟩, ⟨gW_ HB.out⟩⟩
   ·rw [if_neg c7] at H
    have c7b0 : (a0_0 == 6) = false := beq_eq_false_iff_ne.mpr c7
    have c7b1 : (a0_0 != 6) = true := bne_iff_ne.mpr c7
    have H' := aM_ H
    clear H
    have z_9 := bR5_ BK139.out
    go_wp2
    go_meet
    case rel => exact ⟨_, ((a0_0 == 7)), (by first | rfl | (simp; done) | (simp [*]; done)), H', ⟨by first | omega | exact Nat.le_refl _⟩, ⟨rW_ BK139.out⟩, ⟨gW_ HB.out⟩⟩
 case rest =>
  clear HC3
  try clear c1
  try clear p2
  try clear c5
  try clear c5b0
  try clear c5b1
  try clear c7
  try clear c7b0
  try clear c7b1
  try clear z_6
  try clear z_8
  try clear z_9
  obtain ⟨kq, x5_2, rfl, HA, HJ2, BK139, HB⟩ := hcut
  cases kq with
  | zero => exact absurd HA.out (by simp [spec_StepOk.j0])
  | succ kj2 =>
   have H := HA.out
   clear HA
   simp only [spec_StepOk.j0] at H
   have HC10 := aM_ H
   clear H
   go_upto_region 2 with (fail)
   go_cut [45] (fun v45 wc => ∃ (kq : Nat) (x45_9 : Bool), v45 = .bool x45_9 ∧ Aside0 (spec_StepOk.j1 kq a1 x45_9 a0_0 a0_1 a0_2 a0_3 a0_4 = some r) ∧ Aside0 (kq ≤ kj2) ∧ Aside0 (wc.heap[gb139]? = some (.cells #[.int .i64 a0_0, .int .i64 a0_1, .int .i64 a0_2, .int .i64 a0_3, .int .i64 a0_4] 175 (0, 0))) ∧ Aside0 (Below w.heap.size w wc))
   case first =>
    have H := HC10.out
    clear HC10
    replace H := Option.bind_eq_some_iff.mp H
    obtain ⟨t140, A110, H⟩ := H
    replace H : (if t140 = true then ((spec_l7Reg.f a0_3).bind fun t141 => (if t141 = true then ((spec_l7Reg.f a0_2).bind fun t142 => (if t142 = true then (spec_StepOk.j1 kj2 a1 false a0_0 a0_1 a0_2 a0_3 a0_4) else (if x5_2 = true then (spec_StepOk.j1 kj2 a1 (a0_2 != (-1)) a0_0 a0_1 a0_2 a0_3 a0_4) else (spec_StepOk.j1 kj2 a1 true a0_0 a0_1 a0_2 a0_3 a0_4)))) else (spec_StepOk.j1 kj2 a1 true a0_0 a0_1 a0_2 a0_3 a0_4))) else (spec_StepOk.j1 kj2 a1 true a0_0 a0_1 a0_2 a0_3 a0_4)) = some r := H
    have A11 := aM_ A110
    clear A110
    by_cases c12 : t140 = true
    ·subst c12
     have H1 : ((spec_l7Reg.f a0_3).bind fun t141 => (if t141 = true then ((spec_l7Reg.f a0_2).bind fun t142 => (if t142 = true then (spec_StepOk.j1 kj2 a1 false a0_0 a0_1 a0_2 a0_3 a0_4) else (if x5_2 = true then (spec_StepOk.j1 kj2 a1 (a0_2 != (-1)) a0_0 a0_1 a0_2 a0_3 a0_4) else (spec_StepOk.j1 kj2 a1 true a0_0 a0_1 a0_2 a0_3 a0_4)))) else (spec_StepOk.j1 kj2 a1 true a0_0 a0_1 a0_2 a0_3 a0_4))) = some r := by rw [if_pos rfl] at H; exact H
     clear H
     have H := H1
     clear H1
     replace H := Option.bind_eq_some_iff.mp H
     obtain ⟨t141, A130, H⟩ := H
     replace H : (if t141 = true then ((spec_l7Reg.f a0_2).bind fun t142 => (if t142 = true then (spec_StepOk.j1 kj2 a1 false a0_0 a0_1 a0_2 a0_3 a0_4) else (if x5_2 = true then (spec_StepOk.j1 kj2 a1 (a0_2 != (-1)) a0_0 a0_1 a0_2 a0_3 a0_4) else (spec_StepOk.j1 kj2 a1 true a0_0 a0_1 a0_2 a0_3 a0_4)))) else (spec_StepOk.j1 kj2 a1 true a0_0 a0_1 a0_2 a0_3 a0_4)) = some r := H
     have A13 := aM_ A130
     clear A130
     by_cases c14 : t141 = true
     ·subst c14
      have H1 : ((spec_l7Reg.f a0_2).bind fun t142 => (if t142 = true then (spec_StepOk.j1 kj2 a1 false a0_0 a0_1 a0_2 a0_3 a0_4) else (if x5_2 = true then (spec_StepOk.j1 kj2 a1 (a0_2 != (-1)) a0_0 a0_1 a0_2 a0_3 a0_4) else (spec_StepOk.j1 kj2 a1 true a0_0 a0_1 a0_2 a0_3 a0_4)))) = some r := by rw [if_pos rfl] at H; exact H
      clear H
      have H := H1
      clear H1
      replace H := Option.bind_eq_some_iff.mp H
      obtain ⟨t142, A150, H⟩ := H
      replace H : (if t142 = true then (spec_StepOk.j1 kj2 a1 false a0_0 a0_1 a0_2 a0_3 a0_4) else (if x5_2 = true then (spec_StepOk.j1 kj2 a1 (a0_2 != (-1)) a0_0 a0_1 a0_2 a0_3 a0_4) else (spec_StepOk.j1 kj2 a1 true a0_0 a0_1 a0_2 a0_3 a0_4))) = some r := H
      have A15 := aM_ A150
      clear A150
      by_cases c16 : t142 = true
      ·subst c16
       have H1 : (spec_StepOk.j1 kj2 a1 false a0_0 a0_1 a0_2 a0_3 a0_4) = some r := by rw [if_pos rfl] at H; exact H
       clear H
       have H := H1
       clear H1
       have H' := aM_ H
       clear H
       have z_17 := bR5_ BK139.out
       go_wp2_with (first | ((with_reducible refine gate_callee (f := 186) rfl ?_); refine gL_ (some 23) Try.func186 #[.int .i64 a0_1] ?_; (with_reducible refine (spec_l7Reg.calls a0_1 true _ A11.out).mono ?_); rintro e w' ⟨rfl, ⟨nd, rfl⟩⟩; refine ⟨_, rfl, ?_⟩) | (go_at_call 186; (with_reducible refine (spec_l7Reg.calls a0_3 true _ A13.out).mono ?_); rintro e w' ⟨rfl, ⟨nd, rfl⟩⟩) | (go_at_call 186; (with_reducible refine (spec_l7Reg.calls a0_2 true _ A15.out).mono ?_); rintro e w' ⟨rfl, ⟨nd, rfl⟩⟩))
       go_meet
       case rel => exact ⟨_, (false), (by first | rfl | (simp; done) | (simp [*]; done)), H', ⟨by have := HJ2.out; first | omega | exact Nat.le_refl _⟩, ⟨rW_ BK139.out⟩, ⟨gW_ HB.out⟩⟩
      ·replace c16 := Bool.eq_false_iff.mpr c16
       subst c16
       have H1 : (if x5_2 = true then (spec_StepOk.j1 kj2 a1 (a0_2 != (-1)) a0_0 a0_1 a0_2 a0_3 a0_4) else (spec_StepOk.j1 kj2 a1 true a0_0 a0_1 a0_2 a0_3 a0_4)) = some r := by rw [if_neg (show ¬ (false = true) by decide)] at H; exact H
       clear H
       have H := H1
       clear H1
       by_cases c18 : x5_2 = true
       ·subst c18
        have H1 : (spec_StepOk.j1 kj2 a1 (a0_2 != (-1)) a0_0 a0_1 a0_2 a0_3 a0_4) = some r := by rw [if_pos rfl] at H; exact H
        clear H
        have H := H1
        clear H1
        have H' := aM_ H
        clear H
        have z_19 := bR5_ BK139.out
        go_wp2_with (first | ((with_reducible refine gate_callee (f := 186) rfl ?_); refine gL_ (some 23) Try.func186 #[.int .i64 a0_1] ?_; (with_reducible refine (spec_l7Reg.calls a0_1 true _ A11.out).mono ?_); rintro e w' ⟨rfl, ⟨nd, rfl⟩⟩; refine ⟨_, rfl, ?_⟩) | (go_at_call 186; (with_reducible refine (spec_l7Reg.calls a0_3 true _ A13.out).mono ?_); rintro e w' ⟨rfl, ⟨nd, rfl⟩⟩) | (go_at_call 186; (with_reducible refine (spec_l7Reg.calls a0_2 false _ A15.out).mono ?_); rintro e w' ⟨rfl, ⟨nd, rfl⟩⟩))
        go_meet
        case rel => exact ⟨_, ((a0_2 != (-1))), (by first | rfl | (simp; done) | (simp [*]; done)), H', ⟨by have := HJ2.out; first | omega | exact Nat.le_refl _⟩, ⟨rW_ BK139.out⟩, ⟨gW_ HB.out⟩⟩
       ·replace c18 := Bool.eq_false_iff.mpr c18
        subst c18
        have H1 : (spec_StepOk.j1 kj2 a1 true a0_0 a0_1 a0_2 a0_3 a0_4) = some r := by rw [if_neg (show ¬ (false = true) by decide)] at H; exact H
        clear H
        have H := H1
        clear H1
        have H' := aM_ H
        clear H
        have z_20 := bR5_ BK139.out
        go_wp2_with (first | ((with_reducible refine gate_callee (f := 186) rfl ?_); refine gL_ (some 23) Try.func186 #[.int .i64 a0_1] ?_; (with_reducible refine (spec_l7Reg.calls a0_1 true _ A11.out).mono ?_); rintro e w' ⟨rfl, ⟨nd, rfl⟩⟩; refine ⟨_, rfl, ?_⟩) | (go_at_call 186; (with_reducible refine (spec_l7Reg.calls a0_3 true _ A13.out).mono ?_); rintro e w' ⟨rfl, ⟨nd, rfl⟩⟩) | (go_at_call 186; (with_reducible refine (spec_l7Reg.calls a0_2 false _ A15.out).mono ?_); rintro e w' ⟨rfl, ⟨nd, rfl⟩⟩))
        go_meet
        case rel => exact ⟨_, (true), (by first | rfl | (simp; done) | (simp [*]; done)), H', ⟨by have := HJ2.out; first | omega | exact Nat.le_refl _⟩, ⟨rW_ BK139.out⟩, ⟨gW_ HB.out⟩⟩
     ·replace c14 := Bool.eq_false_iff.mpr c14
      subst c14
      have H1 : (spec_StepOk.j1 kj2 a1 true a0_0 a0_1 a0_2 a0_3 a0_4) = some r := by rw [if_neg (show ¬ (false = true) by decide)] at H; exact H
      clear H
      have H := H1
      clear H1
      have H' := aM_ H
      clear H
      have z_21 := bR5_ BK139.out
      go_wp2_with (first | ((with_reducible refine gate_callee (f := 186) rfl ?_); refine gL_ (some 23) Try.func186 #[.int .i64 a0_1] ?_; (with_reducible refine (spec_l7Reg.calls a0_1 true _ A11.out).mono ?_); rintro e w' ⟨rfl, ⟨nd, rfl⟩⟩; refine ⟨_, rfl, ?_⟩) | (go_at_call 186; (with_reducible refine (spec_l7Reg.calls a0_3 false _ A13.out).mono ?_); rintro e w' ⟨rfl, ⟨nd, rfl⟩⟩))
      go_meet
      case rel => exact ⟨_, (true), (by first | rfl | (simp; done) | (simp [*]; done)), H', ⟨by have := HJ2.out; first | omega | exact Nat.le_refl _⟩, ⟨rW_ BK139.out⟩, ⟨gW_ HB.out⟩⟩
    ·replace c12 := Bool.eq_false_iff.mpr c12
     subst c12
     have H1 : (spec_StepOk.j1 kj2 a1 true a0_0 a0_1 a0_2 a0_3 a0_4) = some r := by rw [if_neg (show ¬ (false = true) by decide)] at H; exact H
     clear H
     have H := H1
     clear H1
     have H' := aM_ H
     clear H
     have z_22 := bR5_ BK139.out
     go_wp2_with (first | ((with_reducible refine gate_callee (f := 186) rfl ?_); refine gL_ (some 23) Try.func186 #[.int .i64 a0_1] ?_; (with_reducible refine (spec_l7Reg.calls a0_1 false _ A11.out).mono ?_); rintro e w' ⟨rfl, ⟨nd, rfl⟩⟩; refine ⟨_, rfl, ?_⟩))
     go_meet
     case rel => exact ⟨_, (true), (by first | rfl | (simp; done) | (simp [*]; done)), H', ⟨by have := HJ2.out; first | omega | exact Nat.le_refl _⟩, ⟨rW_ BK139.out⟩, ⟨gW_ HB.out⟩⟩
   case rest =>
    clear HC10
    try clear c1
    try clear p2
    try clear c5
    try clear c5b0
    try clear c5b1
    try clear c7
    try clear c7b0
    try clear c7b1
    try clear c12
    try clear c14
    try clear c16
    try clear c18
    try clear z_17
    try clear z_19
    try clear z_20
    try clear z_21
    try clear z_22
    try clear z_6
    try clear z_8
    try clear z_9
    try clear p2
    obtain ⟨kq, x45_9, rfl, HA, HJ9, BK139, HB⟩ := hcut
    cases kq with
    | zero => exact absurd HA.out (by simp [spec_StepOk.j1])
    | succ kj9 =>
     have H := HA.out
     clear HA
     simp only [spec_StepOk.j1] at H
     by_cases c23 : x45_9 = true
     ·subst c23
      have H1 : (some false) = some r := by rw [if_pos rfl] at H; exact H
      clear H
      have H := H1
      clear H1
      obtain rfl := Option.some.inj H
      go_wp2
      go_ret
      exact fI_ HB.out
     ·replace c23 := Bool.eq_false_iff.mpr c23
      subst c23
      have H1 : (if a0_4 ≥ 0 then (spec_StepOk.j2 kj9 (decide (a0_4 < a1)) a0_0 a0_1 a0_2 a0_3 a0_4) else (spec_StepOk.j2 kj9 false a0_0 a0_1 a0_2 a0_3 a0_4)) = some r := by rw [if_neg (show ¬ (false = true) by decide)] at H; exact H
      clear H
      have H := H1
      clear H1
      have HC24 := aM_ H
      clear H
      go_upto_region 4 with (fail)
      go_cut [6] (fun v6 wc => ∃ (kq : Nat) (x6_23 : Bool), v6 = .bool x6_23 ∧ Aside0 (spec_StepOk.j2 kq x6_23 a0_0 a0_1 a0_2 a0_3 a0_4 = some r) ∧ Aside0 (kq ≤ kj9) ∧ Aside0 (wc.heap[gb139]? = some (.cells #[.int .i64 a0_0, .int .i64 a0_1, .int .i64 a0_2, .int .i64 a0_3, .int .i64 a0_4] 175 (0, 0))) ∧ Aside0 (Below w.heap.size w wc))
      case first =>
       have H := HC24.out
       clear HC24
       by_cases c25 : a0_4 ≥ 0
       ·rw [if_pos c25] at H
        have c25b0 : decide (0 ≤ a0_4) = true := decide_eq_true c25
        clear c25
        (first | rw [c25b0] | (simp only [i64_w, i32_w]; rw [c25b0]) | skip)
        have H' := aM_ H
        clear H
        have z_26 := bR5_ BK139.out
        go_wp2
        go_meet
        case rel => exact ⟨_, (decide (a0_4 < a1)), (by first | rfl | (simp; done) | (simp [*]; done)), H', ⟨by have := HJ2.out; have := HJ9.out; first | omega | exact Nat.le_refl _⟩, ⟨rW_ BK139.out⟩, ⟨gW_ HB.out⟩⟩
       ·rw [if_neg c25] at H
        have c25b0 : decide (0 ≤ a0_4) = false := decide_eq_false c25
        clear c25
        (first | rw [c25b0] | (simp only [i64_w, i32_w]; rw [c25b0]) | skip)
        have H' := aM_ H
        clear H
        have z_27 := bR5_ BK139.out
        go_wp2
        go_meet
        case rel => exact ⟨_, (false), (by first | rfl | (simp; done) | (simp [*]; done)), H', ⟨by have := HJ2.out; have := HJ9.out; first | omega | exact Nat.le_refl _⟩, ⟨rW_ BK139.out⟩, ⟨gW_ HB.out⟩⟩
      case rest =>
       clear HC24
       try clear c1
       try clear c2
       try clear p2
       try clear c5
       try clear c5b0
       try clear c5b1
       try clear c7
       try clear c7b0
       try clear c7b1
       try clear c12
       try clear c14
       try clear c16
       try clear c18
       try clear c23
       try clear c25
       try clear c25b0
       try clear z_17
       try clear z_19
       try clear z_20
       try clear z_21
       try clear z_22
       try clear z_26
       try clear z_27
       try clear z_6
       try clear z_8
       try clear z_9
       try clear p2
       obtain ⟨kq, x6_23, rfl, HA, HJ23, BK139, HB⟩ := hcut
       cases kq with
       | zero => exact absurd HA.out (by simp [spec_StepOk.j2])
       | succ kj23 =>
        have H := HA.out
        clear HA
        simp only [spec_StepOk.j2] at H
        replace H := Option.bind_eq_some_iff.mp H
        obtain ⟨t143, A280, H⟩ := H
        replace H : (if a0_0 = 1 then ((spec_l1In.f a0_4 (-1000000000) 1000000000).bind fun t144 => (if t144 = true then (if a0_2 = 0 then (some (a0_3 == 0)) else (some false)) else (some false))) else (if a0_0 = 2 then (spec_StepOk.j3 kj23 x6_23 t143 a0_0 (a0_0 == 2) a0_0 a0_1 a0_2 a0_3 a0_4) else (if a0_0 = 3 then (spec_StepOk.j3 kj23 x6_23 t143 a0_0 (a0_0 == 3) a0_0 a0_1 a0_2 a0_3 a0_4) else (spec_StepOk.j3 kj23 x6_23 t143 a0_0 (a0_0 == 4) a0_0 a0_1 a0_2 a0_3 a0_4)))) = some r := H
        have A28 := aM_ A280
        clear A280
        by_cases c29 : a0_0 = 1
        ·rw [if_pos c29] at H
         have c29b0 : (a0_0 == 1) = true := beq_iff_eq.mpr c29
         have c29b1 : (a0_0 != 1) = false := bne_eq_false_iff_eq.mpr c29
         clear c29
         replace H := Option.bind_eq_some_iff.mp H
         obtain ⟨t144, A300, H⟩ := H
         replace H : (if t144 = true then (if a0_2 = 0 then (some (a0_3 == 0)) else (some false)) else (some false)) = some r := H
         have A30 := aM_ A300
         clear A300
         by_cases c31 : t144 = true
         ·subst c31
          have H1 : (if a0_2 = 0 then (some (a0_3 == 0)) else (some false)) = some r := by rw [if_pos rfl] at H; exact H
          clear H
          have H := H1
          clear H1
          by_cases c32 : a0_2 = 0
          ·rw [if_pos c32] at H
           have c32b0 : (a0_2 == 0) = true := beq_iff_eq.mpr c32
           have c32b1 : (a0_2 != 0) = false := bne_eq_false_iff_eq.mpr c32
           clear c32
           obtain rfl := Option.some.inj H
           have z_33 := bR5_ BK139.out
           go_wp2_with (first | ((with_reducible refine gate_callee (f := 111) rfl ?_); refine gL_ (some 57) Try.func111 #[.int .i64 a0_4, .int .i64 0, .int .i64 23] ?_; (with_reducible refine (spec_l1In.calls a0_4 0 23 t143 _ A28.out).mono ?_); rintro e w' ⟨rfl, ⟨nd, rfl⟩⟩; refine ⟨_, rfl, ?_⟩) | ((with_reducible refine gate_callee (f := 111) rfl ?_); refine gL_ (some 64) Try.func111 #[.int .i64 a0_4, .int .i64 (-1000000000), .int .i64 1000000000] ?_; (with_reducible refine (spec_l1In.calls a0_4 (-1000000000) 1000000000 true _ A30.out).mono ?_); rintro e w' ⟨rfl, ⟨nd, rfl⟩⟩; refine ⟨_, rfl, ?_⟩))
           go_ret
           exact fI_ HB.out
          ·rw [if_neg c32] at H
           have c32b0 : (a0_2 == 0) = false := beq_eq_false_iff_ne.mpr c32
           have c32b1 : (a0_2 != 0) = true := bne_iff_ne.mpr c32
           obtain rfl := Option.some.inj H
           have z_34 := bR5_ BK139.out
           go_wp2_with (first | ((with_reducible refine gate_callee (f := 111) rfl ?_); refine gL_ (some 57) Try.func111 #[.int .i64 a0_4, .int .i64 0, .int .i64 23] ?_; (with_reducible refine (spec_l1In.calls a0_4 0 23 t143 _ A28.out).mono ?_); rintro e w' ⟨rfl, ⟨nd, rfl⟩⟩; refine ⟨_, rfl, ?_⟩) | ((with_reducible refine gate_callee (f := 111) rfl ?_); refine gL_ (some 64) Try.func111 #[.int .i64 a0_4, .int .i64 (-1000000000), .int .i64 1000000000] ?_; (with_reducible refine (spec_l1In.calls a0_4 (-1000000000) 1000000000 true _ A30.out).mono ?_); rintro e w' ⟨rfl, ⟨nd, rfl⟩⟩; refine ⟨_, rfl, ?_⟩))
           go_ret
           exact fI_ HB.out
         ·replace c31 := Bool.eq_false_iff.mpr c31
          subst c31
          have H1 : (some false) = some r := by rw [if_neg (show ¬ (false = true) by decide)] at H; exact H
          clear H
          have H := H1
          clear H1
          obtain rfl := Option.some.inj H
          have z_35 := bR5_ BK139.out
          go_wp2_with (first | ((with_reducible refine gate_callee (f := 111) rfl ?_); refine gL_ (some 57) Try.func111 #[.int .i64 a0_4, .int .i64 0, .int .i64 23] ?_; (with_reducible refine (spec_l1In.calls a0_4 0 23 t143 _ A28.out).mono ?_); rintro e w' ⟨rfl, ⟨nd, rfl⟩⟩; refine ⟨_, rfl, ?_⟩) | ((with_reducible refine gate_callee (f := 111) rfl ?_); refine gL_ (some 64) Try.func111 #[.int .i64 a0_4, .int .i64 (-1000000000), .int .i64 1000000000] ?_; (with_reducible refine (spec_l1In.calls a0_4 (-1000000000) 1000000000 false _ A30.out).mono ?_); rintro e w' ⟨rfl, ⟨nd, rfl⟩⟩; refine ⟨_, rfl, ?_⟩))
          go_ret
          exact fI_ HB.out
        ·rw [if_neg c29] at H
         have c29b0 : (a0_0 == 1) = false := beq_eq_false_iff_ne.mpr c29
         have c29b1 : (a0_0 != 1) = true := bne_iff_ne.mpr c29
         have HC36 := aM_ H
         clear H
         have z_37 := bR5_ BK139.out
         go_upto_if 75 with (first | ((with_reducible refine gate_callee (f := 111) rfl ?_); refine gL_ (some 57) Try.func111 #[.int .i64 a0_4, .int .i64 0, .int .i64 23] ?_; (with_reducible refine (spec_l1In.calls a0_4 0 23 t143 _ A28.out).mono ?_); rintro e w' ⟨rfl, ⟨nd, rfl⟩⟩; refine ⟨_, rfl, ?_⟩))
         (try simp only [Act.put, List.setIfInBounds_toArray, List.set_cons_zero, List.set_cons_succ])
         go_cut [75] (fun v75 wc => ∃ (kq : Nat) (x75_35 : Bool), v75 = .bool x75_35 ∧ Aside0 (spec_StepOk.j3 kq x6_23 t143 a0_0 x75_35 a0_0 a0_1 a0_2 a0_3 a0_4 = some r) ∧ Aside0 (kq ≤ kj23) ∧ Aside0 (wc.heap[gb139]? = some (.cells #[.int .i64 a0_0, .int .i64 a0_1, .int .i64 a0_2, .int .i64 a0_3, .int .i64 a0_4] 175 (0, 0))) ∧ Aside0 (Below w.heap.size w wc))
         case first =>
          have H := HC36.out
          clear HC36
          by_cases c38 : a0_0 = 2
          ·rw [if_pos c38] at H
           have c38b0 : (a0_0 == 2) = true := beq_iff_eq.mpr c38
           have c38b1 : (a0_0 != 2) = false := bne_eq_false_iff_eq.mpr c38
           clear c38
           (first | rw [c38b0] | (simp only [i64_w, i32_w]; rw [c38b0]) | skip)
           have H' := aM_ H
           clear H
           go_wp2
           go_meet
           case rel => exact ⟨_, ((a0_0 == 2)), (by first | rfl | (simp; done) | (simp [*]; done)), H', ⟨by have := HJ2.out; have := HJ9.out; have := HJ23.out; first | omega | exact Nat.le_refl _⟩, ⟨rW_ BK139.out⟩, ⟨gW_ HB.out⟩⟩
          ·rw [if_neg c38] at H
           have c38b0 : (a0_0 == 2) = false := beq_eq_false_iff_ne.mpr c38
           have c38b1 : (a0_0 != 2) = true := bne_iff_ne.mpr c38
           (first | rw [c38b0] | (simp only [i64_w, i32_w]; rw [c38b0]) | skip)
           by_cases c39 : a0_0 = 3
           ·rw [if_pos c39] at H
            have c39b0 : (a0_0 == 3) = true := beq_iff_eq.mpr c39
            have c39b1 : (a0_0 != 3) = false := bne_eq_false_iff_eq.mpr c39
            clear c39
            have H' := aM_ H
            clear H
            go_wp2
            go_meet
            case rel => exact ⟨_, ((a0_0 == 3)), (by first | rfl | (simp; done) | (simp [*]; done)), H', ⟨by have := HJ2.out; have := HJ9.out; have := HJ23.out; first | omega | exact Nat.le_refl _⟩, ⟨rW_ BK139.out⟩, ⟨gW_ HB.out⟩⟩
           ·rw [if_neg c39] at H
            have c39b0 : (a0_0 == 3) = false := beq_eq_false_iff_ne.mpr c39
            have c39b1 : (a0_0 != 3) = true := bne_iff_ne.mpr c39
            have H' := aM_ H
            clear H
            go_wp2
            go_meet
            case rel => exact ⟨_, ((a0_0 == 4)), (by first | rfl | (simp; done) | (simp [*]; done)), H', ⟨by have := HJ2.out; have := HJ9.out; have := HJ23.out; first | omega | exact Nat.le_refl _⟩, ⟨rW_ BK139.out⟩, ⟨gW_ HB.out⟩⟩
         case rest =>
          clear HC36
          try clear c1
          try clear c2
          try clear p2
          try clear c3
          try clear c5
          try clear c5b0
          try clear c5b1
          try clear c7
          try clear c7b0
          try clear c7b1
          try clear c11
          try clear c12
          try clear c14
          try clear c16
          try clear c18
          try clear c23
          try clear c25
          try clear c25b0
          try clear c29
          try clear c29b0
          try clear c29b1
          try clear c31
          try clear c32
          try clear c32b0
          try clear c32b1
          try clear c38
          try clear c38b0
          try clear c38b1
          try clear c39
          try clear c39b0
          try clear c39b1
          try clear z_17
          try clear z_19
          try clear z_20
          try clear z_21
          try clear z_22
          try clear z_26
          try clear z_27
          try clear z_33
          try clear z_34
          try clear z_35
          try clear z_37
          try clear z_6
          try clear z_8
          try clear z_9
          try clear p2
          obtain ⟨kq, x75_35, rfl, HA, HJ35, BK139, HB⟩ := hcut
          cases kq with
          | zero => exact absurd HA.out (by simp [spec_StepOk.j3])
          | succ kj35 =>
           have H := HA.out
           clear HA
           simp only [spec_StepOk.j3] at H
           by_cases c40 : x75_35 = true
           ·subst c40
            have H1 : (some (a0_4 == 0)) = some r := by rw [if_pos rfl] at H; exact H
            clear H
            have H := H1
            clear H1
            obtain rfl := Option.some.inj H
            have z_41 := bR5_ BK139.out
            go_wp2
            go_ret
            exact fI_ HB.out
           ·replace c40 := Bool.eq_false_iff.mpr c40
            subst c40
            have H1 : (if a0_0 = 5 then (if t143 = true then (some (a0_3 == 0)) else (some false)) else (if a0_0 = 6 then (spec_StepOk.j4 kj35 x6_23 t143 a0_0 (a0_0 == 6) a0_0 a0_1 a0_2 a0_3 a0_4) else (spec_StepOk.j4 kj35 x6_23 t143 a0_0 (a0_0 == 7) a0_0 a0_1 a0_2 a0_3 a0_4))) = some r := by rw [if_neg (show ¬ (false = true) by decide)] at H; exact H
            clear H
            have H := H1
            clear H1
            by_cases c42 : a0_0 = 5
            ·rw [if_pos c42] at H
             have c42b0 : (a0_0 == 5) = true := beq_iff_eq.mpr c42
             have c42b1 : (a0_0 != 5) = false := bne_eq_false_iff_eq.mpr c42
             clear c42
             by_cases c43 : t143 = true
             ·subst c43
              have H1 : (some (a0_3 == 0)) = some r := by rw [if_pos rfl] at H; exact H
              clear H
              have H := H1
              clear H1
              obtain rfl := Option.some.inj H
              have z_44 := bR5_ BK139.out
              go_wp2
              go_ret
              exact fI_ HB.out
             ·replace c43 := Bool.eq_false_iff.mpr c43
              subst c43
              have H1 : (some false) = some r := by rw [if_neg (show ¬ (false = true) by decide)] at H; exact H
              clear H
              have H := H1
              clear H1
              obtain rfl := Option.some.inj H
              go_wp2
              go_ret
              exact fI_ HB.out
            ·rw [if_neg c42] at H
             have c42b0 : (a0_0 == 5) = false := beq_eq_false_iff_ne.mpr c42
             have c42b1 : (a0_0 != 5) = true := bne_iff_ne.mpr c42
             have HC45 := aM_ H
             clear H
             go_upto_if 90 with (fail)
             go_cut [90] (fun v90 wc => ∃ (kq : Nat) (x90_44 : Bool), v90 = .bool x90_44 ∧ Aside0 (spec_StepOk.j4 kq x6_23 t143 a0_0 x90_44 a0_0 a0_1 a0_2 a0_3 a0_4 = some r) ∧ Aside0 (kq ≤ kj35) ∧ Aside0 (wc.heap[gb139]? = some (.cells #[.int .i64 a0_0, .int .i64 a0_1, .int .i64 a0_2, .int .i64 a0_3, .int .i64 a0_4] 175 (0, 0))) ∧ Aside0 (Below w.heap.size w wc))
             case first =>
              have H := HC45.out
              clear HC45
              by_cases c46 : a0_0 = 6
              ·rw [if_pos c46] at H
               have c46b0 : (a0_0 == 6) = true := beq_iff_eq.mpr c46
               have c46b1 : (a0_0 != 6) = false := bne_eq_false_iff_eq.mpr c46
               clear c46
               (first | rw [c46b0] | (simp only [i64_w, i32_w]; rw [c46b0]) | skip)
               have H' := aM_ H
               clear H
               go_wp2
               go_meet
               case rel => exact ⟨_, ((a0_0 == 6)), (by first | rfl | (simp; done) | (simp [*]; done)), H', ⟨by have := HJ2.out; have := HJ9.out; have := HJ23.out; have := HJ35.out; first | omega | exact Nat.le_refl _⟩, ⟨rW_ BK139.out⟩, ⟨gW_ HB.out⟩⟩
              ·rw [if_neg c46] at H
               have c46b0 : (a0_0 == 6) = false := beq_eq_false_iff_ne.mpr c46
               have c46b1 : (a0_0 != 6) = true := bne_iff_ne.mpr c46
               (first | rw [c46b0] | (simp only [i64_w, i32_w]; rw [c46b0]) | skip)
               have H' := aM_ H
               clear H
               go_wp2
               go_meet
               case rel => exact ⟨_, ((a0_0 == 7)), (by first | rfl | (simp; done) | (simp [*]; done)), H', ⟨by have := HJ2.out; have := HJ9.out; have := HJ23.out; have := HJ35.out; first | omega | exact Nat.le_refl _⟩, ⟨rW_ BK139.out⟩, ⟨gW_ HB.out⟩⟩
             case rest =>
              clear HC45
              try clear c1
              try clear c2
              try clear p2
              try clear c3
              try clear c4
              try clear c5
              try clear c5b0
              try clear c5b1
              try clear c7
              try clear c7b0
              try clear c7b1
              try clear c11
              try clear c12
              try clear c14
              try clear c16
              try clear c18
              try clear c23
              try clear c25
              try clear c25b0
              try clear c29
              try clear c29b0
              try clear c29b1
              try clear c31
              try clear c32
              try clear c32b0
              try clear c32b1
              try clear c38
              try clear c38b0
              try clear c38b1
              try clear c39
              try clear c39b0
              try clear c39b1
              try clear c40
              try clear c42
              try clear c42b0
              try clear c42b1
              try clear c43
              try clear c46
              try clear c46b0
              try clear c46b1
              try clear z_17
              try clear z_19
              try clear z_20
              try clear z_21
              try clear z_22
              try clear z_26
              try clear z_27
              try clear z_33
              try clear z_34
              try clear z_35
              try clear z_37
              try clear z_41
              try clear z_44
              try clear z_6
              try clear z_8
              try clear z_9
              try clear p2
              obtain ⟨kq, x90_44, rfl, HA, HJ44, BK139, HB⟩ := hcut
              cases kq with
              | zero => exact absurd HA.out (by simp [spec_StepOk.j4])
              | succ kj44 =>
               have H := HA.out
               clear HA
               simp only [spec_StepOk.j4] at H
               by_cases c47 : x90_44 = true
               ·subst c47
                have H1 : (if t143 = true then (some (a0_1 == 0)) else (some false)) = some r := by rw [if_pos rfl] at H; exact H
                clear H
                have H := H1
                clear H1
                by_cases c48 : t143 = true
                ·subst c48
                 have H1 : (some (a0_1 == 0)) = some r := by rw [if_pos rfl] at H; exact H
                 clear H
                 have H := H1
                 clear H1
                 obtain rfl := Option.some.inj H
                 have z_49 := bR5_ BK139.out
                 go_wp2
                 go_ret
                 exact fI_ HB.out
                ·replace c48 := Bool.eq_false_iff.mpr c48
                 subst c48
                 have H1 : (some false) = some r := by rw [if_neg (show ¬ (false = true) by decide)] at H; exact H
                 clear H
                 have H := H1
                 clear H1
                 obtain rfl := Option.some.inj H
                 go_wp2
                 go_ret
                 exact fI_ HB.out
               ·replace c47 := Bool.eq_false_iff.mpr c47
                subst c47
                have H1 : (if a0_0 = 8 then (if t143 = true then (some (a0_2 == 0)) else (some false)) else (if a0_0 = 9 then (if a0_1 = 0 then (if a0_3 = 0 then (some (a0_4 == 0)) else (some false)) else (some false)) else (if a0_0 = 10 then (if x6_23 = true then (if a0_1 = 0 then (if a0_2 = 0 then (some (a0_3 == 0)) else (some false)) else (some false)) else (some false)) else (if a0_0 = 11 then (if x6_23 = true then (if a0_1 = 0 then (some (a0_3 == 0)) else (some false)) else (some false)) else (if a0_0 = 12 then (spec_StepOk.j5 kj44 (a0_0 == 12) a0_0 a0_1 a0_2 a0_3 a0_4) else (spec_StepOk.j5 kj44 (a0_0 == 13) a0_0 a0_1 a0_2 a0_3 a0_4)))))) = some r := by rw [if_neg (show ¬ (false = true) by decide)] at H; exact H
                clear H
                have H := H1
                clear H1
                by_cases c50 : a0_0 = 8
                ·rw [if_pos c50] at H
                 have c50b0 : (a0_0 == 8) = true := beq_iff_eq.mpr c50
                 have c50b1 : (a0_0 != 8) = false := bne_eq_false_iff_eq.mpr c50
                 clear c50
                 by_cases c51 : t143 = true
                 ·subst c51
                  have H1 : (some (a0_2 == 0)) = some r := by rw [if_pos rfl] at H; exact H
                  clear H
                  have H := H1
                  clear H1
                  obtain rfl := Option.some.inj H
                  have z_52 := bR5_ BK139.out
                  go_wp2
                  go_ret
                  exact fI_ HB.out
                 ·replace c51 := Bool.eq_false_iff.mpr c51
                  subst c51
                  have H1 : (some false) = some r := by rw [if_neg (show ¬ (false = true) by decide)] at H; exact H
                  clear H
                  have H := H1
                  clear H1
                  obtain rfl := Option.some.inj H
                  go_wp2
                  go_ret
                  exact fI_ HB.out
                ·rw [if_neg c50] at H
                 have c50b0 : (a0_0 == 8) = false := beq_eq_false_iff_ne.mpr c50
                 have c50b1 : (a0_0 != 8) = true := bne_iff_ne.mpr c50
                 by_cases c53 : a0_0 = 9
                 ·rw [if_pos c53] at H
                  have c53b0 : (a0_0 == 9) = true := beq_iff_eq.mpr c53
                  have c53b1 : (a0_0 != 9) = false := bne_eq_false_iff_eq.mpr c53
                  clear c53
                  by_cases c54 : a0_1 = 0
                  ·rw [if_pos c54] at H
                   have c54b0 : (a0_1 == 0) = true := beq_iff_eq.mpr c54
                   have c54b1 : (a0_1 != 0) = false := bne_eq_false_iff_eq.mpr c54
                   clear c54
                   by_cases c55 : a0_3 = 0
                   ·rw [if_pos c55] at H
                    have c55b0 : (a0_3 == 0) = true := beq_iff_eq.mpr c55
                    have c55b1 : (a0_3 != 0) = false := bne_eq_false_iff_eq.mpr c55
                    clear c55
                    obtain rfl := Option.some.inj H
                    have z_56 := bR5_ BK139.out
                    go_wp2
                    go_ret
                    exact fI_ HB.out
                   ·rw [if_neg c55] at H
                    have c55b0 : (a0_3 == 0) = false := beq_eq_false_iff_ne.mpr c55
                    have c55b1 : (a0_3 != 0) = true := bne_iff_ne.mpr c55
                    obtain rfl := Option.some.inj H
                    have z_57 := bR5_ BK139.out
                    go_wp2
                    go_ret
                    exact fI_ HB.out
                  ·rw [if_neg c54] at H
                   have c54b0 : (a0_1 == 0) = false := beq_eq_false_iff_ne.mpr c54
                   have c54b1 : (a0_1 != 0) = true := bne_iff_ne.mpr c54
                   obtain rfl := Option.some.inj H
                   have z_58 := bR5_ BK139.out
                   go_wp2
                   go_ret
                   exact fI_ HB.out
                 ·rw [if_neg c53] at H
                  have c53b0 : (a0_0 == 9) = false := beq_eq_false_iff_ne.mpr c53
                  have c53b1 : (a0_0 != 9) = true := bne_iff_ne.mpr c53
                  by_cases c59 : a0_0 = 10
                  ·rw [if_pos c59] at H
                   have c59b0 : (a0_0 == 10) = true := beq_iff_eq.mpr c59
                   have c59b1 : (a0_0 != 10) = false := bne_eq_false_iff_eq.mpr c59
                   clear c59
                   by_cases c60 : x6_23 = true
                   ·subst c60
                    have H1 : (if a0_1 = 0 then (if a0_2 = 0 then (some (a0_3 == 0)) else (some false)) else (some false)) = some r := by rw [if_pos rfl] at H; exact H
                    clear H
                    have H := H1
                    clear H1
                    by_cases c61 : a0_1 = 0
                    ·rw [if_pos c61] at H
                     have c61b0 : (a0_1 == 0) = true := beq_iff_eq.mpr c61
                     have c61b1 : (a0_1 != 0) = false := bne_eq_false_iff_eq.mpr c61
                     clear c61
                     by_cases c62 : a0_2 = 0
                     ·rw [if_pos c62] at H
                      have c62b0 : (a0_2 == 0) = true := beq_iff_eq.mpr c62
                      have c62b1 : (a0_2 != 0) = false := bne_eq_false_iff_eq.mpr c62
                      clear c62
                      obtain rfl := Option.some.inj H
                      have z_63 := bR5_ BK139.out
                      go_wp2
                      go_ret
                      exact fI_ HB.out
                     ·rw [if_neg c62] at H
                      have c62b0 : (a0_2 == 0) = false := beq_eq_false_iff_ne.mpr c62
                      have c62b1 : (a0_2 != 0) = true := bne_iff_ne.mpr c62
                      obtain rfl := Option.some.inj H
                      have z_64 := bR5_ BK139.out
                      go_wp2
                      go_ret
                      exact fI_ HB.out
                    ·rw [if_neg c61] at H
                     have c61b0 : (a0_1 == 0) = false := beq_eq_false_iff_ne.mpr c61
                     have c61b1 : (a0_1 != 0) = true := bne_iff_ne.mpr c61
                     obtain rfl := Option.some.inj H
                     have z_65 := bR5_ BK139.out
                     go_wp2
                     go_ret
                     exact fI_ HB.out
                   ·replace c60 := Bool.eq_false_iff.mpr c60
                    subst c60
                    have H1 : (some false) = some r := by rw [if_neg (show ¬ (false = true) by decide)] at H; exact H
                    clear H
                    have H := H1
                    clear H1
                    obtain rfl := Option.some.inj H
                    go_wp2
                    go_ret
                    exact fI_ HB.out
                  ·rw [if_neg c59] at H
                   have c59b0 : (a0_0 == 10) = false := beq_eq_false_iff_ne.mpr c59
                   have c59b1 : (a0_0 != 10) = true := bne_iff_ne.mpr c59
                   by_cases c66 : a0_0 = 11
                   ·rw [if_pos c66] at H
                    have c66b0 : (a0_0 == 11) = true := beq_iff_eq.mpr c66
                    have c66b1 : (a0_0 != 11) = false := bne_eq_false_iff_eq.mpr c66
                    clear c66
                    by_cases c67 : x6_23 = true
                    ·subst c67
                     have H1 : (if a0_1 = 0 then (some (a0_3 == 0)) else (some false)) = some r := by rw [if_pos rfl] at H; exact H
                     clear H
                     have H := H1
                     clear H1
                     by_cases c68 : a0_1 = 0
                     ·rw [if_pos c68] at H
                      have c68b0 : (a0_1 == 0) = true := beq_iff_eq.mpr c68
                      have c68b1 : (a0_1 != 0) = false := bne_eq_false_iff_eq.mpr c68
                      clear c68
                      obtain rfl := Option.some.inj H
                      have z_69 := bR5_ BK139.out
                      go_wp2
                      go_ret
                      exact fI_ HB.out
                     ·rw [if_neg c68] at H
                      have c68b0 : (a0_1 == 0) = false := beq_eq_false_iff_ne.mpr c68
                      have c68b1 : (a0_1 != 0) = true := bne_iff_ne.mpr c68
                      obtain rfl := Option.some.inj H
                      have z_70 := bR5_ BK139.out
                      go_wp2
                      go_ret
                      exact fI_ HB.out
                    ·replace c67 := Bool.eq_false_iff.mpr c67
                     subst c67
                     have H1 : (some false) = some r := by rw [if_neg (show ¬ (false = true) by decide)] at H; exact H
                     clear H
                     have H := H1
                     clear H1
                     obtain rfl := Option.some.inj H
                     go_wp2
                     go_ret
                     exact fI_ HB.out
                   ·rw [if_neg c66] at H
                    have c66b0 : (a0_0 == 11) = false := beq_eq_false_iff_ne.mpr c66
                    have c66b1 : (a0_0 != 11) = true := bne_iff_ne.mpr c66
                    have HC71 := aM_ H
                    clear H
                    go_upto_if 153 with (fail)
                    go_cut [153] (fun v153 wc => ∃ (kq : Nat) (x153_70 : Bool), v153 = .bool x153_70 ∧ Aside0 (spec_StepOk.j5 kq x153_70 a0_0 a0_1 a0_2 a0_3 a0_4 = some r) ∧ Aside0 (kq ≤ kj44) ∧ Aside0 (wc.heap[gb139]? = some (.cells #[.int .i64 a0_0, .int .i64 a0_1, .int .i64 a0_2, .int .i64 a0_3, .int .i64 a0_4] 175 (0, 0))) ∧ Aside0 (Below w.heap.size w wc))
                    case first =>
                     have H := HC71.out
                     clear HC71
                     by_cases c72 : a0_0 = 12
                     ·rw [if_pos c72] at H
                      have c72b0 : (a0_0 == 12) = true := beq_iff_eq.mpr c72
                      have c72b1 : (a0_0 != 12) = false := bne_eq_false_iff_eq.mpr c72
                      clear c72
                      (first | rw [c72b0] | (simp only [i64_w, i32_w]; rw [c72b0]) | skip)
                      have H' := aM_ H
                      clear H
                      go_wp2
                      go_meet
                      case rel => exact ⟨_, ((a0_0 == 12)), (by first | rfl | (simp; done) | (simp [*]; done)), H', ⟨by have := HJ2.out; have := HJ9.out; have := HJ23.out; have := HJ35.out; have := HJ44.out; first | omega | exact Nat.le_refl _⟩, ⟨rW_ BK139.out⟩, ⟨gW_ HB.out⟩⟩
                     ·rw [if_neg c72] at H
                      have c72b0 : (a0_0 == 12) = false := beq_eq_false_iff_ne.mpr c72
                      have c72b1 : (a0_0 != 12) = true := bne_iff_ne.mpr c72
                      (first | rw [c72b0] | (simp only [i64_w, i32_w]; rw [c72b0]) | skip)
                      have H' := aM_ H
                      clear H
                      go_wp2
                      go_meet
                      case rel => exact ⟨_, ((a0_0 == 13)), (by first | rfl | (simp; done) | (simp [*]; done)), H', ⟨by have := HJ2.out; have := HJ9.out; have := HJ23.out; have := HJ35.out; have := HJ44.out; first | omega | exact Nat.le_refl _⟩, ⟨rW_ BK139.out⟩, ⟨gW_ HB.out⟩⟩
                    case rest =>
                     clear HC71
                     try clear c1
                     try clear c2
                     try clear p2
                     try clear c3
                     try clear c4
                     try clear c5
                     try clear c5b0
                     try clear c5b1
                     try clear c6
                     try clear c7
                     try clear c7b0
                     try clear c7b1
                     try clear c11
                     try clear c12
                     try clear c14
                     try clear c16
                     try clear c18
                     try clear c23
                     try clear c25
                     try clear c25b0
                     try clear c29
                     try clear c29b0
                     try clear c29b1
                     try clear c31
                     try clear c32
                     try clear c32b0
                     try clear c32b1
                     try clear c38
                     try clear c38b0
                     try clear c38b1
                     try clear c39
                     try clear c39b0
                     try clear c39b1
                     try clear c40
                     try clear c42
                     try clear c42b0
                     try clear c42b1
                     try clear c43
                     try clear c46
                     try clear c46b0
                     try clear c46b1
                     try clear c47
                     try clear c48
                     try clear c50
                     try clear c50b0
                     try clear c50b1
                     try clear c51
                     try clear c53
                     try clear c53b0
                     try clear c53b1
                     try clear c54
                     try clear c54b0
                     try clear c54b1
                     try clear c55
                     try clear c55b0
                     try clear c55b1
                     try clear c59
                     try clear c59b0
                     try clear c59b1
                     try clear c60
                     try clear c61
                     try clear c61b0
                     try clear c61b1
                     try clear c62
                     try clear c62b0
                     try clear c62b1
                     try clear c66
                     try clear c66b0
                     try clear c66b1
                     try clear c67
                     try clear c68
                     try clear c68b0
                     try clear c68b1
                     try clear c72
                     try clear c72b0
                     try clear c72b1
                     try clear z_17
                     try clear z_19
                     try clear z_20
                     try clear z_21
                     try clear z_22
                     try clear z_26
                     try clear z_27
                     try clear z_33
                     try clear z_34
                     try clear z_35
                     try clear z_37
                     try clear z_41
                     try clear z_44
                     try clear z_49
                     try clear z_52
                     try clear z_56
                     try clear z_57
                     try clear z_58
                     try clear z_63
                     try clear z_64
                     try clear z_65
                     try clear z_69
                     try clear z_6
                     try clear z_70
                     try clear z_8
                     try clear z_9
                     try clear p2
                     obtain ⟨kq, x153_70, rfl, HA, HJ70, BK139, HB⟩ := hcut
                     cases kq with
                     | zero => exact absurd HA.out (by simp [spec_StepOk.j5])
                     | succ kj70 =>
                      have H := HA.out
                      clear HA
                      simp only [spec_StepOk.j5] at H
                      by_cases c73 : x153_70 = true
                      ·subst c73
                       have H1 : (some (a0_1 == 0 && (a0_2 == 0 && (a0_3 == 0 && (a0_4 == 0))))) = some r := by rw [if_pos rfl] at H; exact H
                       clear H
                       have H := H1
                       clear H1
                       obtain rfl := Option.some.inj H
                       have z_74 := bR5_ BK139.out
                       go_wp2
                       go_ret
                       exact fI_ HB.out
                      ·replace c73 := Bool.eq_false_iff.mpr c73
                       subst c73
                       have H1 : (some false) = some r := by rw [if_neg (show ¬ (false = true) by decide)] at H; exact H
                       clear H
                       have H := H1
                       clear H1
                       obtain rfl := Option.some.inj H
                       go_wp2
                       go_ret
                       exact fI_ HB.out
end Go.Proofs.Ytobachfngmpeiaa.PFnExactMachineNew
namespace Go.Proofs.Ytobachfngmpeiaa.PFnExactMachineNew
open Go.RowKit Go.Proofs.YtobachfngmpeiaaW.PrintWords Go.Proofs.YtobachfngmpeiaaW.PrintLast Go.Proofs.YtobachfngmpeiaaW.PrintMore
attribute [local go_sem] max2_int min2_int max_two min_two max_three min_three max_four min_four   -- for this text's walks alone
set_option linter.unusedVariables false
set_option linter.unusedSimpArgs false
def spec_CodeOk.l0 : Nat → List (S175) → Int → Int → Option (Bool)
  | 0, _, _, _ => none
  | k + 1, x0, x3, x4 => if x4 < x3 then (if 0 ≤ x4 then (if x4 < (x0.length : Int) then ((spec_StepOk.f k ((rd_T175 x0 x4).f0) ((rd_T175 x0 x4).f1) ((rd_T175 x0 x4).f2) ((rd_T175 x0 x4).f3) ((rd_T175 x0 x4).f4) x3).bind fun t148 => (if t148 = true then (spec_CodeOk.l0 k x0 x3 (wrap64 (x4 + 1))) else (some false))) else (none)) else (none)) else (if 0 ≤ (wrap64 (x3 - 1)) then (if (wrap64 (x3 - 1)) < (x0.length : Int) then (if ((rd_T175 x0 (wrap64 (x3 - 1))).f0) = 10 then (some true) else (if ((rd_T175 x0 (wrap64 (x3 - 1))).f0) = 12 then (some true) else (some (((rd_T175 x0 (wrap64 (x3 - 1))).f0) == 13)))) else (none)) else (none))
def spec_CodeOk.f (k : Nat) (l0 : List (S175)) : Option (Bool) := (spec_l1In.f (l0.length : Int) 1 800).bind fun t145 => (if t145 = true then (spec_CodeOk.l0 k l0 (l0.length : Int) 0) else (some false))
set_option maxHeartbeats 8000000 in
set_option maxRecDepth 100000 in
theorem spec_CodeOk.calls (k : Nat) (A0 : Option Addr) (c0 : Nat) (l0 : List (S175)) (r : Bool) (w : World) (hr0 : Kd.C k175 w A0 l0.length l0) (hc0 : l0.length ≤ c0) (h : spec_CodeOk.f k l0 = some r) :
  Calls Try.prog 132 #[.slice A0 l0.length c0] w fun e w' => e = .returned (.bool r) ∧ Below w.heap.size w w' := by
 have hu175 := Try.underlying175
 have HR0 := aM_ hr0
 have HC0 := aM_ hc0
 clear hr0 hc0
 have HB := aM_ (Below.refl w.heap.size w)
 have H : ((spec_l1In.f (l0.length : Int) 1 800).bind fun t145 => (if t145 = true then (spec_CodeOk.l0 k l0 (l0.length : Int) 0) else (some false))) = some r := h
 clear h
 replace H := Option.bind_eq_some_iff.mp H
 obtain ⟨t145, A20, H⟩ := H
 replace H : (if t145 = true then (spec_CodeOk.l0 k l0 (l0.length : Int) 0) else (some false)) = some r := H
 have A2 := aM_ A20
 clear A20
 by_cases c3 : t145 = true
 ·subst c3
  have H1 : (spec_CodeOk.l0 k l0 (l0.length : Int) 0) = some r := by rw [if_pos rfl] at H; exact H
  clear H
  have H := H1
  clear H1
  have H' := aM_ H
  clear H
  go_enter Try.func132, Try.ntmps132
  go_wp2_with (first | ((with_reducible refine gate_callee (f := 111) rfl ?_); refine gL_ (some 9) Try.func111 #[.int .i64 (l0.length : Int), .int .i64 1, .int .i64 800] ?_; (with_reducible refine (spec_l1In.calls (l0.length : Int) 1 800 true _ A2.out).mono ?_); rintro e w' ⟨rfl, ⟨nd, rfl⟩⟩; refine ⟨_, rfl, ?_⟩))
  go_loopg [4] k (fun kq v4 w' => ∃ (x4_1 : Int), v4 = .int .i64 x4_1 ∧ Aside0 (spec_CodeOk.l0 kq l0 (l0.length : Int) x4_1 = some r) ∧ Aside0 (kq ≤ k) ∧ Aside0 (Below w.heap.size w w'))
  case atStart => exact ⟨(0), (by first | rfl | (simp; done) | (simp [*]; done)), H', ⟨Nat.le_refl _⟩, ⟨gW_ HB.out⟩⟩
  case round =>
   clear H'
   try clear c1
   try clear p2
   try clear c3
   obtain ⟨x4_1, rfl, HA, HK1, HB⟩ := hrel
   cases gk with
   | zero => exact absurd HA.out (by simp [spec_CodeOk.l0])
   | succ k1 =>
    have H := HA.out
    clear HA
    simp only [spec_CodeOk.l0] at H
    by_cases c4 : x4_1 < (l0.length : Int)
    ·rw [if_pos c4] at H
     have c4b0 : decide (x4_1 < (l0.length : Int)) = true := decide_eq_true c4
     clear c4
     by_cases c5 : 0 ≤ x4_1
     ·rw [if_pos c5] at H
      have c5b0 : decide (0 ≤ x4_1) = true := decide_eq_true c5
      clear c5
      by_cases c6 : x4_1 < (l0.length : Int)
      ·rw [if_pos c6] at H
       have c6b0 : decide (x4_1 < (l0.length : Int)) = true := decide_eq_true c6
       clear c6
       replace H := Option.bind_eq_some_iff.mp H
       obtain ⟨t148, A70, H⟩ := H
       replace H : (if t148 = true then (spec_CodeOk.l0 k1 l0 (l0.length : Int) (wrap64 (x4_1 + 1))) else (some false)) = some r := H
       have A7 := aM_ A70
       clear A70
       by_cases c8 : t148 = true
       ·subst c8
        have H1 : (spec_CodeOk.l0 k1 l0 (l0.length : Int) (wrap64 (x4_1 + 1))) = some r := by rw [if_pos rfl] at H; exact H
        clear H
        have H := H1
        clear H1
        have H' := aM_ H
        clear H
        have p147 : 0 ≤ (x4_1 : Int) := of_decide_eq_true (by first | (with_reducible assumption) | assumption)
        have q147 : x4_1 < (l0.length : Int) := of_decide_eq_true (by first | (with_reducible assumption) | assumption)
        obtain ⟨ad147, e147, hx147_0, hx147_1, hx147_2, hx147_3, hx147_4⟩ := at_T175 HR0.out x4_1 p147 q147
        cases e147
        replace hx147_0 := cB_ HB.out hx147_0
        replace hx147_1 := cB_ HB.out hx147_1
        replace hx147_2 := cB_ HB.out hx147_2
        replace hx147_3 := cB_ HB.out hx147_3
        replace hx147_4 := cB_ HB.out hx147_4
        replace p147 := eq_true p147
        replace q147 := eq_true q147
        go_wp2_with (first | ((with_reducible refine gate_callee (f := 166) rfl ?_); refine gL_ (some 21) Try.func166 #[.agg #[.int .i64 ((rd_T175 l0 x4_1).f0), .int .i64 ((rd_T175 l0 x4_1).f1), .int .i64 ((rd_T175 l0 x4_1).f2), .int .i64 ((rd_T175 l0 x4_1).f3), .int .i64 ((rd_T175 l0 x4_1).f4)], .int .i64 (l0.length : Int)] ?_; (with_reducible refine (spec_StepOk.calls k1 ((rd_T175 l0 x4_1).f0) ((rd_T175 l0 x4_1).f1) ((rd_T175 l0 x4_1).f2) ((rd_T175 l0 x4_1).f3) ((rd_T175 l0 x4_1).f4) (l0.length : Int) true _ A7.out).mono ?_); rintro e w9 ⟨rfl, hb⟩; refine ⟨_, rfl, ?_⟩; replace HB := aM_ (sT_ HB.out hb)))
        go_roundg k1
        case measure => have := HK1.out; omega
        case rel => exact ⟨(wrap64 (x4_1 + 1)), (by first | rfl | (simp; done) | (simp [*]; done)), H', ⟨by have := HK1.out; omega⟩, ⟨gW_ HB.out⟩⟩
       ·replace c8 := Bool.eq_false_iff.mpr c8
        subst c8
        have H1 : (some false) = some r := by rw [if_neg (show ¬ (false = true) by decide)] at H; exact H
        clear H
        have H := H1
        clear H1
        obtain rfl := Option.some.inj H
        have p147 : 0 ≤ (x4_1 : Int) := of_decide_eq_true (by first | (with_reducible assumption) | assumption)
        have q147 : x4_1 < (l0.length : Int) := of_decide_eq_true (by first | (with_reducible assumption) | assumption)
        obtain ⟨ad147, e147, hx147_0, hx147_1, hx147_2, hx147_3, hx147_4⟩ := at_T175 HR0.out x4_1 p147 q147
        cases e147
        replace hx147_0 := cB_ HB.out hx147_0
        replace hx147_1 := cB_ HB.out hx147_1
        replace hx147_2 := cB_ HB.out hx147_2
        replace hx147_3 := cB_ HB.out hx147_3
        replace hx147_4 := cB_ HB.out hx147_4
        replace p147 := eq_true p147
        replace q147 := eq_true q147
        go_wp2_with (first | ((with_reducible refine gate_callee (f := 166) rfl ?_); refine gL_ (some 21) Try.func166 #[.agg #[.int .i64 ((rd_T175 l0 x4_1).f0), .int .i64 ((rd_T175 l0 x4_1).f1), .int .i64 ((rd_T175 l0 x4_1).f2), .int .i64 ((rd_T175 l0 x4_1).f3), .int .i64 ((rd_T175 l0 x4_1).f4)], .int .i64 (l0.length : Int)] ?_; (with_reducible refine (spec_StepOk.calls k1 ((rd_T175 l0 x4_1).f0) ((rd_T175 l0 x4_1).f1) ((rd_T175 l0 x4_1).f2) ((rd_T175 l0 x4_1).f3) ((rd_T175 l0 x4_1).f4) (l0.length : Int) false _ A7.out).mono ?_); rintro e w10 ⟨rfl, hb⟩; refine ⟨_, rfl, ?_⟩; replace HB := aM_ (sT_ HB.out hb)))
        go_ret
        exact fI_ HB.out
      ·rw [if_neg c6] at H
       exact absurd H (by simp)
     ·rw [if_neg c5] at H
      exact absurd H (by simp)
    ·rw [if_neg c4] at H
     have c4b0 : decide (x4_1 < (l0.length : Int)) = false := decide_eq_false c4
     clear c4
     obtain ⟨ji11, hji11⟩ : ∃ j_ : Int, (wrap64 ((l0.length : Int) - 1)) = j_ := ⟨_, rfl⟩
     replace H : (if 0 ≤ (ji11) then (if (ji11) < (l0.length : Int) then (if ((rd_T175 l0 (ji11)).f0) = 10 then (some true) else (if ((rd_T175 l0 (ji11)).f0) = 12 then (some true) else (some (((rd_T175 l0 (ji11)).f0) == 13)))) else (none)) else (none)) = some r := by first | (rw [hji11] at H; exact H) | (simp only [hji11] at H ⊢; exact H)
     have hji11w : (IntKind.i64.wrap ((l0.length : Int) - 1)) = ji11 := (i64_w _).trans hji11
     by_cases c12 : 0 ≤ (ji11)
     ·rw [if_pos c12] at H
      have c12b0 : decide (0 ≤ (ji11)) = true := decide_eq_true c12
      clear c12
      by_cases c13 : (ji11) < (l0.length : Int)
      ·rw [if_pos c13] at H
       have c13b0 : decide ((ji11) < (l0.length : Int)) = true := decide_eq_true c13
       clear c13
       by_cases c14 : ((rd_T175 l0 (ji11)).f0) = 10
       ·rw [if_pos c14] at H
        have c14b0 : (((rd_T175 l0 (ji11)).f0) == 10) = true := beq_iff_eq.mpr c14
        have c14b1 : (((rd_T175 l0 (ji11)).f0) != 10) = false := bne_eq_false_iff_eq.mpr c14
        clear c14
        obtain rfl := Option.some.inj H
        have p146 : 0 ≤ ((ji11) : Int) := of_decide_eq_true (by first | (with_reducible assumption) | assumption)
        have q146 : (ji11) < (l0.length : Int) := of_decide_eq_true (by first | (with_reducible assumption) | assumption)
        obtain ⟨ad146, e146, hx146_0, hx146_1, hx146_2, hx146_3, hx146_4⟩ := at_T175 HR0.out (ji11) p146 q146
        cases e146
        replace hx146_0 := cB_ HB.out hx146_0
        replace hx146_1 := cB_ HB.out hx146_1
        replace hx146_2 := cB_ HB.out hx146_2
        replace hx146_3 := cB_ HB.out hx146_3
        replace hx146_4 := cB_ HB.out hx146_4
        replace p146 := eq_true p146
        replace q146 := eq_true q146
        go_wp2
        go_ret
        exact ⟨by first | rfl | (simp [errW_none, errW_some] <;> rfl) | (simp only [← hji11]; first | rfl | (simp [errW_none, errW_some] <;> rfl)) | (simp [*, errW_none, errW_some] <;> rfl), gB_ HB.out⟩
       ·rw [if_neg c14] at H
        have c14b0 : (((rd_T175 l0 (ji11)).f0) == 10) = false := beq_eq_false_iff_ne.mpr c14
        have c14b1 : (((rd_T175 l0 (ji11)).f0) != 10) = true := bne_iff_ne.mpr c14
        by_cases c15 : ((rd_T175 l0 (ji11)).f0) = 12
        ·rw [if_pos c15] at H
         have c15b0 : (((rd_T175 l0 (ji11)).f0) == 12) = true := beq_iff_eq.mpr c15
         have c15b1 : (((rd_T175 l0 (ji11)).f0) != 12) = false := bne_eq_false_iff_eq.mpr c15
         clear c15
         obtain rfl := Option.some.inj H
         have p146 : 0 ≤ ((ji11) : Int) := of_decide_eq_true (by first | (with_reducible assumption) | assumption)
         have q146 : (ji11) < (l0.length : Int) := of_decide_eq_true (by first | (with_reducible assumption) | assumption)
         obtain ⟨ad146, e146, hx146_0, hx146_1, hx146_2, hx146_3, hx146_4⟩ := at_T175 HR0.out (ji11) p146 q146
         cases e146
         replace hx146_0 := cB_ HB.out hx146_0
         replace hx146_1 := cB_ HB.out hx146_1
         replace hx146_2 := cB_ HB.out hx146_2
         replace hx146_3 := cB_ HB.out hx146_3
         replace hx146_4 := cB_ HB.out hx146_4
         replace p146 := eq_true p146
         replace q146 := eq_true q146
         go_wp2
         go_ret
         exact ⟨by first | rfl | (simp [errW_none, errW_some] <;> rfl) | (simp only [← hji11]; first | rfl | (simp [errW_none, errW_some] <;> rfl)) | (simp [*, errW_none, errW_some] <;> rfl), gB_ HB.out⟩
        ·rw [if_neg c15] at H
         have c15b0 : (((rd_T175 l0 (ji11)).f0) == 12) = false := beq_eq_false_iff_ne.mpr c15
         have c15b1 : (((rd_T175 l0 (ji11)).f0) != 12) = true := bne_iff_ne.mpr c15
         obtain rfl := Option.some.inj H
         have p146 : 0 ≤ ((ji11) : Int) := of_decide_eq_true (by first | (with_reducible assumption) | assumption)
         have q146 : (ji11) < (l0.length : Int) := of_decide_eq_true (by first | (with_reducible assumption) | assumption)
         obtain ⟨ad146, e146, hx146_0, hx146_1, hx146_2, hx146_3, hx146_4⟩ := at_T175 HR0.out (ji11) p146 q146
         cases e146
         replace hx146_0 := cB_ HB.out hx146_0
         replace hx146_1 := cB_ HB.out hx146_1
         replace hx146_2 := cB_ HB.out hx146_2
         replace hx146_3 := cB_ HB.out hx146_3
         replace hx146_4 := cB_ HB.out hx146_4
         replace p146 := eq_true p146
         replace q146 := eq_true q146
         go_wp2
         go_ret
         exact ⟨by first | rfl | (simp [errW_none, errW_some] <;> rfl) | (simp only [← hji11]; first | rfl | (simp [errW_none, errW_some] <;> rfl)) | (simp [*, errW_none, errW_some] <;> rfl), gB_ HB.out⟩
      ·rw [if_neg c13] at H
       exact absurd H (by simp)
     ·rw [if_neg c12] at H
      exact absurd H (by simp)
 ·replace c3 := Bool.eq_false_iff.mpr c3
  subst c3
  have H1 : (some false) = some r := by rw [if_neg (show ¬ (false = true) by decide)] at H; exact H
  clear H
  have H := H1
  clear H1
  obtain rfl := Option.some.inj H
  go_enter Try.func132, Try.ntmps132
  go_wp2_with (first | ((with_reducible refine gate_callee (f := 111) rfl ?_); refine gL_ (some 9) Try.func111 #[.int .i64 (l0.length : Int), .int .i64 1, .int .i64 800] ?_; (with_reducible refine (spec_l1In.calls (l0.length : Int) 1 800 false _ A2.out).mono ?_); rintro e w' ⟨rfl, ⟨nd, rfl⟩⟩; refine ⟨_, rfl, ?_⟩))
  go_ret
  exact fI_ HB.out
end Go.Proofs.Ytobachfngmpeiaa.PFnExactMachineNew
