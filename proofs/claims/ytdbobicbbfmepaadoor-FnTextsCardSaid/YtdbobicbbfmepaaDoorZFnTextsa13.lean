/- A part of the proof that the law FnTexts holds for every input: the words, functions and walks that its row needs, without a condition of their own. -/
import Derived.Test.YtdbobicbbfmepaaDoorZFnTextsa4
import Derived.Test.YtdbobicbbfmepaaDoorZFnTextsa7
import Derived.Test.YtdbobicbbfmepaaDoorZFnTextsa12
import Derived.Test.YtdbobicbbfmepaaDoorZFnTextss
namespace Go.Proofs.YtdbobicbbfmepaaDoor.PFnTexts
open Go.RowKit Go.Proofs.YtdbobicbbfmepaaDoorW.PrintWords Go.Proofs.YtdbobicbbfmepaaDoorW.PrintLast Go.Proofs.YtdbobicbbfmepaaDoorW.PrintMore
attribute [local go_sem] max2_int min2_int max_two min_two max_three min_three max_four min_four   -- for this text's walks alone
set_option linter.unusedVariables false
set_option linter.unusedSimpArgs false
attribute [local go_sem high] eqA25
mutual
def spec_StepOk.j0 : Nat → Int → Bool → Int → Int → Int → Int → Int → Option (Bool)
  | 0, _, _, _, _, _, _, _ => none
  | k + 1, x1, x5, x457000, x457001, x457002, x457003, x457004 => (spec_l7Reg.f x457001).bind fun t457 => (if t457 = true then ((spec_l7Reg.f x457003).bind fun t458 => (if t458 = true then ((spec_l7Reg.f x457002).bind fun t459 => (if t459 = true then (spec_StepOk.j1 k x1 false x457000 x457001 x457002 x457003 x457004) else (if x5 = true then (spec_StepOk.j1 k x1 (x457002 != (-1)) x457000 x457001 x457002 x457003 x457004) else (spec_StepOk.j1 k x1 true x457000 x457001 x457002 x457003 x457004)))) else (spec_StepOk.j1 k x1 true x457000 x457001 x457002 x457003 x457004))) else (spec_StepOk.j1 k x1 true x457000 x457001 x457002 x457003 x457004))
def spec_StepOk.j1 : Nat → Int → Bool → Int → Int → Int → Int → Int → Option (Bool)
  | 0, _, _, _, _, _, _, _ => none
  | k + 1, x1, x45, x457000, x457001, x457002, x457003, x457004 => if x45 = true then (some false) else (if x457004 ≥ 0 then (spec_StepOk.j2 k (decide (x457004 < x1)) x457000 x457001 x457002 x457003 x457004) else (spec_StepOk.j2 k false x457000 x457001 x457002 x457003 x457004))
def spec_StepOk.j2 : Nat → Bool → Int → Int → Int → Int → Int → Option (Bool)
  | 0, _, _, _, _, _, _ => none
  | k + 1, x6, x457000, x457001, x457002, x457003, x457004 => (spec_l1In.f x457004 0 23).bind fun t460 => (if x457000 = 1 then ((spec_l1In.f x457004 (-1000000000) 1000000000).bind fun t461 => (if t461 = true then (if x457002 = 0 then (some (x457003 == 0)) else (some false)) else (some false))) else (if x457000 = 2 then (spec_StepOk.j3 k x6 t460 x457000 (x457000 == 2) x457000 x457001 x457002 x457003 x457004) else (if x457000 = 3 then (spec_StepOk.j3 k x6 t460 x457000 (x457000 == 3) x457000 x457001 x457002 x457003 x457004) else (spec_StepOk.j3 k x6 t460 x457000 (x457000 == 4) x457000 x457001 x457002 x457003 x457004))))
def spec_StepOk.j3 : Nat → Bool → Bool → Int → Bool → Int → Int → Int → Int → Int → Option (Bool)
  | 0, _, _, _, _, _, _, _, _, _ => none
  | k + 1, x6, x7, x59, x75, x457000, x457001, x457002, x457003, x457004 => if x75 = true then (some (x457004 == 0)) else (if x59 = 5 then (if x7 = true then (some (x457003 == 0)) else (some false)) else (if x59 = 6 then (spec_StepOk.j4 k x6 x7 x59 (x59 == 6) x457000 x457001 x457002 x457003 x457004) else (spec_StepOk.j4 k x6 x7 x59 (x59 == 7) x457000 x457001 x457002 x457003 x457004)))
def spec_StepOk.j4 : Nat → Bool → Bool → Int → Bool → Int → Int → Int → Int → Int → Option (Bool)
  | 0, _, _, _, _, _, _, _, _, _ => none
  | k + 1, x6, x7, x59, x90, x457000, x457001, x457002, x457003, x457004 => if x90 = true then (if x7 = true then (some (x457001 == 0)) else (some false)) else (if x59 = 8 then (if x7 = true then (some (x457002 == 0)) else (some false)) else (if x59 = 9 then (if x457001 = 0 then (if x457003 = 0 then (some (x457004 == 0)) else (some false)) else (some false)) else (if x59 = 10 then (if x6 = true then (if x457001 = 0 then (if x457002 = 0 then (some (x457003 == 0)) else (some false)) else (some false)) else (some false)) else (if x59 = 11 then (if x6 = true then (if x457001 = 0 then (some (x457003 == 0)) else (some false)) else (some false)) else (if x59 = 12 then (some (x457001 == 0 && (x457002 == 0 && (x457003 == 0 && (x457004 == 0))))) else (if x59 = 13 then (some (x457001 == 0 && (x457002 == 0 && (x457003 == 0 && (x457004 == 0))))) else (some false)))))))
end
def spec_StepOk.f (k : Nat) (a0_0 : Int) (a0_1 : Int) (a0_2 : Int) (a0_3 : Int) (a0_4 : Int) (a1 : Int) : Option (Bool) := if a0_0 = 5 then (spec_StepOk.j0 k a1 true a0_0 a0_1 a0_2 a0_3 a0_4) else (if a0_0 = 6 then (spec_StepOk.j0 k a1 true a0_0 a0_1 a0_2 a0_3 a0_4) else (spec_StepOk.j0 k a1 (a0_0 == 7) a0_0 a0_1 a0_2 a0_3 a0_4))
set_option maxHeartbeats 8000000 in
set_option maxRecDepth 100000 in
theorem spec_StepOk.calls (k : Nat) (a0_0 : Int) (a0_1 : Int) (a0_2 : Int) (a0_3 : Int) (a0_4 : Int) (a1 : Int) (r : Bool) (w : World) (h : spec_StepOk.f k a0_0 a0_1 a0_2 a0_3 a0_4 a1 = some r) :
  Calls Tryd.prog 45 #[.agg #[.int .i64 a0_0, .int .i64 a0_1, .int .i64 a0_2, .int .i64 a0_3, .int .i64 a0_4], .int .i64 a1] w fun e w' => e = .returned (.bool r) ∧ Below w.heap.size w w' := by
 have hu25 := Tryd.underlying25
 have HB := aM_ (Below.refl w.heap.size w)
 have H : (if a0_0 = 5 then (spec_StepOk.j0 k a1 true a0_0 a0_1 a0_2 a0_3 a0_4) else (if a0_0 = 6 then (spec_StepOk.j0 k a1 true a0_0 a0_1 a0_2 a0_3 a0_4) else (spec_StepOk.j0 k a1 (a0_0 == 7) a0_0 a0_1 a0_2 a0_3 a0_4))) = some r := h
 clear h
 have HC3 := aM_ H
 clear H
 go_enter Tryd.func45, Tryd.ntmps45
 go_upto_region 1 with (first | ((with_reducible refine gate_dst (N := 2) rfl ?_); refine bX_ 2 (cs := #[.int .i64 a0_0, .int .i64 a0_1, .int .i64 a0_2, .int .i64 a0_3, .int .i64 a0_4]) (t := 25) ?_; intro gb456 hg w4 hbox hb; have n0 := aM_ (sT_ HB.out hb); have n1 := aM_ (hbox); have n2 := aM_ (sZ_ hg HB.out); have n3 := aM_ (sZ_ hg HB.out); clear HB; have HB := n0; have BK456 := n1; have GW456 := n2; have GE456 := n3; clear n0 n1 n2 n3; clear hb hbox hg))
 (try simp only [Act.put, List.setIfInBounds_toArray, List.set_cons_zero, List.set_cons_succ])
 go_cut [5] (fun v5 wc => ∃ (kq : Nat) (x5_2 : Bool), v5 = .bool x5_2 ∧ Aside0 (spec_StepOk.j0 kq a1 x5_2 a0_0 a0_1 a0_2 a0_3 a0_4 = some r) ∧ Aside0 (kq ≤ k) ∧ Aside0 (wc.heap[gb456]? = some (.cells #[.int .i64 a0_0, .int .i64 a0_1, .int .i64 a0_2, .int .i64 a0_3, .int .i64 a0_4] 25 (0, 0))) ∧ Aside0 (Below w.heap.size w wc))
 case first =>
  have H := HC3.out
  clear HC3
  by_cases c5 : a0_0 = 5
  ·rw [if_pos c5] at H
   have c5b0 : (a0_0 == 5) = true := beq_iff_eq.mpr c5
   have c5b1 : (a0_0 != 5) = false := bne_eq_false_iff_eq.mpr c5
   clear c5
   (first | rw [c5b0] | (simp only [i64_w, i32_w]; rw [c5b0]) | skip)
   have H' := aM_ H
   clear H
   obtain ⟨hcz6_0, hcz6_1, hcz6_2, hcz6_3, hcz6_4, hfz6_0, hfz6_1, hfz6_2, hfz6_3, hfz6_4⟩ := bR5_ BK456.out
   go_wp2
   go_meet
   case rel => exact ⟨_, (true), (by first | rfl | (simp; done) | (simp [*]; done)), H', ⟨by first | omega | exact Nat.le_refl _⟩, ⟨rW_ BK456.out⟩, ⟨gW_ HB.out⟩⟩
  ·rw [if_neg c5] at H
   have c5b0 : (a0_0 == 5) = false := beq_eq_false_iff_ne.mpr c5
   have c5b1 : (a0_0 != 5) = true := bne_iff_ne.mpr c5
   (first | rw [c5b0] | (simp only [i64_w, i32_w]; rw [c5b0]) | skip)
   by_cases c7 : a0_0 = 6
   ·rw [if_pos c7] at H
    have c7b0 : (a0_0 == 6) = true := beq_iff_eq.mpr c7
    have c7b1 : (a0_0 != 6) = false := bne_eq_false_iff_eq.mpr c7
    clear c7
    have H' := aM_ H
    clear H
    obtain ⟨hcz8_0, hcz8_1, hcz8_2, hcz8_3, hcz8_4, hfz8_0, hfz8_1, hfz8_2, hfz8_3, hfz8_4⟩ := bR5_ BK456.out
    go_wp2
    go_meet
    case rel => exact ⟨_, (true), (by first | rfl | (simp; done) | (simp [*]; done)), H', ⟨by first | omega | exact Nat.le_refl _⟩, ⟨rW_ BK456.out⟩, ⟨gW_ HB.out⟩⟩
   ·rw [if_neg c7] at H
    have c7b0 : (a0_0 == 6) = false := beq_eq_false_iff_ne.mpr c7
    have c7b1 : (a0_0 != 6) = true := bne_iff_ne.mpr c7
    have H' := aM_ H
    clear H
    obtain ⟨hcz9_0, hcz9_1, hcz9_2, hcz9_3, hcz9_4, hfz9_0, hfz9_1, hfz9_2, hfz9_3, hfz9_4⟩ := bR5_ BK456.out
    go_wp2
    go_meet
    case rel => exact ⟨_, ((a0_0 == 7)), (by first | rfl | (simp; done) | (simp [*]; done)), H', ⟨by first | omega | exact Nat.le_refl _⟩, ⟨rW_ BK456.out⟩, ⟨gW_ HB.out⟩⟩
 case rest =>
  clear HC3
  try clear p2
  try clear c4
  try clear c5
  try clear c5b0
  try clear c5b1
  try clear c7
  try clear c7b0
  try clear c7b1
  try clear hcz6_0 hcz6_1 hcz6_2 hcz6_3 hcz6_4 hfz6_0 hfz6_1 hfz6_2 hfz6_3 hfz6_4
  try clear hcz8_0 hcz8_1 hcz8_2 hcz8_3 hcz8_4 hfz8_0 hfz8_1 hfz8_2 hfz8_3 hfz8_4
  try clear hcz9_0 hcz9_1 hcz9_2 hcz9_3 hcz9_4 hfz9_0 hfz9_1 hfz9_2 hfz9_3 hfz9_4
  obtain ⟨kq, x5_2, rfl, HA, HJ2, BK456, HB⟩ := hcut
  cases kq with
  | zero => exact absurd HA.out (by simp [spec_StepOk.j0])
  | succ kj2 =>
   have H := HA.out
   clear HA
   simp only [spec_StepOk.j0] at H
   have HC10 := aM_ H
   clear H
   go_upto_region 2 with (fail)
   go_cut [45] (fun v45 wc => ∃ (kq : Nat) (x45_9 : Bool), v45 = .bool x45_9 ∧ Aside0 (spec_StepOk.j1 kq a1 x45_9 a0_0 a0_1 a0_2 a0_3 a0_4 = some r) ∧ Aside0 (kq ≤ kj2) ∧ Aside0 (wc.heap[gb456]? = some (.cells #[.int .i64 a0_0, .int .i64 a0_1, .int .i64 a0_2, .int .i64 a0_3, .int .i64 a0_4] 25 (0, 0))) ∧ Aside0 (Below w.heap.size w wc))
   case first =>
    have H := HC10.out
    clear HC10
    replace H := Option.bind_eq_some_iff.mp H
    obtain ⟨t457, A110, H⟩ := H
    replace H : (if t457 = true then ((spec_l7Reg.f a0_3).bind fun t458 => (if t458 = true then ((spec_l7Reg.f a0_2).bind fun t459 => (if t459 = true then (spec_StepOk.j1 kj2 a1 false a0_0 a0_1 a0_2 a0_3 a0_4) else (if x5_2 = true then (spec_StepOk.j1 kj2 a1 (a0_2 != (-1)) a0_0 a0_1 a0_2 a0_3 a0_4) else (spec_StepOk.j1 kj2 a1 true a0_0 a0_1 a0_2 a0_3 a0_4)))) else (spec_StepOk.j1 kj2 a1 true a0_0 a0_1 a0_2 a0_3 a0_4))) else (spec_StepOk.j1 kj2 a1 true a0_0 a0_1 a0_2 a0_3 a0_4)) = some r := H
    have A11 := aM_ A110
    clear A110
    by_cases c12 : t457 = true
    ·subst c12
     have H1 : ((spec_l7Reg.f a0_3).bind fun t458 => (if t458 = true then ((spec_l7Reg.f a0_2).bind fun t459 => (if t459 = true then (spec_StepOk.j1 kj2 a1 false a0_0 a0_1 a0_2 a0_3 a0_4) else (if x5_2 = true then (spec_StepOk.j1 kj2 a1 (a0_2 != (-1)) a0_0 a0_1 a0_2 a0_3 a0_4) else (spec_StepOk.j1 kj2 a1 true a0_0 a0_1 a0_2 a0_3 a0_4)))) else (spec_StepOk.j1 kj2 a1 true a0_0 a0_1 a0_2 a0_3 a0_4))) = some r := by rw [if_pos rfl] at H; exact H
     clear H
     have H := H1
     clear H1
     replace H := Option.bind_eq_some_iff.mp H
     obtain ⟨t458, A130, H⟩ := H
     replace H : (if t458 = true then ((spec_l7Reg.f a0_2).bind fun t459 => (if t459 = true then (spec_StepOk.j1 kj2 a1 false a0_0 a0_1 a0_2 a0_3 a0_4) else (if x5_2 = true then (spec_StepOk.j1 kj2 a1 (a0_2 != (-1)) a0_0 a0_1 a0_2 a0_3 a0_4) else (spec_StepOk.j1 kj2 a1 true a0_0 a0_1 a0_2 a0_3 a0_4)))) else (spec_StepOk.j1 kj2 a1 true a0_0 a0_1 a0_2 a0_3 a0_4)) = some r := H
     have A13 := aM_ A130
     clear A130
     by_cases c14 : t458 = true
     ·subst c14
      have H1 : ((spec_l7Reg.f a0_2).bind fun t459 => (if t459 = true then (spec_StepOk.j1 kj2 a1 false a0_0 a0_1 a0_2 a0_3 a0_4) else (if x5_2 = true then (spec_StepOk.j1 kj2 a1 (a0_2 != (-1)) a0_0 a0_1 a0_2 a0_3 a0_4) else (spec_StepOk.j1 kj2 a1 true a0_0 a0_1 a0_2 a0_3 a0_4)))) = some r := by rw [if_pos rfl] at H; exact H
      clear H
      have H := H1
      clear H1
      replace H := Option.bind_eq_some_iff.mp H
      obtain ⟨t459, A150, H⟩ := H
      replace H : (if t459 = true then (spec_StepOk.j1 kj2 a1 false a0_0 a0_1 a0_2 a0_3 a0_4) else (if x5_2 = true then (spec_StepOk.j1 kj2 a1 (a0_2 != (-1)) a0_0 a0_1 a0_2 a0_3 a0_4) else (spec_StepOk.j1 kj2 a1 true a0_0 a0_1 a0_2 a0_3 a0_4))) = some r := H
      have A15 := aM_ A150
      clear A150
      by_cases c16 : t459 = true
      ·subst c16
       have H1 : (spec_StepOk.j1 kj2 a1 false a0_0 a0_1 a0_2 a0_3 a0_4) = some r := by rw [if_pos rfl] at H; exact H
       clear H
       have H := H1
       clear H1
       have H' := aM_ H
       clear H
       obtain ⟨hcz17_0, hcz17_1, hcz17_2, hcz17_3, hcz17_4, hfz17_0, hfz17_1, hfz17_2, hfz17_3, hfz17_4⟩ := bR5_ BK456.out
       go_wp2_with (first | ((with_reducible refine gate_callee (f := 85) rfl ?_); refine gL_ (some 23) Tryd.func85 #[.int .i64 a0_1] ?_; (with_reducible refine (spec_l7Reg.calls a0_1 true _ A11.out).mono ?_); rintro e w' ⟨rfl, ⟨nd, rfl⟩⟩; refine ⟨_, rfl, ?_⟩) | (go_at_call 85; (with_reducible refine (spec_l7Reg.calls a0_3 true _ A13.out).mono ?_); rintro e w' ⟨rfl, ⟨nd, rfl⟩⟩) | (go_at_call 85; (with_reducible refine (spec_l7Reg.calls a0_2 true _ A15.out).mono ?_); rintro e w' ⟨rfl, ⟨nd, rfl⟩⟩))
       go_meet
       case rel => exact ⟨_, (false), (by first | rfl | (simp; done) | (simp [*]; done)), H', ⟨by have := HJ2.out; first | omega | exact Nat.le_refl _⟩, ⟨rW_ BK456.out⟩, ⟨gW_ HB.out⟩⟩
      ·replace c16 := Bool.eq_false_iff.mpr c16
       subst c16
       have H1 : (if x5_2 = true then (spec_StepOk.j1 kj2 a1 (a0_2 != (-1)) a0_0 a0_1 a0_2 a0_3 a0_4) else (spec_StepOk.j1 kj2 a1 true a0_0 a0_1 a0_2 a0_3 a0_4)) = some r := by rw [if_neg (show ¬ (false = true) by decide)] at H; exact H
       clear H
       have H := H1
       clear H1
       by_cases c18 : x5_2 = true
       ·subst c18
        have H1 : (spec_StepOk.j1 kj2 a1 (a0_2 != (-1)) a0_0 a0_1 a0_2 a0_3 a0_4) = some r := by rw [if_pos rfl] at H; exact H
        clear H
        have H := H1
        clear H1
        have H' := aM_ H
        clear H
        obtain ⟨hcz19_0, hcz19_1, hcz19_2, hcz19_3, hcz19_4, hfz19_0, hfz19_1, hfz19_2, hfz19_3, hfz19_4⟩ := bR5_ BK456.out
        go_wp2_with (first | ((with_reducible refine gate_callee (f := 85) rfl ?_); refine gL_ (some 23) Tryd.func85 #[.int .i64 a0_1] ?_; (with_reducible refine (spec_l7Reg.calls a0_1 true _ A11.out).mono ?_); rintro e w' ⟨rfl, ⟨nd, rfl⟩⟩; refine ⟨_, rfl, ?_⟩) | (go_at_call 85; (with_reducible refine (spec_l7Reg.calls a0_3 true _ A13.out).mono ?_); rintro e w' ⟨rfl, ⟨nd, rfl⟩⟩) | (go_at_call 85; (with_reducible refine (spec_l7Reg.calls a0_2 false _ A15.out).mono ?_); rintro e w' ⟨rfl, ⟨nd, rfl⟩⟩))
        go_meet
        case rel => exact ⟨_, ((a0_2 != (-1))), (by first | rfl | (simp; done) | (simp [*]; done)), H', ⟨by have := HJ2.out; first | omega | exact Nat.le_refl _⟩, ⟨rW_ BK456.out⟩, ⟨gW_ HB.out⟩⟩
       ·replace c18 := Bool.eq_false_iff.mpr c18
        subst c18
        have H1 : (spec_StepOk.j1 kj2 a1 true a0_0 a0_1 a0_2 a0_3 a0_4) = some r := by rw [if_neg (show ¬ (false = true) by decide)] at H; exact H
        clear H
        have H := H1
        clear H1
        have H' := aM_ H
        clear H
        obtain ⟨hcz20_0, hcz20_1, hcz20_2, hcz20_3, hcz20_4, hfz20_0, hfz20_1, hfz20_2, hfz20_3, hfz20_4⟩ := bR5_ BK456.out
        go_wp2_with (first | ((with_reducible refine gate_callee (f := 85) rfl ?_); refine gL_ (some 23) Tryd.func85 #[.int .i64 a0_1] ?_; (with_reducible refine (spec_l7Reg.calls a0_1 true _ A11.out).mono ?_); rintro e w' ⟨rfl, ⟨nd, rfl⟩⟩; refine ⟨_, rfl, ?_⟩) | (go_at_call 85; (with_reducible refine (spec_l7Reg.calls a0_3 true _ A13.out).mono ?_); rintro e w' ⟨rfl, ⟨nd, rfl⟩⟩) | (go_at_call 85; (with_reducible refine (spec_l7Reg.calls a0_2 false _ A15.out).mono ?_); rintro e w' ⟨rfl, ⟨nd, rfl⟩⟩))
        go_meet
        case rel => exact ⟨_, (true), (by first | rfl | (simp; done) | (simp [*]; done)), H', ⟨by have := HJ2.out; first | omega | exact Nat.le_refl _⟩, ⟨rW_ BK456.out⟩, ⟨gW_ HB.out⟩⟩
     ·replace c14 := Bool.eq_false_iff.mpr c14
      subst c14
      have H1 : (spec_StepOk.j1 kj2 a1 true a0_0 a0_1 a0_2 a0_3 a0_4) = some r := by rw [if_neg (show ¬ (false = true) by decide)] at H; exact H
      clear H
      have H := H1
      clear H1
      have H' := aM_ H
      clear H
      obtain ⟨hcz21_0, hcz21_1, hcz21_2, hcz21_3, hcz21_4, hfz21_0, hfz21_1, hfz21_2, hfz21_3, hfz21_4⟩ := bR5_ BK456.out
      go_wp2_with (first | ((with_reducible refine gate_callee (f := 85) rfl ?_); refine gL_ (some 23) Tryd.func85 #[.int .i64 a0_1] ?_; (with_reducible refine (spec_l7Reg.calls a0_1 true _ A11.out).mono ?_); rintro e w' ⟨rfl, ⟨nd, rfl⟩⟩; refine ⟨_, rfl, ?_⟩) | (go_at_call 85; (with_reducible refine (spec_l7Reg.calls a0_3 false _ A13.out).mono ?_); rintro e w' ⟨rfl, ⟨nd, rfl⟩⟩))
      go_meet
      case rel => exact ⟨_, (true), (by first | rfl | (simp; done) | (simp [*]; done)), H', ⟨by have := HJ2.out; first | omega | exact Nat.le_refl _⟩, ⟨rW_ BK456.out⟩, ⟨gW_ HB.out⟩⟩
    ·replace c12 := Bool.eq_false_iff.mpr c12
     subst c12
     have H1 : (spec_StepOk.j1 kj2 a1 true a0_0 a0_1 a0_2 a0_3 a0_4) = some r := by rw [if_neg (show ¬ (false = true) by decide)] at H; exact H
     clear H
     have H := H1
     clear H1
     have H' := aM_ H
     clear H
     obtain ⟨hcz22_0, hcz22_1, hcz22_2, hcz22_3, hcz22_4, hfz22_0, hfz22_1, hfz22_2, hfz22_3, hfz22_4⟩ := bR5_ BK456.out
     go_wp2_with (first | ((with_reducible refine gate_callee (f := 85) rfl ?_); refine gL_ (some 23) Tryd.func85 #[.int .i64 a0_1] ?_; (with_reducible refine (spec_l7Reg.calls a0_1 false _ A11.out).mono ?_); rintro e w' ⟨rfl, ⟨nd, rfl⟩⟩; refine ⟨_, rfl, ?_⟩))
     go_meet
     case rel => exact ⟨_, (true), (by first | rfl | (simp; done) | (simp [*]; done)), H', ⟨by have := HJ2.out; first | omega | exact Nat.le_refl _⟩, ⟨rW_ BK456.out⟩, ⟨gW_ HB.out⟩⟩
   case rest =>
    clear HC10
    try clear c1
    try clear p2
    try clear c4
    try clear c5
    try clear c5b0
    try clear c5b1
    try clear c7
    try clear c7b0
    try clear c7b1
    try clear c8
    try clear c12
    try clear c14
    try clear c16
    try clear c18
    try clear hcz17_0 hcz17_1 hcz17_2 hcz17_3 hcz17_4 hfz17_0 hfz17_1 hfz17_2 hfz17_3 hfz17_4
    try clear hcz19_0 hcz19_1 hcz19_2 hcz19_3 hcz19_4 hfz19_0 hfz19_1 hfz19_2 hfz19_3 hfz19_4
    try clear hcz20_0 hcz20_1 hcz20_2 hcz20_3 hcz20_4 hfz20_0 hfz20_1 hfz20_2 hfz20_3 hfz20_4
    try clear hcz21_0 hcz21_1 hcz21_2 hcz21_3 hcz21_4 hfz21_0 hfz21_1 hfz21_2 hfz21_3 hfz21_4
    try clear hcz22_0 hcz22_1 hcz22_2 hcz22_3 hcz22_4 hfz22_0 hfz22_1 hfz22_2 hfz22_3 hfz22_4
    try clear hcz6_0 hcz6_1 hcz6_2 hcz6_3 hcz6_4 hfz6_0 hfz6_1 hfz6_2 hfz6_3 hfz6_4
    try clear hcz8_0 hcz8_1 hcz8_2 hcz8_3 hcz8_4 hfz8_0 hfz8_1 hfz8_2 hfz8_3 hfz8_4
    try clear hcz9_0 hcz9_1 hcz9_2 hcz9_3 hcz9_4 hfz9_0 hfz9_1 hfz9_2 hfz9_3 hfz9_4
    try clear p2
    obtain ⟨kq, x45_9, rfl, HA, HJ9, BK456, HB⟩ := hcut
    cases kq with
    | zero => exact absurd HA.out (by simp [spec_StepOk.j1])
    | succ kj9 =>
     have H := HA.out
     clear HA
     simp only [spec_StepOk.j1] at H
     by_cases c23 : x45_9 = true
     ·subst c23
      have H1 : (some false) = some r := by rw [if_pos rfl] at H; exact H
      clear H
      have H := H1
      clear H1
      obtain rfl := Option.some.inj H
      go_wp2
      go_ret
      exact fI_ HB.out
     ·replace c23 := Bool.eq_false_iff.mpr c23
      subst c23
      have H1 : (if a0_4 ≥ 0 then (spec_StepOk.j2 kj9 (decide (a0_4 < a1)) a0_0 a0_1 a0_2 a0_3 a0_4) else (spec_StepOk.j2 kj9 false a0_0 a0_1 a0_2 a0_3 a0_4)) = some r := by rw [if_neg (show ¬ (false = true) by decide)] at H; exact H
      clear H
      have H := H1
      clear H1
      have HC24 := aM_ H
      clear H
      go_upto_region 4 with (fail)
      go_cut [6] (fun v6 wc => ∃ (kq : Nat) (x6_23 : Bool), v6 = .bool x6_23 ∧ Aside0 (spec_StepOk.j2 kq x6_23 a0_0 a0_1 a0_2 a0_3 a0_4 = some r) ∧ Aside0 (kq ≤ kj9) ∧ Aside0 (wc.heap[gb456]? = some (.cells #[.int .i64 a0_0, .int .i64 a0_1, .int .i64 a0_2, .int .i64 a0_3, .int .i64 a0_4] 25 (0, 0))) ∧ Aside0 (Below w.heap.size w wc))
      case first =>
       have H := HC24.out
       clear HC24
       by_cases c25 : a0_4 ≥ 0
       ·rw [if_pos c25] at H
        have c25b0 : decide (0 ≤ a0_4) = true := decide_eq_true c25
        clear c25
        (first | rw [c25b0] | (simp only [i64_w, i32_w]; rw [c25b0]) | skip)
        have H' := aM_ H
        clear H
        obtain ⟨hcz26_0, hcz26_1, hcz26_2, hcz26_3, hcz26_4, hfz26_0, hfz26_1, hfz26_2, hfz26_3, hfz26_4⟩ := bR5_ BK456.out
        go_wp2
        go_meet
        case rel => exact ⟨_, (decide (a0_4 < a1)), (by first | rfl | (simp; done) | (simp [*]; done)), H', ⟨by have := HJ2.out; have := HJ9.out; first | omega | exact Nat.le_refl _⟩, ⟨rW_ BK456.out⟩, ⟨gW_ HB.out⟩⟩
       ·rw [if_neg c25] at H
        have c25b0 : decide (0 ≤ a0_4) = false := decide_eq_false c25
        clear c25
        (first | rw [c25b0] | (simp only [i64_w, i32_w]; rw [c25b0]) | skip)
        have H' := aM_ H
        clear H
        obtain ⟨hcz27_0, hcz27_1, hcz27_2, hcz27_3, hcz27_4, hfz27_0, hfz27_1, hfz27_2, hfz27_3, hfz27_4⟩ := bR5_ BK456.out
        go_wp2
        go_meet
        case rel => exact ⟨_, (false), (by first | rfl | (simp; done) | (simp [*]; done)), H', ⟨by have := HJ2.out; have := HJ9.out; first | omega | exact Nat.le_refl _⟩, ⟨rW_ BK456.out⟩, ⟨gW_ HB.out⟩⟩
      case rest =>
       clear HC24
       try clear c1
       try clear c2
       try clear p2
       try clear c4
       try clear c5
       try clear c5b0
       try clear c5b1
       try clear c7
       try clear c7b0
       try clear c7b1
       try clear c8
       try clear c12
       try clear c14
       try clear c16
       try clear c18
       try clear c23
       try clear c25
       try clear c25b0
       try clear hcz17_0 hcz17_1 hcz17_2 hcz17_3 hcz17_4 hfz17_0 hfz17_1 hfz17_2 hfz17_3 hfz17_4
       try clear hcz19_0 hcz19_1 hcz19_2 hcz19_3 hcz19_4 hfz19_0 hfz19_1 hfz19_2 hfz19_3 hfz19_4
       try clear hcz20_0 hcz20_1 hcz20_2 hcz20_3 hcz20_4 hfz20_0 hfz20_1 hfz20_2 hfz20_3 hfz20_4
       try clear hcz21_0 hcz21_1 hcz21_2 hcz21_3 hcz21_4 hfz21_0 hfz21_1 hfz21_2 hfz21_3 hfz21_4
       try clear hcz22_0 hcz22_1 hcz22_2 hcz22_3 hcz22_4 hfz22_0 hfz22_1 hfz22_2 hfz22_3 hfz22_4
       try clear hcz26_0 hcz26_1 hcz26_2 hcz26_3 hcz26_4 hfz26_0 hfz26_1 hfz26_2 hfz26_3 hfz26_4
       try clear hcz27_0 hcz27_1 hcz27_2 hcz27_3 hcz27_4 hfz27_0 hfz27_1 hfz27_2 hfz27_3 hfz27_4
       try clear hcz6_0 hcz6_1 hcz6_2 hcz6_3 hcz6_4 hfz6_0 hfz6_1 hfz6_2 hfz6_3 hfz6_4
       try clear hcz8_0 hcz8_1 hcz8_2 hcz8_3 hcz8_4 hfz8_0 hfz8_1 hfz8_2 hfz8_3 hfz8_4
       try clear hcz9_0 hcz9_1 hcz9_2 hcz9_3 hcz9_4 hfz9_0 hfz9_1 hfz9_2 hfz9_3 hfz9_4
       try clear p2
       obtain ⟨kq, x6_23, rfl, HA, HJ23, BK456, HB⟩ := hcut
       cases kq with
       | zero => exact absurd HA.out (by simp [spec_StepOk.j2])
       | succ kj23 =>
        have H := HA.out
        clear HA
        simp only [spec_StepOk.j2] at H
        replace H := Option.bind_eq_some_iff.mp H
        obtain ⟨t460, A280, H⟩ := H
        replace H : (if a0_0 = 1 then ((spec_l1In.f a0_4 (-1000000000) 1000000000).bind fun t461 => (if t461 = true then (if a0_2 = 0 then (some (a0_3 == 0)) else (some false)) else (some false))) else (if a0_0 = 2 then (spec_StepOk.j3 kj23 x6_23 t460 a0_0 (a0_0 == 2) a0_0 a0_1 a0_2 a0_3 a0_4) else (if a0_0 = 3 then (spec_StepOk.j3 kj23 x6_23 t460 a0_0 (a0_0 == 3) a0_0 a0_1 a0_2 a0_3 a0_4) else (spec_StepOk.j3 kj23 x6_23 t460 a0_0 (a0_0 == 4) a0_0 a0_1 a0_2 a0_3 a0_4)))) = some r := H
        have A28 := aM_ A280
        clear A280
        by_cases c29 : a0_0 = 1
        ·rw [if_pos c29] at H
         have c29b0 : (a0_0 == 1) = true := beq_iff_eq.mpr c29
         have c29b1 : (a0_0 != 1) = false := bne_eq_false_iff_eq.mpr c29
         clear c29
         replace H := Option.bind_eq_some_iff.mp H
         obtain ⟨t461, A300, H⟩ := H
         replace H : (if t461 = true then (if a0_2 = 0 then (some (a0_3 == 0)) else (some false)) else (some false)) = some r := H
         have A30 := aM_ A300
         clear A300
         by_cases c31 : t461 = true
         ·subst c31
          have H1 : (if a0_2 = 0 then (some (a0_3 == 0)) else (some false)) = some r := by rw [if_pos rfl] at H; exact H
          clear H
          have H := H1
          clear H1
          by_cases c32 : a0_2 = 0
          ·rw [if_pos c32] at H
           have c32b0 : (a0_2 == 0) = true := beq_iff_eq.mpr c32
           have c32b1 : (a0_2 != 0) = false := bne_eq_false_iff_eq.mpr c32
           clear c32
           obtain rfl := Option.some.inj H
           obtain ⟨hcz33_0, hcz33_1, hcz33_2, hcz33_3, hcz33_4, hfz33_0, hfz33_1, hfz33_2, hfz33_3, hfz33_4⟩ := bR5_ BK456.out
           go_wp2_with (first | ((with_reducible refine gate_callee (f := 86) rfl ?_); refine gL_ (some 57) Tryd.func86 #[.int .i64 a0_4, .int .i64 0, .int .i64 23] ?_; (with_reducible refine (spec_l1In.calls a0_4 0 23 t460 _ A28.out).mono ?_); rintro e w' ⟨rfl, ⟨nd, rfl⟩⟩; refine ⟨_, rfl, ?_⟩) | ((with_reducible refine gate_callee (f := 86) rfl ?_); refine gL_ (some 64) Tryd.func86 #[.int .i64 a0_4, .int .i64 (-1000000000), .int .i64 1000000000] ?_; (with_reducible refine (spec_l1In.calls a0_4 (-1000000000) 1000000000 true _ A30.out).mono ?_); rintro e w' ⟨rfl, ⟨nd, rfl⟩⟩; refine ⟨_, rfl, ?_⟩))
           go_ret
           exact fI_ HB.out
          ·rw [if_neg c32] at H
           have c32b0 : (a0_2 == 0) = false := beq_eq_false_iff_ne.mpr c32
           have c32b1 : (a0_2 != 0) = true := bne_iff_ne.mpr c32
           obtain rfl := Option.some.inj H
           obtain ⟨hcz34_0, hcz34_1, hcz34_2, hcz34_3, hcz34_4, hfz34_0, hfz34_1, hfz34_2, hfz34_3, hfz34_4⟩ := bR5_ BK456.out
           go_wp2_with (first | ((with_reducible refine gate_callee (f := 86) rfl ?_); refine gL_ (some 57) Tryd.func86 #[.int .i64 a0_4, .int .i64 0, .int .i64 23] ?_; (with_reducible refine (spec_l1In.calls a0_4 0 23 t460 _ A28.out).mono ?_); rintro e w' ⟨rfl, ⟨nd, rfl⟩⟩; refine ⟨_, rfl, ?_⟩) | ((with_reducible refine gate_callee (f := 86) rfl ?_); refine gL_ (some 64) Tryd.func86 #[.int .i64 a0_4, .int .i64 (-1000000000), .int .i64 1000000000] ?_; (with_reducible refine (spec_l1In.calls a0_4 (-1000000000) 1000000000 true _ A30.out).mono ?_); rintro e w' ⟨rfl, ⟨nd, rfl⟩⟩; refine ⟨_, rfl, ?_⟩))
           go_ret
           exact fI_ HB.out
         ·replace c31 := Bool.eq_false_iff.mpr c31
          subst c31
          have H1 : (some false) = some r := by rw [if_neg (show ¬ (false = true) by decide)] at H; exact H
          clear H
          have H := H1
          clear H1
          obtain rfl := Option.some.inj H
          obtain ⟨hcz35_0, hcz35_1, hcz35_2, hcz35_3, hcz35_4, hfz35_0, hfz35_1, hfz35_2, hfz35_3, hfz35_4⟩ := bR5_ BK456.out
          go_wp2_with (first | ((with_reducible refine gate_callee (f := 86) rfl ?_); refine gL_ (some 57) Tryd.func86 #[.int .i64 a0_4, .int .i64 0, .int .i64 23] ?_; (with_reducible refine (spec_l1In.calls a0_4 0 23 t460 _ A28.out).mono ?_); rintro e w' ⟨rfl, ⟨nd, rfl⟩⟩; refine ⟨_, rfl, ?_⟩) | ((with_reducible refine gate_callee (f := 86) rfl ?_); refine gL_ (some 64) Tryd.func86 #[.int .i64 a0_4, .int .i64 (-1000000000), .int .i64 1000000000] ?_; (with_reducible refine (spec_l1In.calls a0_4 (-1000000000) 1000000000 false _ A30.out).mono ?_); rintro e w' ⟨rfl, ⟨nd, rfl⟩⟩; refine ⟨_, rfl, ?_⟩))
          go_ret
          exact fI_ HB.out
        ·rw [if_neg c29] at H
         have c29b0 : (a0_0 == 1) = false := beq_eq_false_iff_ne.mpr c29
         have c29b1 : (a0_0 != 1) = true := bne_iff_ne.mpr c29
         have HC36 := aM_ H
         clear H
         obtain ⟨hcz37_0, hcz37_1, hcz37_2, hcz37_3, hcz37_4, hfz37_0, hfz37_1, hfz37_2, hfz37_3, hfz37_4⟩ := bR5_ BK456.out
         go_upto_if 75 with (first | ((with_reducible refine gate_callee (f := 86) rfl ?_); refine gL_ (some 57) Tryd.func86 #[.int .i64 a0_4, .int .i64 0, .int .i64 23] ?_; (with_reducible refine (spec_l1In.calls a0_4 0 23 t460 _ A28.out).mono ?_); rintro e w' ⟨rfl, ⟨nd, rfl⟩⟩; refine ⟨_, rfl, ?_⟩))
         (try simp only [Act.put, List.setIfInBounds_toArray, List.set_cons_zero, List.set_cons_succ])
         go_cut [75] (fun v75 wc => ∃ (kq : Nat) (x75_35 : Bool), v75 = .bool x75_35 ∧ Aside0 (spec_StepOk.j3 kq x6_23 t460 a0_0 x75_35 a0_0 a0_1 a0_2 a0_3 a0_4 = some r) ∧ Aside0 (kq ≤ kj23) ∧ Aside0 (wc.heap[gb456]? = some (.cells #[.int .i64 a0_0, .int .i64 a0_1, .int .i64 a0_2, .int .i64 a0_3, .int .i64 a0_4] 25 (0, 0))) ∧ Aside0 (Below w.heap.size w wc))
         case first =>
          have H := HC36.out
          clear HC36
          by_cases c38 : a0_0 = 2
          ·rw [if_pos c38] at H
           have c38b0 : (a0_0 == 2) = true := beq_iff_eq.mpr c38
           have c38b1 : (a0_0 != 2) = false := bne_eq_false_iff_eq.mpr c38
           clear c38
           (first | rw [c38b0] | (simp only [i64_w, i32_w]; rw [c38b0]) | skip)
           have H' := aM_ H
           clear H
           go_wp2
           go_meet
           case rel => exact ⟨_, ((a0_0 == 2)), (by first | rfl | (simp; done) | (simp [*]; done)), H', ⟨by have := HJ2.out; have := HJ9.out; have := HJ23.out; first | omega | exact Nat.le_refl _⟩, ⟨rW_ BK456.out⟩, ⟨gW_ HB.out⟩⟩
          ·rw [if_neg c38] at H
           have c38b0 : (a0_0 == 2) = false := beq_eq_false_iff_ne.mpr c38
           have c38b1 : (a0_0 != 2) = true := bne_iff_ne.mpr c38
           (first | rw [c38b0] | (simp only [i64_w, i32_w]; rw [c38b0]) | skip)
           by_cases c39 : a0_0 = 3
           ·rw [if_pos c39] at H
            have c39b0 : (a0_0 == 3) = true := beq_iff_eq.mpr c39
            have c39b1 : (a0_0 != 3) = false := bne_eq_false_iff_eq.mpr c39
            clear c39
            have H' := aM_ H
            clear H
            go_wp2
            go_meet
            case rel => exact ⟨_, ((a0_0 == 3)), (by first | rfl | (simp; done) | (simp [*]; done)), H', ⟨by have := HJ2.out; have := HJ9.out; have := HJ23.out; first | omega | exact Nat.le_refl _⟩, ⟨rW_ BK456.out⟩, ⟨gW_ HB.out⟩⟩
           ·rw [if_neg c39] at H
            have c39b0 : (a0_0 == 3) = false := beq_eq_false_iff_ne.mpr c39
            have c39b1 : (a0_0 != 3) = true := bne_iff_ne.mpr c39
            have H' := aM_ H
            clear H
            go_wp2
            go_meet
            case rel => exact ⟨_, ((a0_0 == 4)), (by first | rfl | (simp; done) | (simp [*]; done)), H', ⟨by have := HJ2.out; have := HJ9.out; have := HJ23.out; first | omega | exact Nat.le_refl _⟩, ⟨rW_ BK456.out⟩, ⟨gW_ HB.out⟩⟩
         case rest =>
          clear HC36
          try clear c1
          try clear c2
          try clear p2
          try clear c3
          try clear c4
          try clear c5
          try clear c5b0
          try clear c5b1
          try clear c7
          try clear c7b0
          try clear c7b1
          try clear c8
          try clear c12
          try clear c14
          try clear c16
          try clear c18
          try clear c23
          try clear c25
          try clear c25b0
          try clear c29
          try clear c29b0
          try clear c29b1
          try clear c31
          try clear c32
          try clear c32b0
          try clear c32b1
          try clear c38
          try clear c38b0
          try clear c38b1
          try clear c39
          try clear c39b0
          try clear c39b1
          try clear hcz17_0 hcz17_1 hcz17_2 hcz17_3 hcz17_4 hfz17_0 hfz17_1 hfz17_2 hfz17_3 hfz17_4
          try clear hcz19_0 hcz19_1 hcz19_2 hcz19_3 hcz19_4 hfz19_0 hfz19_1 hfz19_2 hfz19_3 hfz19_4
          try clear hcz20_0 hcz20_1 hcz20_2 hcz20_3 hcz20_4 hfz20_0 hfz20_1 hfz20_2 hfz20_3 hfz20_4
          try clear hcz21_0 hcz21_1 hcz21_2 hcz21_3 hcz21_4 hfz21_0 hfz21_1 hfz21_2 hfz21_3 hfz21_4
          try clear hcz22_0 hcz22_1 hcz22_2 hcz22_3 hcz22_4 hfz22_0 hfz22_1 hfz22_2 hfz22_3 hfz22_4
          try clear hcz26_0 hcz26_1 hcz26_2 hcz26_3 hcz26_4 hfz26_0 hfz26_1 hfz26_2 hfz26_3 hfz26_4
          try clear hcz27_0 hcz27_1 hcz27_2 hcz27_3 hcz27_4 hfz27_0 hfz27_1 hfz27_2 hfz27_3 hfz27_4
          try clear hcz33_0 hcz33_1 hcz33_2 hcz33_3 hcz33_4 hfz33_0 hfz33_1 hfz33_2 hfz33_3 hfz33_4
          try clear hcz34_0 hcz34_1 hcz34_2 hcz34_3 hcz34_4 hfz34_0 hfz34_1 hfz34_2 hfz34_3 hfz34_4
          try clear hcz35_0 hcz35_1 hcz35_2 hcz35_3 hcz35_4 hfz35_0 hfz35_1 hfz35_2 hfz35_3 hfz35_4
          try clear hcz37_0 hcz37_1 hcz37_2 hcz37_3 hcz37_4 hfz37_0 hfz37_1 hfz37_2 hfz37_3 hfz37_4
          try clear hcz6_0 hcz6_1 hcz6_2 hcz6_3 hcz6_4 hfz6_0 hfz6_1 hfz6_2 hfz6_3 hfz6_4
          try clear hcz8_0 hcz8_1 hcz8_2 hcz8_3 hcz8_4 hfz8_0 hfz8_1 hfz8_2 hfz8_3 hfz8_4
          try clear hcz9_0 hcz9_1 hcz9_2 hcz9_3 hcz9_4 hfz9_0 hfz9_1 hfz9_2 hfz9_3 hfz9_4
          try clear p2
          obtain ⟨kq, x75_35, rfl, HA, HJ35, BK456, HB⟩ := hcut
          cases kq with
          | zero => exact absurd HA.out (by simp [spec_StepOk.j3])
          | succ kj35 =>
           have H := HA.out
           clear HA
           simp only [spec_StepOk.j3] at H
           by_cases c40 : x75_35 = true
           ·subst c40
            have H1 : (some (a0_4 == 0)) = some r := by rw [if_pos rfl] at H; exact H
            clear H
            have H := H1
            clear H1
            obtain rfl := Option.some.inj H
            obtain ⟨hcz41_0, hcz41_1, hcz41_2, hcz41_3, hcz41_4, hfz41_0, hfz41_1, hfz41_2, hfz41_3, hfz41_4⟩ := bR5_ BK456.out
            go_wp2
            go_ret
            exact fI_ HB.out
           ·replace c40 := Bool.eq_false_iff.mpr c40
            subst c40
            have H1 : (if a0_0 = 5 then (if t460 = true then (some (a0_3 == 0)) else (some false)) else (if a0_0 = 6 then (spec_StepOk.j4 kj35 x6_23 t460 a0_0 (a0_0 == 6) a0_0 a0_1 a0_2 a0_3 a0_4) else (spec_StepOk.j4 kj35 x6_23 t460 a0_0 (a0_0 == 7) a0_0 a0_1 a0_2 a0_3 a0_4))) = some r := by rw [if_neg (show ¬ (false = true) by decide)] at H; exact H
            clear H
            have H := H1
            clear H1
            by_cases c42 : a0_0 = 5
            ·rw [if_pos c42] at H
             have c42b0 : (a0_0 == 5) = true := beq_iff_eq.mpr c42
             have c42b1 : (a0_0 != 5) = false := bne_eq_false_iff_eq.mpr c42
             clear c42
             by_cases c43 : t460 = true
             ·subst c43
              have H1 : (some (a0_3 == 0)) = some r := by rw [if_pos rfl] at H; exact H
              clear H
              have H := H1
              clear H1
              obtain rfl := Option.some.inj H
              obtain ⟨hcz44_0, hcz44_1, hcz44_2, hcz44_3, hcz44_4, hfz44_0, hfz44_1, hfz44_2, hfz44_3, hfz44_4⟩ := bR5_ BK456.out
              go_wp2
              go_ret
              exact fI_ HB.out
             ·replace c43 := Bool.eq_false_iff.mpr c43
              subst c43
              have H1 : (some false) = some r := by rw [if_neg (show ¬ (false = true) by decide)] at H; exact H
              clear H
              have H := H1
              clear H1
              obtain rfl := Option.some.inj H
              go_wp2
              go_ret
              exact fI_ HB.out
            ·rw [if_neg c42] at H
             have c42b0 : (a0_0 == 5) = false := beq_eq_false_iff_ne.mpr c42
             have c42b1 : (a0_0 != 5) = true := bne_iff_ne.mpr c42
             have HC45 := aM_ H
             clear H
             go_upto_if 90 with (fail)
             go_cut [90] (fun v90 wc => ∃ (kq : Nat) (x90_44 : Bool), v90 = .bool x90_44 ∧ Aside0 (spec_StepOk.j4 kq x6_23 t460 a0_0 x90_44 a0_0 a0_1 a0_2 a0_3 a0_4 = some r) ∧ Aside0 (kq ≤ kj35) ∧ Aside0 (wc.heap[gb456]? = some (.cells #[.int .i64 a0_0, .int .i64 a0_1, .int .i64 a0_2, .int .i64 a0_3, .int .i64 a0_4] 25 (0, 0))) ∧ Aside0 (Below w.heap.size w wc))
             case first =>
              have H := HC45.out
              clear HC45
              by_cases c46 : a0_0 = 6
              ·rw [if_pos c46] at H
               have c46b0 : (a0_0 == 6) = true := beq_iff_eq.mpr c46
               have c46b1 : (a0_0 != 6) = false := bne_eq_false_iff_eq.mpr c46
               clear c46
               (first | rw [c46b0] | (simp only [i64_w, i32_w]; rw [c46b0]) | skip)
               have H' := aM_ H
               clear H
               go_wp2
               go_meet
               case rel => exact ⟨_, ((a0_0 == 6)), (by first | rfl | (simp; done) | (simp [*]; done)), H', ⟨by have := HJ2.out; have := HJ9.out; have := HJ23.out; have := HJ35.out; first | omega | exact Nat.le_refl _⟩, ⟨rW_ BK456.out⟩, ⟨gW_ HB.out⟩⟩
              ·rw [if_neg c46] at H
               have c46b0 : (a0_0 == 6) = false := beq_eq_false_iff_ne.mpr c46
               have c46b1 : (a0_0 != 6) = true := bne_iff_ne.mpr c46
               (first | rw [c46b0] | (simp only [i64_w, i32_w]; rw [c46b0]) | skip)
               have H' := aM_ H
               clear H
               go_wp2
               go_meet
               case rel => exact ⟨_, ((a0_0 == 7)), (by first | rfl | (simp; done) | (simp [*]; done)), H', ⟨by have := HJ2.out; have := HJ9.out; have := HJ23.out; have := HJ35.out; first | omega | exact Nat.le_refl _⟩, ⟨rW_ BK456.out⟩, ⟨gW_ HB.out⟩⟩
             case rest =>
              clear HC45
              try clear c1
              try clear c2
              try clear p2
              try clear c3
              try clear c4
              try clear c5
              try clear c5b0
              try clear c5b1
              try clear c7
              try clear c7b0
              try clear c7b1
              try clear c8
              try clear c12
              try clear c14
              try clear c16
              try clear c18
              try clear c23
              try clear c25
              try clear c25b0
              try clear c29
              try clear c29b0
              try clear c29b1
              try clear c31
              try clear c32
              try clear c32b0
              try clear c32b1
              try clear c38
              try clear c38b0
              try clear c38b1
              try clear c39
              try clear c39b0
              try clear c39b1
              try clear c40
              try clear c42
              try clear c42b0
              try clear c42b1
              try clear c43
              try clear c46
              try clear c46b0
              try clear c46b1
              try clear hcz17_0 hcz17_1 hcz17_2 hcz17_3 hcz17_4 hfz17_0 hfz17_1 hfz17_2 hfz17_3 hfz17_4
              try clear hcz19_0 hcz19_1 hcz19_2 hcz19_3 hcz19_4 hfz19_0 hfz19_1 hfz19_2 hfz19_3 hfz19_4
              try clear hcz20_0 hcz20_1 hcz20_2 hcz20_3 hcz20_4 hfz20_0 hfz20_1 hfz20_2 hfz20_3 hfz20_4
              try clear hcz21_0 hcz21_1 hcz21_2 hcz21_3 hcz21_4 hfz21_0 hfz21_1 hfz21_2 hfz21_3 hfz21_4
              try clear hcz22_0 hcz22_1 hcz22_2 hcz22_3 hcz22_4 hfz22_0 hfz22_1 hfz22_2 hfz22_3 hfz22_4
              try clear hcz26_0 hcz26_1 hcz26_2 hcz26_3 hcz26_4 hfz26_0 hfz26_1 hfz26_2 hfz26_3 hfz26_4
              try clear hcz27_0 hcz27_1 hcz27_2 hcz27_3 hcz27_4 hfz27_0 hfz27_1 hfz27_2 hfz27_3 hfz27_4
              try clear hcz33_0 hcz33_1 hcz33_2 hcz33_3 hcz33_4 hfz33_0 hfz33_1 hfz33_2 hfz33_3 hfz33_4
              try clear hcz34_0 hcz34_1 hcz34_2 hcz34_3 hcz34_4 hfz34_0 hfz34_1 hfz34_2 hfz34_3 hfz34_4
              try clear hcz35_0 hcz35_1 hcz35_2 hcz35_3 hcz35_4 hfz35_0 hfz35_1 hfz35_2 hfz35_3 hfz35_4
              try clear hcz37_0 hcz37_1 hcz37_2 hcz37_3 hcz37_4 hfz37_0 hfz37_1 hfz37_2 hfz37_3 hfz37_4
              try clear hcz41_0 hcz41_1 hcz41_2 hcz41_3 hcz41_4 hfz41_0 hfz41_1 hfz41_2 hfz41_3 hfz41_4
              try clear hcz44_0 hcz44_1 hcz44_2 hcz44_3 hcz44_4 hfz44_0 hfz44_1 hfz44_2 hfz44_3 hfz44_4
              try clear hcz6_0 hcz6_1 hcz6_2 hcz6_3 hcz6_4 hfz6_0 hfz6_1 hfz6_2 hfz6_3 hfz6_4
              try clear hcz8_0 hcz8_1 hcz8_2 hcz8_3 hcz8_4 hfz8_0 hfz8_1 hfz8_2 hfz8_3 hfz8_4
              try clear hcz9_0 hcz9_1 hcz9_2 hcz9_3 hcz9_4 hfz9_0 hfz9_1 hfz9_2 hfz9_3 hfz9_4
              try clear p2
              obtain ⟨kq, x90_44, rfl, HA, HJ44, BK456, HB⟩ := hcut
              cases kq with
              | zero => exact absurd HA.out (by simp [spec_StepOk.j4])
              | succ kj44 =>
               have H := HA.out
               clear HA
               simp only [spec_StepOk.j4] at H
               by_cases c47 : x90_44 = true
               ·subst c47
                have H1 : (if t460 = true then (some (a0_1 == 0)) else (some false)) = some r := by rw [if_pos rfl] at H; exact H
                clear H
                have H := H1
                clear H1
                by_cases c48 : t460 = true
                ·subst c48
                 have H1 : (some (a0_1 == 0)) = some r := by rw [if_pos rfl] at H; exact H
                 clear H
                 have H := H1
                 clear H1
                 obtain rfl := Option.some.inj H
                 obtain ⟨hcz49_0, hcz49_1, hcz49_2, hcz49_3, hcz49_4, hfz49_0, hfz49_1, hfz49_2, hfz49_3, hfz49_4⟩ := bR5_ BK456.out
                 go_wp2
                 go_ret
                 exact fI_ HB.out
                ·replace c48 := Bool.eq_false_iff.mpr c48
                 subst c48
                 have H1 : (some false) = some r := by rw [if_neg (show ¬ (false = true) by decide)] at H; exact H
                 clear H
                 have H := H1
                 clear H1
                 obtain rfl := Option.some.inj H
                 go_wp2
                 go_ret
                 exact fI_ HB.out
               ·replace c47 := Bool.eq_false_iff.mpr c47
                subst c47
                have H1 : (if a0_0 = 8 then (if t460 = true then (some (a0_2 == 0)) else (some false)) else (if a0_0 = 9 then (if a0_1 = 0 then (if a0_3 = 0 then (some (a0_4 == 0)) else (some false)) else (some false)) else (if a0_0 = 10 then (if x6_23 = true then (if a0_1 = 0 then (if a0_2 = 0 then (some (a0_3 == 0)) else (some false)) else (some false)) else (some false)) else (if a0_0 = 11 then (if x6_23 = true then (if a0_1 = 0 then (some (a0_3 == 0)) else (some false)) else (some false)) else (if a0_0 = 12 then (some (a0_1 == 0 && (a0_2 == 0 && (a0_3 == 0 && (a0_4 == 0))))) else (if a0_0 = 13 then (some (a0_1 == 0 && (a0_2 == 0 && (a0_3 == 0 && (a0_4 == 0))))) else (some false))))))) = some r := by rw [if_neg (show ¬ (false = true) by decide)] at H; exact H
                clear H
                have H := H1
                clear H1
                by_cases c50 : a0_0 = 8
                ·rw [if_pos c50] at H
                 have c50b0 : (a0_0 == 8) = true := beq_iff_eq.mpr c50
                 have c50b1 : (a0_0 != 8) = false := bne_eq_false_iff_eq.mpr c50
                 clear c50
                 by_cases c51 : t460 = true
                 ·subst c51
                  have H1 : (some (a0_2 == 0)) = some r := by rw [if_pos rfl] at H; exact H
                  clear H
                  have H := H1
                  clear H1
                  obtain rfl := Option.some.inj H
                  obtain ⟨hcz52_0, hcz52_1, hcz52_2, hcz52_3, hcz52_4, hfz52_0, hfz52_1, hfz52_2, hfz52_3, hfz52_4⟩ := bR5_ BK456.out
                  go_wp2
                  go_ret
                  exact fI_ HB.out
                 ·replace c51 := Bool.eq_false_iff.mpr c51
                  subst c51
                  have H1 : (some false) = some r := by rw [if_neg (show ¬ (false = true) by decide)] at H; exact H
                  clear H
                  have H := H1
                  clear H1
                  obtain rfl := Option.some.inj H
                  go_wp2
                  go_ret
                  exact fI_ HB.out
                ·rw [if_neg c50] at H
                 have c50b0 : (a0_0 == 8) = false := beq_eq_false_iff_ne.mpr c50
                 have c50b1 : (a0_0 != 8) = true := bne_iff_ne.mpr c50
                 by_cases c53 : a0_0 = 9
                 ·rw [if_pos c53] at H
                  have c53b0 : (a0_0 == 9) = true := beq_iff_eq.mpr c53
                  have c53b1 : (a0_0 != 9) = false := bne_eq_false_iff_eq.mpr c53
                  clear c53
                  by_cases c54 : a0_1 = 0
                  ·rw [if_pos c54] at H
                   have c54b0 : (a0_1 == 0) = true := beq_iff_eq.mpr c54
                   have c54b1 : (a0_1 != 0) = false := bne_eq_false_iff_eq.mpr c54
                   clear c54
                   by_cases c55 : a0_3 = 0
                   ·rw [if_pos c55] at H
                    have c55b0 : (a0_3 == 0) = true := beq_iff_eq.mpr c55
                    have c55b1 : (a0_3 != 0) = false := bne_eq_false_iff_eq.mpr c55
                    clear c55
                    obtain rfl := Option.some.inj H
                    obtain ⟨hcz56_0, hcz56_1, hcz56_2, hcz56_3, hcz56_4, hfz56_0, hfz56_1, hfz56_2, hfz56_3, hfz56_4⟩ := bR5_ BK456.out
                    go_wp2
                    go_ret
                    exact fI_ HB.out
                   ·rw [if_neg c55] at H
                    have c55b0 : (a0_3 == 0) = false := beq_eq_false_iff_ne.mpr c55
                    have c55b1 : (a0_3 != 0) = true := bne_iff_ne.mpr c55
                    obtain rfl := Option.some.inj H
                    obtain ⟨hcz57_0, hcz57_1, hcz57_2, hcz57_3, hcz57_4, hfz57_0, hfz57_1, hfz57_2, hfz57_3, hfz57_4⟩ := bR5_ BK456.out
                    go_wp2
                    go_ret
                    exact fI_ HB.out
                  ·rw [if_neg c54] at H
                   have c54b0 : (a0_1 == 0) = false := beq_eq_false_iff_ne.mpr c54
                   have c54b1 : (a0_1 != 0) = true := bne_iff_ne.mpr c54
                   obtain rfl := Option.some.inj H
                   obtain ⟨hcz58_0, hcz58_1, hcz58_2, hcz58_3, hcz58_4, hfz58_0, hfz58_1, hfz58_2, hfz58_3, hfz58_4⟩ := bR5_ BK456.out
                   go_wp2
                   go_ret
                   exact fI_ HB.out
                 ·rw [if_neg c53] at H
                  have c53b0 : (a0_0 == 9) = false := beq_eq_false_iff_ne.mpr c53
                  have c53b1 : (a0_0 != 9) = true := bne_iff_ne.mpr c53
                  by_cases c59 : a0_0 = 10
                  ·rw [if_pos c59] at H
                   have c59b0 : (a0_0 == 10) = true := beq_iff_eq.mpr c59
                   have c59b1 : (a0_0 != 10) = false := bne_eq_false_iff_eq.mpr c59
                   clear c59
                   by_cases c60 : x6_23 = true
                   ·subst c60
                    have H1 : (if a0_1 = 0 then (if a0_2 = 0 then (some (a0_3 == 0)) else (some false)) else (some false)) = some r := by rw [if_pos rfl] at H; exact H
                    clear H
                    have H := H1
                    clear H1
                    by_cases c61 : a0_1 = 0
                    ·rw [if_pos c61] at H
                     have c61b0 : (a0_1 == 0) = true := beq_iff_eq.mpr c61
                     have c61b1 : (a0_1 != 0) = false := bne_eq_false_iff_eq.mpr c61
                     clear c61
                     by_cases c62 : a0_2 = 0
                     ·rw [if_pos c62] at H
                      have c62b0 : (a0_2 == 0) = true := beq_iff_eq.mpr c62
                      have c62b1 : (a0_2 != 0) = false := bne_eq_false_iff_eq.mpr c62
                      clear c62
                      obtain rfl := Option.some.inj H
                      obtain ⟨hcz63_0, hcz63_1, hcz63_2, hcz63_3, hcz63_4, hfz63_0, hfz63_1, hfz63_2, hfz63_3, hfz63_4⟩ := bR5_ BK456.out
                      go_wp2
                      go_ret
                      exact fI_ HB.out
                     ·rw [if_neg c62] at H
                      have c62b0 : (a0_2 == 0) = false := beq_eq_false_iff_ne.mpr c62
                      have c62b1 : (a0_2 != 0) = true := bne_iff_ne.mpr c62
                      obtain rfl := Option.some.inj H
                      obtain ⟨hcz64_0, hcz64_1, hcz64_2, hcz64_3, hcz64_4, hfz64_0, hfz64_1, hfz64_2, hfz64_3, hfz64_4⟩ := bR5_ BK456.out
                      go_wp2
                      go_ret
                      exact fI_ HB.out
                    ·rw [if_neg c61] at H
                     have c61b0 : (a0_1 == 0) = false := beq_eq_false_iff_ne.mpr c61
                     have c61b1 : (a0_1 != 0) = true := bne_iff_ne.mpr c61
                     obtain rfl := Option.some.inj H
                     obtain ⟨hcz65_0, hcz65_1, hcz65_2, hcz65_3, hcz65_4, hfz65_0, hfz65_1, hfz65_2, hfz65_3, hfz65_4⟩ := bR5_ BK456.out
                     go_wp2
                     go_ret
                     exact fI_ HB.out
                   ·replace c60 := Bool.eq_false_iff.mpr c60
                    subst c60
                    have H1 : (some false) = some r := by rw [if_neg (show ¬ (false = true) by decide)] at H; exact H
                    clear H
                    have H := H1
                    clear H1
                    obtain rfl := Option.some.inj H
                    go_wp2
                    go_ret
                    exact fI_ HB.out
                  ·rw [if_neg c59] at H
                   have c59b0 : (a0_0 == 10) = false := beq_eq_false_iff_ne.mpr c59
                   have c59b1 : (a0_0 != 10) = true := bne_iff_ne.mpr c59
                   by_cases c66 : a0_0 = 11
                   ·rw [if_pos c66] at H
                    have c66b0 : (a0_0 == 11) = true := beq_iff_eq.mpr c66
                    have c66b1 : (a0_0 != 11) = false := bne_eq_false_iff_eq.mpr c66
                    clear c66
                    by_cases c67 : x6_23 = true
                    ·subst c67
                     have H1 : (if a0_1 = 0 then (some (a0_3 == 0)) else (some false)) = some r := by rw [if_pos rfl] at H; exact H
                     clear H
                     have H := H1
                     clear H1
                     by_cases c68 : a0_1 = 0
                     ·rw [if_pos c68] at H
                      have c68b0 : (a0_1 == 0) = true := beq_iff_eq.mpr c68
                      have c68b1 : (a0_1 != 0) = false := bne_eq_false_iff_eq.mpr c68
                      clear c68
                      obtain rfl := Option.some.inj H
                      obtain ⟨hcz69_0, hcz69_1, hcz69_2, hcz69_3, hcz69_4, hfz69_0, hfz69_1, hfz69_2, hfz69_3, hfz69_4⟩ := bR5_ BK456.out
                      go_wp2
                      go_ret
                      exact fI_ HB.out
                     ·rw [if_neg c68] at H
                      have c68b0 : (a0_1 == 0) = false := beq_eq_false_iff_ne.mpr c68
                      have c68b1 : (a0_1 != 0) = true := bne_iff_ne.mpr c68
                      obtain rfl := Option.some.inj H
                      obtain ⟨hcz70_0, hcz70_1, hcz70_2, hcz70_3, hcz70_4, hfz70_0, hfz70_1, hfz70_2, hfz70_3, hfz70_4⟩ := bR5_ BK456.out
                      go_wp2
                      go_ret
                      exact fI_ HB.out
                    ·replace c67 := Bool.eq_false_iff.mpr c67
                     subst c67
                     have H1 : (some false) = some r := by rw [if_neg (show ¬ (false = true) by decide)] at H; exact H
                     clear H
                     have H := H1
                     clear H1
                     obtain rfl := Option.some.inj H
                     go_wp2
                     go_ret
                     exact fI_ HB.out
                   ·rw [if_neg c66] at H
                    have c66b0 : (a0_0 == 11) = false := beq_eq_false_iff_ne.mpr c66
                    have c66b1 : (a0_0 != 11) = true := bne_iff_ne.mpr c66
                    by_cases c71 : a0_0 = 12
                    ·rw [if_pos c71] at H
                     have c71b0 : (a0_0 == 12) = true := beq_iff_eq.mpr c71
                     have c71b1 : (a0_0 != 12) = false := bne_eq_false_iff_eq.mpr c71
                     clear c71
                     obtain rfl := Option.some.inj H
                     obtain ⟨hcz72_0, hcz72_1, hcz72_2, hcz72_3, hcz72_4, hfz72_0, hfz72_1, hfz72_2, hfz72_3, hfz72_4⟩ := bR5_ BK456.out
                     go_wp2
                     go_ret
                     exact fI_ HB.out
                    ·rw [if_neg c71] at H
                     have c71b0 : (a0_0 == 12) = false := beq_eq_false_iff_ne.mpr c71
                     have c71b1 : (a0_0 != 12) = true := bne_iff_ne.mpr c71
                     by_cases c73 : a0_0 = 13
                     ·rw [if_pos c73] at H
                      have c73b0 : (a0_0 == 13) = true := beq_iff_eq.mpr c73
                      have c73b1 : (a0_0 != 13) = false := bne_eq_false_iff_eq.mpr c73
                      clear c73
                      obtain rfl := Option.some.inj H
                      obtain ⟨hcz74_0, hcz74_1, hcz74_2, hcz74_3, hcz74_4, hfz74_0, hfz74_1, hfz74_2, hfz74_3, hfz74_4⟩ := bR5_ BK456.out
                      go_wp2
                      go_ret
                      exact fI_ HB.out
                     ·rw [if_neg c73] at H
                      have c73b0 : (a0_0 == 13) = false := beq_eq_false_iff_ne.mpr c73
                      have c73b1 : (a0_0 != 13) = true := bne_iff_ne.mpr c73
                      obtain rfl := Option.some.inj H
                      go_wp2
                      go_ret
                      exact fI_ HB.out
end Go.Proofs.YtdbobicbbfmepaaDoor.PFnTexts
