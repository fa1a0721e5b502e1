/- A part of the proof that the law FnExactMachineOk holds for every input: the words, functions and walks that its row needs, without a condition of their own. -/
import Derived.Test.YtfaoipojijhlbaaZFnExactMachineOka2
import Derived.Test.YtfaoipojijhlbaaZFnExactMachineOka12
import Derived.Test.YtfaoipojijhlbaaZFnExactMachineOka13
import Derived.Test.YtfaoipojijhlbaaZFnExactMachineOka14
import Derived.Test.YtfaoipojijhlbaaZFnExactMachineOks
namespace Go.Proofs.Ytfaoipojijhlbaa.PFnExactMachineOk
open Go.RowKit Go.Proofs.YtfaoipojijhlbaaW.PrintWords Go.Proofs.YtfaoipojijhlbaaW.PrintLast Go.Proofs.YtfaoipojijhlbaaW.PrintMore
attribute [local go_sem] max2_int min2_int max_two min_two max_three min_three max_four min_four   -- for this text's walks alone
set_option linter.unusedVariables false
set_option linter.unusedSimpArgs false
def laws_eqCore.f (k : Nat) (a0_0 : Int) (l0_1 : List Int) (l0_2 : List Int) (a0_3 : Int) (a1_0 : Int) (l1_1 : List Int) (l1_2 : List Int) (a1_3 : Int) : Option (Bool) := if a0_0 = a1_0 then ((laws_eqIntS.f k l0_1 l1_1).bind fun t334 => (if t334 = true then ((laws_eqIntS.f k l0_2 l1_2).bind fun t335 => (if t335 = true then (if a0_3 = a1_3 then (some true) else (some false)) else (some false))) else (some false))) else (some false)
set_option maxHeartbeats 8000000 in
set_option maxRecDepth 100000 in
theorem laws_eqCore.calls (k : Nat) (a0_0 : Int) (A0_1 : Option Addr) (c0_1 : Nat) (l0_1 : List Int) (A0_2 : Option Addr) (c0_2 : Nat) (l0_2 : List Int) (a0_3 : Int) (a1_0 : Int) (A1_1 : Option Addr) (c1_1 : Nat) (l1_1 : List Int) (A1_2 : Option Addr) (c1_2 : Nat) (l1_2 : List Int) (a1_3 : Int) (r : Bool) (w : World) (hr0_1 : Kd.C (Kd.int .i64) w A0_1 l0_1.length l0_1) (hc0_1 : l0_1.length ≤ c0_1) (hr0_2 : Kd.C (Kd.int .i64) w A0_2 l0_2.length l0_2) (hc0_2 : l0_2.length ≤ c0_2) (hr1_1 : Kd.C (Kd.int .i64) w A1_1 l1_1.length l1_1) (hc1_1 : l1_1.length ≤ c1_1) (hr1_2 : Kd.C (Kd.int .i64) w A1_2 l1_2.length l1_2) (hc1_2 : l1_2.length ≤ c1_2) (h : laws_eqCore.f k a0_0 l0_1 l0_2 a0_3 a1_0 l1_1 l1_2 a1_3 = some r) :
  Calls Try.prog 91 #[.agg #[.int .i64 a0_0, .slice A0_1 l0_1.length c0_1, .slice A0_2 l0_2.length c0_2, .int .i64 a0_3], .agg #[.int .i64 a1_0, .slice A1_1 l1_1.length c1_1, .slice A1_2 l1_2.length c1_2, .int .i64 a1_3]] w fun e w' => e = .returned (.bool r) ∧ Below w.heap.size w w' := by
 have hu106 := Try.underlying106
 have HR0_1 := aM_ hr0_1
 have HC0_1 := aM_ hc0_1
 clear hr0_1 hc0_1
 have HR0_2 := aM_ hr0_2
 have HC0_2 := aM_ hc0_2
 clear hr0_2 hc0_2
 have HR1_1 := aM_ hr1_1
 have HC1_1 := aM_ hc1_1
 clear hr1_1 hc1_1
 have HR1_2 := aM_ hr1_2
 have HC1_2 := aM_ hc1_2
 clear hr1_2 hc1_2
 have HB := aM_ (Below.refl w.heap.size w)
 have H : (if a0_0 = a1_0 then ((laws_eqIntS.f k l0_1 l1_1).bind fun t334 => (if t334 = true then ((laws_eqIntS.f k l0_2 l1_2).bind fun t335 => (if t335 = true then (if a0_3 = a1_3 then (some true) else (some false)) else (some false))) else (some false))) else (some false)) = some r := h
 clear h
 by_cases c3 : a0_0 = a1_0
 ·rw [if_pos c3] at H
  have c3b0 : (a0_0 == a1_0) = true := beq_iff_eq.mpr c3
  have c3b1 : (a0_0 != a1_0) = false := bne_eq_false_iff_eq.mpr c3
  clear c3
  replace H := Option.bind_eq_some_iff.mp H
  obtain ⟨t334, A40, H⟩ := H
  replace H : (if t334 = true then ((laws_eqIntS.f k l0_2 l1_2).bind fun t335 => (if t335 = true then (if a0_3 = a1_3 then (some true) else (some false)) else (some false))) else (some false)) = some r := H
  have A4 := aM_ A40
  clear A40
  by_cases c5 : t334 = true
  ·subst c5
   have H1 : ((laws_eqIntS.f k l0_2 l1_2).bind fun t335 => (if t335 = true then (if a0_3 = a1_3 then (some true) else (some false)) else (some false))) = some r := by rw [if_pos rfl] at H; exact H
   clear H
   have H := H1
   clear H1
   replace H := Option.bind_eq_some_iff.mp H
   obtain ⟨t335, A60, H⟩ := H
   replace H : (if t335 = true then (if a0_3 = a1_3 then (some true) else (some false)) else (some false)) = some r := H
   have A6 := aM_ A60
   clear A60
   by_cases c7 : t335 = true
   ·subst c7
    have H1 : (if a0_3 = a1_3 then (some true) else (some false)) = some r := by rw [if_pos rfl] at H; exact H
    clear H
    have H := H1
    clear H1
    by_cases c8 : a0_3 = a1_3
    ·rw [if_pos c8] at H
     have c8b0 : (a0_3 == a1_3) = true := beq_iff_eq.mpr c8
     have c8b1 : (a0_3 != a1_3) = false := bne_eq_false_iff_eq.mpr c8
     clear c8
     obtain rfl := Option.some.inj H
     go_enter Try.func91, Try.ntmps91
     go_wp2_with (first | ((with_reducible refine gate_dst (N := 2) rfl ?_); refine bX_ 2 (cs := #[.int .i64 a0_0, .slice A0_1 l0_1.length c0_1, .slice A0_2 l0_2.length c0_2, .int .i64 a0_3]) (t := 106) ?_; intro gb332 hg w9 hbox hb; have n0 := aM_ (sT_ HB.out hb); have n1 := aM_ (hbox); have n2 := aM_ (sZ_ hg HB.out); have n3 := aM_ (sZ_ hg HB.out); clear HB; have HB := n0; have BK332 := n1; have GW332 := n2; have GE332 := n3; clear n0 n1 n2 n3; clear hb hbox hg) | ((with_reducible refine gate_dst (N := 3) rfl ?_); refine bX_ 3 (cs := #[.int .i64 a1_0, .slice A1_1 l1_1.length c1_1, .slice A1_2 l1_2.length c1_2, .int .i64 a1_3]) (t := 106) ?_; intro gb333 hg w10 hbox hb; have n0 := aM_ (nB_ BK332.out hb); have n1 := aM_ (sT_ HB.out hb); have n2 := aM_ (hbox); have n3 := aM_ (sZ_ hg HB.out); have n4 := aM_ (sZ_ hg HB.out); have n5 := aM_ (nL_ hg BK332.out); have n6 := aM_ (nG_ hg BK332.out); clear BK332; clear HB; have BK332 := n0; have HB := n1; have BK333 := n2; have GW333 := n3; have GE333 := n4; have NB332_333 := n5; have NB333_332 := n6; clear n0 n1 n2 n3 n4 n5 n6; clear hb hbox hg; have hnb11 := NB332_333.out; have hnc11 := NB333_332.out; obtain ⟨hcz12_0, hcz12_1, hcz12_2, hcz12_3, hfz12_0, hfz12_1, hfz12_2, hfz12_3⟩ := bR4_ BK332.out; obtain ⟨hcz13_0, hcz13_1, hcz13_2, hcz13_3, hfz13_0, hfz13_1, hfz13_2, hfz13_3⟩ := bR4_ BK333.out) | ((with_reducible refine gate_callee (f := 12) rfl ?_); refine gL_ (some 14) Try.func12 #[.slice A0_1 l0_1.length c0_1, .slice A1_1 l1_1.length c1_1] ?_; (with_reducible refine (laws_eqIntS.calls k _ _ l0_1 _ _ l1_1 true _ ?side1 ?side2 ?side3 ?side4 A4.out).mono ?_); (case side1 => exact cS_ (Kd.C_below HR0_1.out HB.out)); (case side2 => exact HC0_1.out); (case side3 => exact cS_ (Kd.C_below HR1_1.out HB.out)); (case side4 => exact HC1_1.out); rintro e w' ⟨rfl, ⟨nd, rfl⟩⟩; refine ⟨_, rfl, ?_⟩) | ((with_reducible refine gate_callee (f := 12) rfl ?_); refine gL_ (some 20) Try.func12 #[.slice A0_2 l0_2.length c0_2, .slice A1_2 l1_2.length c1_2] ?_; (with_reducible refine (laws_eqIntS.calls k _ _ l0_2 _ _ l1_2 true _ ?side1 ?side2 ?side3 ?side4 A6.out).mono ?_); (case side1 => exact cS_ (Kd.C_below HR0_2.out (by repeat (first | (with_reducible first | exact HB.out | apply hA_ | apply hN_ | apply hD_ | refine below_set ?_ GE332.out | refine below_set ?_ GE333.out) | exact HB.out)))); (case side2 => exact HC0_2.out); (case side3 => exact cS_ (Kd.C_below HR1_2.out (by repeat (first | (with_reducible first | exact HB.out | apply hA_ | apply hN_ | apply hD_ | refine below_set ?_ GE332.out | refine below_set ?_ GE333.out) | exact HB.out)))); (case side4 => exact HC1_2.out); rintro e w' ⟨rfl, ⟨nd, rfl⟩⟩; refine ⟨_, rfl, ?_⟩))
     go_ret
     exact fI_ HB.out
    ·rw [if_neg c8] at H
     have c8b0 : (a0_3 == a1_3) = false := beq_eq_false_iff_ne.mpr c8
     have c8b1 : (a0_3 != a1_3) = true := bne_iff_ne.mpr c8
     obtain rfl := Option.some.inj H
     go_enter Try.func91, Try.ntmps91
     go_wp2_with (first | ((with_reducible refine gate_dst (N := 2) rfl ?_); refine bX_ 2 (cs := #[.int .i64 a0_0, .slice A0_1 l0_1.length c0_1, .slice A0_2 l0_2.length c0_2, .int .i64 a0_3]) (t := 106) ?_; intro gb332 hg w14 hbox hb; have n0 := aM_ (sT_ HB.out hb); have n1 := aM_ (hbox); have n2 := aM_ (sZ_ hg HB.out); have n3 := aM_ (sZ_ hg HB.out); clear HB; have HB := n0; have BK332 := n1; have GW332 := n2; have GE332 := n3; clear n0 n1 n2 n3; clear hb hbox hg) | ((with_reducible refine gate_dst (N := 3) rfl ?_); refine bX_ 3 (cs := #[.int .i64 a1_0, .slice A1_1 l1_1.length c1_1, .slice A1_2 l1_2.length c1_2, .int .i64 a1_3]) (t := 106) ?_; intro gb333 hg w15 hbox hb; have n0 := aM_ (nB_ BK332.out hb); have n1 := aM_ (sT_ HB.out hb); have n2 := aM_ (hbox); have n3 := aM_ (sZ_ hg HB.out); have n4 := aM_ (sZ_ hg HB.out); have n5 := aM_ (nL_ hg BK332.out); have n6 := aM_ (nG_ hg BK332.out); clear BK332; clear HB; have BK332 := n0; have HB := n1; have BK333 := n2; have GW333 := n3; have GE333 := n4; have NB332_333 := n5; have NB333_332 := n6; clear n0 n1 n2 n3 n4 n5 n6; clear hb hbox hg; have hnb16 := NB332_333.out; have hnc16 := NB333_332.out; obtain ⟨hcz17_0, hcz17_1, hcz17_2, hcz17_3, hfz17_0, hfz17_1, hfz17_2, hfz17_3⟩ := bR4_ BK332.out; obtain ⟨hcz18_0, hcz18_1, hcz18_2, hcz18_3, hfz18_0, hfz18_1, hfz18_2, hfz18_3⟩ := bR4_ BK333.out) | ((with_reducible refine gate_callee (f := 12) rfl ?_); refine gL_ (some 14) Try.func12 #[.slice A0_1 l0_1.length c0_1, .slice A1_1 l1_1.length c1_1] ?_; (with_reducible refine (laws_eqIntS.calls k _ _ l0_1 _ _ l1_1 true _ ?side1 ?side2 ?side3 ?side4 A4.out).mono ?_); (case side1 => exact cS_ (Kd.C_below HR0_1.out HB.out)); (case side2 => exact HC0_1.out); (case side3 => exact cS_ (Kd.C_below HR1_1.out HB.out)); (case side4 => exact HC1_1.out); rintro e w' ⟨rfl, ⟨nd, rfl⟩⟩; refine ⟨_, rfl, ?_⟩) | ((with_reducible refine gate_callee (f := 12) rfl ?_); refine gL_ (some 20) Try.func12 #[.slice A0_2 l0_2.length c0_2, .slice A1_2 l1_2.length c1_2] ?_; (with_reducible refine (laws_eqIntS.calls k _ _ l0_2 _ _ l1_2 true _ ?side1 ?side2 ?side3 ?side4 A6.out).mono ?_); (case side1 => exact cS_ (Kd.C_below HR0_2.out (by repeat (first | (with_reducible first | exact HB.out | apply hA_ | apply hN_ | apply hD_ | refine below_set ?_ GE332.out | refine below_set ?_ GE333.out) | exact HB.out)))); (case side2 => exact HC0_2.out); (case side3 => exact cS_ (Kd.C_below HR1_2.out (by repeat (first | (with_reducible first | exact HB.out | apply hA_ | apply hN_ | apply hD_ | refine below_set ?_ GE332.out | refine below_set ?_ GE333.out) | exact HB.out)))); (case side4 => exact HC1_2.out); rintro e w' ⟨rfl, ⟨nd, rfl⟩⟩; refine ⟨_, rfl, ?_⟩))
     go_ret
     exact fI_ HB.out
   ·replace c7 := Bool.eq_false_iff.mpr c7
    subst c7
    have H1 : (some false) = some r := by rw [if_neg (show ¬ (false = true) by decide)] at H; exact H
    clear H
    have H := H1
    clear H1
    obtain rfl := Option.some.inj H
    go_enter Try.func91, Try.ntmps91
    go_wp2_with (first | ((with_reducible refine gate_dst (N := 2) rfl ?_); refine bX_ 2 (cs := #[.int .i64 a0_0, .slice A0_1 l0_1.length c0_1, .slice A0_2 l0_2.length c0_2, .int .i64 a0_3]) (t := 106) ?_; intro gb332 hg w19 hbox hb; have n0 := aM_ (sT_ HB.out hb); have n1 := aM_ (hbox); have n2 := aM_ (sZ_ hg HB.out); have n3 := aM_ (sZ_ hg HB.out); clear HB; have HB := n0; have BK332 := n1; have GW332 := n2; have GE332 := n3; clear n0 n1 n2 n3; clear hb hbox hg) | ((with_reducible refine gate_dst (N := 3) rfl ?_); refine bX_ 3 (cs := #[.int .i64 a1_0, .slice A1_1 l1_1.length c1_1, .slice A1_2 l1_2.length c1_2, .int .i64 a1_3]) (t := 106) ?_; intro gb333 hg w20 hbox hb; have n0 := aM_ (nB_ BK332.out hb); have n1 := aM_ (sT_ HB.out hb); have n2 := aM_ (hbox); have n3 := aM_ (sZ_ hg HB.out); have n4 := aM_ (sZ_ hg HB.out); have n5 := aM_ (nL_ hg BK332.out); have n6 := aM_ (nG_ hg BK332.out); clear BK332; clear HB; have BK332 := n0; have HB := n1; have BK333 := n2; have GW333 := n3; have GE333 := n4; have NB332_333 := n5; have NB333_332 := n6; clear n0 n1 n2 n3 n4 n5 n6; clear hb hbox hg; have hnb21 := NB332_333.out; have hnc21 := NB333_332.out; obtain ⟨hcz22_0, hcz22_1, hcz22_2, hcz22_3, hfz22_0, hfz22_1, hfz22_2, hfz22_3⟩ := bR4_ BK332.out; obtain ⟨hcz23_0, hcz23_1, hcz23_2, hcz23_3, hfz23_0, hfz23_1, hfz23_2, hfz23_3⟩ := bR4_ BK333.out) | ((with_reducible refine gate_callee (f := 12) rfl ?_); refine gL_ (some 14) Try.func12 #[.slice A0_1 l0_1.length c0_1, .slice A1_1 l1_1.length c1_1] ?_; (with_reducible refine (laws_eqIntS.calls k _ _ l0_1 _ _ l1_1 true _ ?side1 ?side2 ?side3 ?side4 A4.out).mono ?_); (case side1 => exact cS_ (Kd.C_below HR0_1.out HB.out)); (case side2 => exact HC0_1.out); (case side3 => exact cS_ (Kd.C_below HR1_1.out HB.out)); (case side4 => exact HC1_1.out); rintro e w' ⟨rfl, ⟨nd, rfl⟩⟩; refine ⟨_, rfl, ?_⟩) | ((with_reducible refine gate_callee (f := 12) rfl ?_); refine gL_ (some 20) Try.func12 #[.slice A0_2 l0_2.length c0_2, .slice A1_2 l1_2.length c1_2] ?_; (with_reducible refine (laws_eqIntS.calls k _ _ l0_2 _ _ l1_2 false _ ?side1 ?side2 ?side3 ?side4 A6.out).mono ?_); (case side1 => exact cS_ (Kd.C_below HR0_2.out (by repeat (first | (with_reducible first | exact HB.out | apply hA_ | apply hN_ | apply hD_ | refine below_set ?_ GE332.out | refine below_set ?_ GE333.out) | exact HB.out)))); (case side2 => exact HC0_2.out); (case side3 => exact cS_ (Kd.C_below HR1_2.out (by repeat (first | (with_reducible first | exact HB.out | apply hA_ | apply hN_ | apply hD_ | refine below_set ?_ GE332.out | refine below_set ?_ GE333.out) | exact HB.out)))); (case side4 => exact HC1_2.out); rintro e w' ⟨rfl, ⟨nd, rfl⟩⟩; refine ⟨_, rfl, ?_⟩))
    go_ret
    exact fI_ HB.out
  ·replace c5 := Bool.eq_false_iff.mpr c5
   subst c5
   have H1 : (some false) = some r := by rw [if_neg (show ¬ (false = true) by decide)] at H; exact H
   clear H
   have H := H1
   clear H1
   obtain rfl := Option.some.inj H
   go_enter Try.func91, Try.ntmps91
   go_wp2_with (first | ((with_reducible refine gate_dst (N := 2) rfl ?_); refine bX_ 2 (cs := #[.int .i64 a0_0, .slice A0_1 l0_1.length c0_1, .slice A0_2 l0_2.length c0_2, .int .i64 a0_3]) (t := 106) ?_; intro gb332 hg w24 hbox hb; have n0 := aM_ (sT_ HB.out hb); have n1 := aM_ (hbox); have n2 := aM_ (sZ_ hg HB.out); have n3 := aM_ (sZ_ hg HB.out); clear HB; have HB := n0; have BK332 := n1; have GW332 := n2; have GE332 := n3; clear n0 n1 n2 n3; clear hb hbox hg) | ((with_reducible refine gate_dst (N := 3) rfl ?_); refine bX_ 3 (cs := #[.int .i64 a1_0, .slice A1_1 l1_1.length c1_1, .slice A1_2 l1_2.length c1_2, .int .i64 a1_3]) (t := 106) ?_; intro gb333 hg w25 hbox hb; have n0 := aM_ (nB_ BK332.out hb); have n1 := aM_ (sT_ HB.out hb); have n2 := aM_ (hbox); have n3 := aM_ (sZ_ hg HB.out); have n4 := aM_ (sZ_ hg HB.out); have n5 := aM_ (nL_ hg BK332.out); have n6 := aM_ (nG_ hg BK332.out); clear BK332; clear HB; have BK332 := n0; have HB := n1; have BK333 := n2; have GW333 := n3; have GE333 := n4; have NB332_333 := n5; have NB333_332 := n6; clear n0 n1 n2 n3 n4 n5 n6; clear hb hbox hg; have hnb26 := NB332_333.out; have hnc26 := NB333_332.out; obtain ⟨hcz27_0, hcz27_1, hcz27_2, hcz27_3, hfz27_0, hfz27_1, hfz27_2, hfz27_3⟩ := bR4_ BK332.out; obtain ⟨hcz28_0, hcz28_1, hcz28_2, hcz28_3, hfz28_0, hfz28_1, hfz28_2, hfz28_3⟩ := bR4_ BK333.out) | ((with_reducible refine gate_callee (f := 12) rfl ?_); refine gL_ (some 14) Try.func12 #[.slice A0_1 l0_1.length c0_1, .slice A1_1 l1_1.length c1_1] ?_; (with_reducible refine (laws_eqIntS.calls k _ _ l0_1 _ _ l1_1 false _ ?side1 ?side2 ?side3 ?side4 A4.out).mono ?_); (case side1 => exact cS_ (Kd.C_below HR0_1.out HB.out)); (case side2 => exact HC0_1.out); (case side3 => exact cS_ (Kd.C_below HR1_1.out HB.out)); (case side4 => exact HC1_1.out); rintro e w' ⟨rfl, ⟨nd, rfl⟩⟩; refine ⟨_, rfl, ?_⟩))
   go_ret
   exact fI_ HB.out
 ·rw [if_neg c3] at H
  have c3b0 : (a0_0 == a1_0) = false := beq_eq_false_iff_ne.mpr c3
  have c3b1 : (a0_0 != a1_0) = true := bne_iff_ne.mpr c3
  obtain rfl := Option.some.inj H
  go_enter Try.func91, Try.ntmps91
  go_wp2_with (first | ((with_reducible refine gate_dst (N := 2) rfl ?_); refine bX_ 2 (cs := #[.int .i64 a0_0, .slice A0_1 l0_1.length c0_1, .slice A0_2 l0_2.length c0_2, .int .i64 a0_3]) (t := 106) ?_; intro gb332 hg w29 hbox hb; have n0 := aM_ (sT_ HB.out hb); have n1 := aM_ (hbox); have n2 := aM_ (sZ_ hg HB.out); have n3 := aM_ (sZ_ hg HB.out); clear HB; have HB := n0; have BK332 := n1; have GW332 := n2; have GE332 := n3; clear n0 n1 n2 n3; clear hb hbox hg) | ((with_reducible refine gate_dst (N := 3) rfl ?_); refine bX_ 3 (cs := #[.int .i64 a1_0, .slice A1_1 l1_1.length c1_1, .slice A1_2 l1_2.length c1_2, .int .i64 a1_3]) (t := 106) ?_; intro gb333 hg w30 hbox hb; have n0 := aM_ (nB_ BK332.out hb); have n1 := aM_ (sT_ HB.out hb); have n2 := aM_ (hbox); have n3 := aM_ (sZ_ hg HB.out); have n4 := aM_ (sZ_ hg HB.out); have n5 := aM_ (nL_ hg BK332.out); have n6 := aM_ (nG_ hg BK332.out); clear BK332; clear HB; have BK332 := n0; have HB := n1; have BK333 := n2; have GW333 := n3; have GE333 := n4; have NB332_333 := n5; have NB333_332 := n6; clear n0 n1 n2 n3 n4 n5 n6; clear hb hbox hg; have hnb31 := NB332_333.out; have hnc31 := NB333_332.out; obtain ⟨hcz32_0, hcz32_1, hcz32_2, hcz32_3, hfz32_0, hfz32_1, hfz32_2, hfz32_3⟩ := bR4_ BK332.out; obtain ⟨hcz33_0, hcz33_1, hcz33_2, hcz33_3, hfz33_0, hfz33_1, hfz33_2, hfz33_3⟩ := bR4_ BK333.out))
  go_ret
  exact fI_ HB.out
def laws_eqCoreS.l0 : Nat → List (S106) → List (S106) → Int → Option (Bool)
  | 0, _, _, _ => none
  | k + 1, x0, x1, x5 => if x5 < (x0.length : Int) then (if 0 ≤ x5 then (if x5 < (x1.length : Int) then ((laws_eqCore.f k ((rd_T106 x0 x5).f0) ((rd_T106 x0 x5).f1) ((rd_T106 x0 x5).f2) ((rd_T106 x0 x5).f3) ((rd_T106 x1 x5).f0) ((rd_T106 x1 x5).f1) ((rd_T106 x1 x5).f2) ((rd_T106 x1 x5).f3)).bind fun t338 => (if t338 = true then (laws_eqCoreS.l0 k x0 x1 (wrap64 (x5 + 1))) else (some false))) else (none)) else (none)) else (some true)
def laws_eqCoreS.f (k : Nat) (l0 : List (S106)) (l1 : List (S106)) : Option (Bool) := if (l0.length : Int) = (l1.length : Int) then (laws_eqCoreS.l0 k l0 l1 0) else (some false)
def laws_eqCoreS.T6 : Bool × List (List Nat × List Nat) := (true, [([], []), ([], []), ([0, 1], [0, 1]), ([2], [2]), ([], []), ([], []), ([4, 5], [4, 5]), ([6], [6]), ([3, 7], [3, 7]), ([8], [8])])
def laws_eqCoreS.B6 : List Nat := [0, 0, 3, 7, 0, 0, 48, 112, 255, 511]
theorem laws_eqCoreS.tab6 : rtab .any (opsOf Try.f64 6) = laws_eqCoreS.T6 := by kernel_rfl
theorem laws_eqCoreS.bits6 : waitsOk laws_eqCoreS.T6.2 laws_eqCoreS.B6 = true := by kernel_rfl
set_option maxHeartbeats 8000000 in
set_option maxRecDepth 100000 in
theorem laws_eqCoreS.calls (k : Nat) (A0 : Option Addr) (c0 : Nat) (l0 : List (S106)) (A1 : Option Addr) (c1 : Nat) (l1 : List (S106)) (r : Bool) (w : World) (hr0 : Kd.C k106 w A0 l0.length l0) (hc0 : l0.length ≤ c0) (hr1 : Kd.C k106 w A1 l1.length l1) (hc1 : l1.length ≤ c1) (h : laws_eqCoreS.f k l0 l1 = some r) :
  Calls Try.prog 64 #[.slice A0 l0.length c0, .slice A1 l1.length c1] w fun e w' => e = .returned (.bool r) ∧ Below w.heap.size w w' := by
 have hu106 := Try.underlying106
 have HR0 := aM_ hr0
 have HC0 := aM_ hc0
 clear hr0 hc0
 have HR1 := aM_ hr1
 have HC1 := aM_ hc1
 clear hr1 hc1
 have HB := aM_ (Below.refl w.heap.size w)
 have H : (if (l0.length : Int) = (l1.length : Int) then (laws_eqCoreS.l0 k l0 l1 0) else (some false)) = some r := h
 clear h
 by_cases c3 : (l0.length : Int) = (l1.length : Int)
 ·rw [if_pos c3] at H
  have c3b0 : ((l0.length : Int) == (l1.length : Int)) = true := beq_iff_eq.mpr c3
  have c3b1 : ((l0.length : Int) != (l1.length : Int)) = false := bne_eq_false_iff_eq.mpr c3
  have c3b2 : (l0.length == l1.length) = true := by first | simpa using c3 | (simp at c3 ⊢; omega)
  clear c3
  have H' := aM_ H
  clear H
  go_enter Try.func64, Try.ntmps64
  go_wp2
  go_loopg [5] k (fun kq v5 w' => ∃ (x5_1 : Int), v5 = .int .i64 x5_1 ∧ Aside0 (laws_eqCoreS.l0 kq l0 l1 x5_1 = some r) ∧ Aside0 (kq ≤ k) ∧ Aside0 (Below w.heap.size w w'))
  case atStart => exact ⟨(0), (by first | rfl | (simp; done) | (simp [*]; done)), H', ⟨Nat.le_refl _⟩, ⟨gW_ HB.out⟩⟩
  case round =>
   clear H'
   try clear c1
   try clear p2
   try clear c3
   try clear c3b0
   try clear c3b1
   try clear c3b2
   obtain ⟨x5_1, rfl, HA, HK1, HB⟩ := hrel
   cases gk with
   | zero => exact absurd HA.out (by simp [laws_eqCoreS.l0])
   | succ k1 =>
    have H := HA.out
    clear HA
    simp only [laws_eqCoreS.l0] at H
    by_cases c4 : x5_1 < (l0.length : Int)
    ·rw [if_pos c4] at H
     have c4b0 : decide (x5_1 < (l0.length : Int)) = true := decide_eq_true c4
     clear c4
     by_cases c5 : 0 ≤ x5_1
     ·rw [if_pos c5] at H
      have c5b0 : decide (0 ≤ x5_1) = true := decide_eq_true c5
      clear c5
      by_cases c6 : x5_1 < (l1.length : Int)
      ·rw [if_pos c6] at H
       have c6b0 : decide (x5_1 < (l1.length : Int)) = true := decide_eq_true c6
       clear c6
       replace H := Option.bind_eq_some_iff.mp H
       obtain ⟨t338, A70, H⟩ := H
       replace H : (if t338 = true then (laws_eqCoreS.l0 k1 l0 l1 (wrap64 (x5_1 + 1))) else (some false)) = some r := H
       have A7 := aM_ A70
       clear A70
       by_cases c8 : t338 = true
       ·subst c8
        have H1 : (laws_eqCoreS.l0 k1 l0 l1 (wrap64 (x5_1 + 1))) = some r := by rw [if_pos rfl] at H; exact H
        clear H
        have H := H1
        clear H1
        have H' := aM_ H
        clear H
        try go_wp2
        have n0 := aM_ (below_drew1 HB.out)
        clear HB
        have HB := n0
        clear n0
        have p336 : 0 ≤ (x5_1 : Int) := of_decide_eq_true (by first | (with_reducible assumption) | assumption)
        have q336 : x5_1 < (l0.length : Int) := of_decide_eq_true (by first | (with_reducible assumption) | assumption)
        obtain ⟨ad336, A336_1, c336_1, A336_2, c336_2, e336, hx336_0, hx336_1, hx336_2, hx336_3, hl336_1, hi336_1, hl336_2, hi336_2⟩ := at_T106 HR0.out x5_1 p336 q336
        have hw336_3 := hx336_3
        have hw336_2 := hx336_2
        have hw336_1 := hx336_1
        have hw336_0 := hx336_0
        cases e336
        replace hx336_0 := cB_ HB.out hx336_0
        replace hx336_1 := cB_ HB.out hx336_1
        replace hx336_2 := cB_ HB.out hx336_2
        replace hx336_3 := cB_ HB.out hx336_3
        have HR336_1 := aM_ hi336_1
        have HC336_1 := aM_ hl336_1
        clear hi336_1 hl336_1
        have HR336_2 := aM_ hi336_2
        have HC336_2 := aM_ hl336_2
        clear hi336_2 hl336_2
        replace p336 := eq_true p336
        replace q336 := eq_true q336
        have p337 : 0 ≤ (x5_1 : Int) := of_decide_eq_true (by first | (with_reducible assumption) | assumption)
        have q337 : x5_1 < (l1.length : Int) := of_decide_eq_true (by first | (with_reducible assumption) | assumption)
        obtain ⟨ad337, A337_1, c337_1, A337_2, c337_2, e337, hx337_0, hx337_1, hx337_2, hx337_3, hl337_1, hi337_1, hl337_2, hi337_2⟩ := at_T106 HR1.out x5_1 p337 q337
        have hw337_3 := hx337_3
        have hw337_2 := hx337_2
        have hw337_1 := hx337_1
        have hw337_0 := hx337_0
        cases e337
        replace hx337_0 := cB_ HB.out hx337_0
        replace hx337_1 := cB_ HB.out hx337_1
        replace hx337_2 := cB_ HB.out hx337_2
        replace hx337_3 := cB_ HB.out hx337_3
        have HR337_1 := aM_ hi337_1
        have HC337_1 := aM_ hl337_1
        clear hi337_1 hl337_1
        have HR337_2 := aM_ hi337_2
        have HC337_2 := aM_ hl337_2
        clear hi337_2 hl337_2
        replace p337 := eq_true p337
        replace q337 := eq_true q337
        refine start_ (n := 10) (S := fun w' => w'.cell? (ad336.add ((x5_1).toNat * 4)) = some (.int .i64 ((rd_T106 l0 x5_1).f0)) ∧ w'.cell? ⟨(ad336.add ((x5_1).toNat * 4)).block, (ad336.add ((x5_1).toNat * 4)).off + 1, none⟩ = some (.slice A336_1 ((rd_T106 l0 x5_1).f1).length c336_1) ∧ w'.cell? ⟨(ad336.add ((x5_1).toNat * 4)).block, (ad336.add ((x5_1).toNat * 4)).off + 2, none⟩ = some (.slice A336_2 ((rd_T106 l0 x5_1).f2).length c336_2) ∧ w'.cell? ⟨(ad336.add ((x5_1).toNat * 4)).block, (ad336.add ((x5_1).toNat * 4)).off + 3, none⟩ = some (.int .i64 ((rd_T106 l0 x5_1).f3)) ∧ w'.cell? (ad337.add ((x5_1).toNat * 4)) = some (.int .i64 ((rd_T106 l1 x5_1).f0)) ∧ w'.cell? ⟨(ad337.add ((x5_1).toNat * 4)).block, (ad337.add ((x5_1).toNat * 4)).off + 1, none⟩ = some (.slice A337_1 ((rd_T106 l1 x5_1).f1).length c337_1) ∧ w'.cell? ⟨(ad337.add ((x5_1).toNat * 4)).block, (ad337.add ((x5_1).toNat * 4)).off + 2, none⟩ = some (.slice A337_2 ((rd_T106 l1 x5_1).f2).length c337_2) ∧ w'.cell? ⟨(ad337.add ((x5_1).toNat * 4)).block, (ad337.add ((x5_1).toNat * 4)).off + 3, none⟩ = some (.int .i64 ((rd_T106 l1 x5_1).f3))) (ds := []) (mk_ 10 0) (by kernel_rfl) rfl rfl ⟨(cB_ HB.out hw336_0 :), (cB_ HB.out hw336_1 :), (cB_ HB.out hw336_2 :), (cB_ HB.out hw336_3 :), (cB_ HB.out hw337_0 :), (cB_ HB.out hw337_1 :), (cB_ HB.out hw337_2 :), (cB_ HB.out hw337_3 :)⟩ (fun hHeld => ?_); refine with_tabW laws_eqCoreS.tab6 laws_eqCoreS.bits6 (fun HT_ HW_ => ?_)
        generalize wr.drew = w9 at HB HR336_1 HR336_2 HR337_1 HR337_2 hx336_0 hx336_1 hx336_2 hx336_3 hx337_0 hx337_1 hx337_2 hx337_3 hHeld ⊢
        refine pU_ 0 (some 17) (mk_ 10 1) ?_
        refine pU_ 1 (some 18) (mk_ 10 3) ?_
        refine pU_ 2 (some 19) (mk_ 10 7) ?_
        refine pU_ 4 (some 21) (mk_ 10 23) ?_
        refine pU_ 5 (some 22) (mk_ 10 55) ?_
        refine pU_ 6 (some 23) (mk_ 10 119) ?_
        refine tK8_ 3 (some 20) (mk_ 10 127) ?_
        refine tK8_ 7 (some 24) (mk_ 10 255) ?_
        refine oN_ 8 (some 25) (mk_ 10 511) (fun K hK => ?_)
        refine gO_ Try.func91 #[.agg #[.int .i64 ((rd_T106 l0 x5_1).f0), .slice A336_1 ((rd_T106 l0 x5_1).f1).length c336_1, .slice A336_2 ((rd_T106 l0 x5_1).f2).length c336_2, .int .i64 ((rd_T106 l0 x5_1).f3)], .agg #[.int .i64 ((rd_T106 l1 x5_1).f0), .slice A337_1 ((rd_T106 l1 x5_1).f1).length c337_1, .slice A337_2 ((rd_T106 l1 x5_1).f2).length c337_2, .int .i64 ((rd_T106 l1 x5_1).f3)]] ?_
        with_reducible refine (laws_eqCore.calls k1 ((rd_T106 l0 x5_1).f0) _ _ ((rd_T106 l0 x5_1).f1) _ _ ((rd_T106 l0 x5_1).f2) ((rd_T106 l0 x5_1).f3) ((rd_T106 l1 x5_1).f0) _ _ ((rd_T106 l1 x5_1).f1) _ _ ((rd_T106 l1 x5_1).f2) ((rd_T106 l1 x5_1).f3) true _ ?side1 ?side2 ?side3 ?side4 ?side5 ?side6 ?side7 ?side8 A7.out).mono ?_
        (case side1 => exact cS_ (Kd.C_below HR336_1.out HB.out))
        (case side2 => exact HC336_1.out)
        (case side3 => exact cS_ (Kd.C_below HR336_2.out HB.out))
        (case side4 => exact HC336_2.out)
        (case side5 => exact cS_ (Kd.C_below HR337_1.out HB.out))
        (case side6 => exact HC337_1.out)
        (case side7 => exact cS_ (Kd.C_below HR337_2.out HB.out))
        (case side8 => exact HC337_2.out)
        rintro e w10 ⟨rfl, hb⟩
        refine ⟨_, rfl, ?_⟩
        have n0 := aM_ (sT_ HB.out hb)
        clear HB
        have HB := n0
        clear n0
        (try clear hb)
        (try clear hb2)
        (try clear hk)
        (try clear hi)
        refine hK.out _ _ ⟨(cB_ HB.out hw336_0 :), (cB_ HB.out hw336_1 :), (cB_ HB.out hw336_2 :), (cB_ HB.out hw336_3 :), (cB_ HB.out hw337_0 :), (cB_ HB.out hw337_1 :), (cB_ HB.out hw337_2 :), (cB_ HB.out hw337_3 :)⟩ (fun hHeld => ?_)
        clear hK K
        refine norm_ (a' := ?_) ?_ ?_
        rotate_left
        ·show Act.put _ (some 25) _ = _
         simp only [pt_, pn_, sI_, s0_, s1_, i64_w, i32_w]
         rfl
        refine pU_ 9 (some 26) (mk_ 10 1023) ?_
        refine done_ (done_of HT_.out (by kernel_rfl)) ?_
        try go_wp2
        go_roundg k1
        case measure => have := HK1.out; omega
        case rel => exact ⟨(wrap64 (x5_1 + 1)), (by first | rfl | (simp; done) | (simp [*]; done)), H', ⟨by have := HK1.out; omega⟩, ⟨gW_ HB.out⟩⟩
       ·replace c8 := Bool.eq_false_iff.mpr c8
        subst c8
        have H1 : (some false) = some r := by rw [if_neg (show ¬ (false = true) by decide)] at H; exact H
        clear H
        have H := H1
        clear H1
        obtain rfl := Option.some.inj H
        try go_wp2
        have n0 := aM_ (below_drew1 HB.out)
        clear HB
        have HB := n0
        clear n0
        have p336 : 0 ≤ (x5_1 : Int) := of_decide_eq_true (by first | (with_reducible assumption) | assumption)
        have q336 : x5_1 < (l0.length : Int) := of_decide_eq_true (by first | (with_reducible assumption) | assumption)
        obtain ⟨ad336, A336_1, c336_1, A336_2, c336_2, e336, hx336_0, hx336_1, hx336_2, hx336_3, hl336_1, hi336_1, hl336_2, hi336_2⟩ := at_T106 HR0.out x5_1 p336 q336
        have hw336_3 := hx336_3
        have hw336_2 := hx336_2
        have hw336_1 := hx336_1
        have hw336_0 := hx336_0
        cases e336
        replace hx336_0 := cB_ HB.out hx336_0
        replace hx336_1 := cB_ HB.out hx336_1
        replace hx336_2 := cB_ HB.out hx336_2
        replace hx336_3 := cB_ HB.out hx336_3
        have HR336_1 := aM_ hi336_1
        have HC336_1 := aM_ hl336_1
        clear hi336_1 hl336_1
        have HR336_2 := aM_ hi336_2
        have HC336_2 := aM_ hl336_2
        clear hi336_2 hl336_2
        replace p336 := eq_true p336
        replace q336 := eq_true q336
        have p337 : 0 ≤ (x5_1 : Int) := of_decide_eq_true (by first | (with_reducible assumption) | assumption)
        have q337 : x5_1 < (l1.length : Int) := of_decide_eq_true (by first | (with_reducible assumption) | assumption)
        obtain ⟨ad337, A337_1, c337_1, A337_2, c337_2, e337, hx337_0, hx337_1, hx337_2, hx337_3, hl337_1, hi337_1, hl337_2, hi337_2⟩ := at_T106 HR1.out x5_1 p337 q337
        have hw337_3 := hx337_3
        have hw337_2 := hx337_2
        have hw337_1 := hx337_1
        have hw337_0 := hx337_0
        cases e337
        replace hx337_0 := cB_ HB.out hx337_0
        replace hx337_1 := cB_ HB.out hx337_1
        replace hx337_2 := cB_ HB.out hx337_2
        replace hx337_3 := cB_ HB.out hx337_3
        have HR337_1 := aM_ hi337_1
        have HC337_1 := aM_ hl337_1
        clear hi337_1 hl337_1
        have HR337_2 := aM_ hi337_2
        have HC337_2 := aM_ hl337_2
        clear hi337_2 hl337_2
        replace p337 := eq_true p337
        replace q337 := eq_true q337
        refine start_ (n := 10) (S := fun w' => w'.cell? (ad336.add ((x5_1).toNat * 4)) = some (.int .i64 ((rd_T106 l0 x5_1).f0)) ∧ w'.cell? ⟨(ad336.add ((x5_1).toNat * 4)).block, (ad336.add ((x5_1).toNat * 4)).off + 1, none⟩ = some (.slice A336_1 ((rd_T106 l0 x5_1).f1).length c336_1) ∧ w'.cell? ⟨(ad336.add ((x5_1).toNat * 4)).block, (ad336.add ((x5_1).toNat * 4)).off + 2, none⟩ = some (.slice A336_2 ((rd_T106 l0 x5_1).f2).length c336_2) ∧ w'.cell? ⟨(ad336.add ((x5_1).toNat * 4)).block, (ad336.add ((x5_1).toNat * 4)).off + 3, none⟩ = some (.int .i64 ((rd_T106 l0 x5_1).f3)) ∧ w'.cell? (ad337.add ((x5_1).toNat * 4)) = some (.int .i64 ((rd_T106 l1 x5_1).f0)) ∧ w'.cell? ⟨(ad337.add ((x5_1).toNat * 4)).block, (ad337.add ((x5_1).toNat * 4)).off + 1, none⟩ = some (.slice A337_1 ((rd_T106 l1 x5_1).f1).length c337_1) ∧ w'.cell? ⟨(ad337.add ((x5_1).toNat * 4)).block, (ad337.add ((x5_1).toNat * 4)).off + 2, none⟩ = some (.slice A337_2 ((rd_T106 l1 x5_1).f2).length c337_2) ∧ w'.cell? ⟨(ad337.add ((x5_1).toNat * 4)).block, (ad337.add ((x5_1).toNat * 4)).off + 3, none⟩ = some (.int .i64 ((rd_T106 l1 x5_1).f3))) (ds := []) (mk_ 10 0) (by kernel_rfl) rfl rfl ⟨(cB_ HB.out hw336_0 :), (cB_ HB.out hw336_1 :), (cB_ HB.out hw336_2 :), (cB_ HB.out hw336_3 :), (cB_ HB.out hw337_0 :), (cB_ HB.out hw337_1 :), (cB_ HB.out hw337_2 :), (cB_ HB.out hw337_3 :)⟩ (fun hHeld => ?_); refine with_tabW laws_eqCoreS.tab6 laws_eqCoreS.bits6 (fun HT_ HW_ => ?_)
        generalize wr.drew = w11 at HB HR336_1 HR336_2 HR337_1 HR337_2 hx336_0 hx336_1 hx336_2 hx336_3 hx337_0 hx337_1 hx337_2 hx337_3 hHeld ⊢
        refine pU_ 0 (some 17) (mk_ 10 1) ?_
        refine pU_ 1 (some 18) (mk_ 10 3) ?_
        refine pU_ 2 (some 19) (mk_ 10 7) ?_
        refine pU_ 4 (some 21) (mk_ 10 23) ?_
        refine pU_ 5 (some 22) (mk_ 10 55) ?_
        refine pU_ 6 (some 23) (mk_ 10 119) ?_
        refine tK8_ 3 (some 20) (mk_ 10 127) ?_
        refine tK8_ 7 (some 24) (mk_ 10 255) ?_
        refine oN_ 8 (some 25) (mk_ 10 511) (fun K hK => ?_)
        refine gO_ Try.func91 #[.agg #[.int .i64 ((rd_T106 l0 x5_1).f0), .slice A336_1 ((rd_T106 l0 x5_1).f1).length c336_1, .slice A336_2 ((rd_T106 l0 x5_1).f2).length c336_2, .int .i64 ((rd_T106 l0 x5_1).f3)], .agg #[.int .i64 ((rd_T106 l1 x5_1).f0), .slice A337_1 ((rd_T106 l1 x5_1).f1).length c337_1, .slice A337_2 ((rd_T106 l1 x5_1).f2).length c337_2, .int .i64 ((rd_T106 l1 x5_1).f3)]] ?_
        with_reducible refine (laws_eqCore.calls k1 ((rd_T106 l0 x5_1).f0) _ _ ((rd_T106 l0 x5_1).f1) _ _ ((rd_T106 l0 x5_1).f2) ((rd_T106 l0 x5_1).f3) ((rd_T106 l1 x5_1).f0) _ _ ((rd_T106 l1 x5_1).f1) _ _ ((rd_T106 l1 x5_1).f2) ((rd_T106 l1 x5_1).f3) false _ ?side1 ?side2 ?side3 ?side4 ?side5 ?side6 ?side7 ?side8 A7.out).mono ?_
        (case side1 => exact cS_ (Kd.C_below HR336_1.out HB.out))
        (case side2 => exact HC336_1.out)
        (case side3 => exact cS_ (Kd.C_below HR336_2.out HB.out))
        (case side4 => exact HC336_2.out)
        (case side5 => exact cS_ (Kd.C_below HR337_1.out HB.out))
        (case side6 => exact HC337_1.out)
        (case side7 => exact cS_ (Kd.C_below HR337_2.out HB.out))
        (case side8 => exact HC337_2.out)
        rintro e w12 ⟨rfl, hb⟩
        refine ⟨_, rfl, ?_⟩
        have n0 := aM_ (sT_ HB.out hb)
        clear HB
        have HB := n0
        clear n0
        (try clear hb)
        (try clear hb2)
        (try clear hk)
        (try clear hi)
        refine hK.out _ _ ⟨(cB_ HB.out hw336_0 :), (cB_ HB.out hw336_1 :), (cB_ HB.out hw336_2 :), (cB_ HB.out hw336_3 :), (cB_ HB.out hw337_0 :), (cB_ HB.out hw337_1 :), (cB_ HB.out hw337_2 :), (cB_ HB.out hw337_3 :)⟩ (fun hHeld => ?_)
        clear hK K
        refine norm_ (a' := ?_) ?_ ?_
        rotate_left
        ·show Act.put _ (some 25) _ = _
         simp only [pt_, pn_, sI_, s0_, s1_, i64_w, i32_w]
         rfl
        refine pU_ 9 (some 26) (mk_ 10 1023) ?_
        refine done_ (done_of HT_.out (by kernel_rfl)) ?_
        try go_wp2
        go_ret
        exact fI_ HB.out
      ·rw [if_neg c6] at H
       exact absurd H (by simp)
     ·rw [if_neg c5] at H
      exact absurd H (by simp)
    ·rw [if_neg c4] at H
     have c4b0 : decide (x5_1 < (l0.length : Int)) = false := decide_eq_false c4
     clear c4
     obtain rfl := Option.some.inj H
     go_wp2
     go_ret
     exact fI_ HB.out
 ·rw [if_neg c3] at H
  have c3b0 : ((l0.length : Int) == (l1.length : Int)) = false := beq_eq_false_iff_ne.mpr c3
  have c3b1 : ((l0.length : Int) != (l1.length : Int)) = true := bne_iff_ne.mpr c3
  have c3b2 : (l0.length == l1.length) = false := by first | simpa using c3 | (simp at c3 ⊢; omega)
  obtain rfl := Option.some.inj H
  go_enter Try.func64, Try.ntmps64
  go_wp2
  go_ret
  exact fI_ HB.out
def laws_eqMachine.f (k : Nat) (l0_0 : List (List (S145))) (l0_1 : List (S106)) (l0_2 : List (List (S119))) (l0_3 : List (S93)) (l1_0 : List (List (S145))) (l1_1 : List (S106)) (l1_2 : List (List (S119))) (l1_3 : List (S93)) : Option (Bool) := (laws_eqStepSS.f k l0_0 l1_0).bind fun t341 => (if t341 = true then ((laws_eqCoreS.f k l0_1 l1_1).bind fun t342 => (if t342 = true then ((laws_eqMemory.f k l0_2 l1_2).bind fun t343 => (if t343 = true then ((laws_eqNoteS.f k l0_3 l1_3).bind fun t344 => (if t344 = true then (some true) else (some false))) else (some false))) else (some false))) else (some false))
set_option maxHeartbeats 8000000 in
set_option maxRecDepth 100000 in
theorem laws_eqMachine.calls (k : Nat) (A0_0 : Option Addr) (c0_0 : Nat) (l0_0 : List (List (S145))) (A0_1 : Option Addr) (c0_1 : Nat) (l0_1 : List (S106)) (A0_2 : Option Addr) (c0_2 : Nat) (l0_2 : List (List (S119))) (A0_3 : Option Addr) (c0_3 : Nat) (l0_3 : List (S93)) (A1_0 : Option Addr) (c1_0 : Nat) (l1_0 : List (List (S145))) (A1_1 : Option Addr) (c1_1 : Nat) (l1_1 : List (S106)) (A1_2 : Option Addr) (c1_2 : Nat) (l1_2 : List (List (S119))) (A1_3 : Option Addr) (c1_3 : Nat) (l1_3 : List (S93)) (r : Bool) (w : World) (hr0_0 : Kd.C (Kd.slice 145 k145) w A0_0 l0_0.length l0_0) (hc0_0 : l0_0.length ≤ c0_0) (hr0_1 : Kd.C k106 w A0_1 l0_1.length l0_1) (hc0_1 : l0_1.length ≤ c0_1) (hr0_2 : Kd.C (Kd.slice 119 k119) w A0_2 l0_2.length l0_2) (hc0_2 : l0_2.length ≤ c0_2) (hr0_3 : Kd.C k93 w A0_3 l0_3.length l0_3) (hc0_3 : l0_3.length ≤ c0_3) (hr1_0 : Kd.C (Kd.slice 145 k145) w A1_0 l1_0.length l1_0) (hc1_0 : l1_0.length ≤ c1_0) (hr1_1 : Kd.C k106 w A1_1 l1_1.length l1_1) (hc1_1 : l1_1.length ≤ c1_1) (hr1_2 : Kd.C (Kd.slice 119 k119) w A1_2 l1_2.length l1_2) (hc1_2 : l1_2.length ≤ c1_2) (hr1_3 : Kd.C k93 w A1_3 l1_3.length l1_3) (hc1_3 : l1_3.length ≤ c1_3) (h : laws_eqMachine.f k l0_0 l0_1 l0_2 l0_3 l1_0 l1_1 l1_2 l1_3 = some r) :
  Calls Try.prog 25 #[.agg #[.slice A0_0 l0_0.length c0_0, .slice A0_1 l0_1.length c0_1, .slice A0_2 l0_2.length c0_2, .slice A0_3 l0_3.length c0_3], .agg #[.slice A1_0 l1_0.length c1_0, .slice A1_1 l1_1.length c1_1, .slice A1_2 l1_2.length c1_2, .slice A1_3 l1_3.length c1_3]] w fun e w' => e = .returned (.bool r) ∧ Below w.heap.size w w' := by
 have hu69 := Try.underlying69
 have hu30 := Try.underlying30
 have HR0_0 := aM_ hr0_0
 have HC0_0 := aM_ hc0_0
 clear hr0_0 hc0_0
 have HR0_1 := aM_ hr0_1
 have HC0_1 := aM_ hc0_1
 clear hr0_1 hc0_1
 have HR0_2 := aM_ hr0_2
 have HC0_2 := aM_ hc0_2
 clear hr0_2 hc0_2
 have HR0_3 := aM_ hr0_3
 have HC0_3 := aM_ hc0_3
 clear hr0_3 hc0_3
 have HR1_0 := aM_ hr1_0
 have HC1_0 := aM_ hc1_0
 clear hr1_0 hc1_0
 have HR1_1 := aM_ hr1_1
 have HC1_1 := aM_ hc1_1
 clear hr1_1 hc1_1
 have HR1_2 := aM_ hr1_2
 have HC1_2 := aM_ hc1_2
 clear hr1_2 hc1_2
 have HR1_3 := aM_ hr1_3
 have HC1_3 := aM_ hc1_3
 clear hr1_3 hc1_3
 have HB := aM_ (Below.refl w.heap.size w)
 have H : ((laws_eqStepSS.f k l0_0 l1_0).bind fun t341 => (if t341 = true then ((laws_eqCoreS.f k l0_1 l1_1).bind fun t342 => (if t342 = true then ((laws_eqMemory.f k l0_2 l1_2).bind fun t343 => (if t343 = true then ((laws_eqNoteS.f k l0_3 l1_3).bind fun t344 => (if t344 = true then (some true) else (some false))) else (some false))) else (some false))) else (some false))) = some r := h
 clear h
 replace H := Option.bind_eq_some_iff.mp H
 obtain ⟨t341, A30, H⟩ := H
 replace H : (if t341 = true then ((laws_eqCoreS.f k l0_1 l1_1).bind fun t342 => (if t342 = true then ((laws_eqMemory.f k l0_2 l1_2).bind fun t343 => (if t343 = true then ((laws_eqNoteS.f k l0_3 l1_3).bind fun t344 => (if t344 = true then (some true) else (some false))) else (some false))) else (some false))) else (some false)) = some r := H
 have A3 := aM_ A30
 clear A30
 by_cases c4 : t341 = true
 ·subst c4
  have H1 : ((laws_eqCoreS.f k l0_1 l1_1).bind fun t342 => (if t342 = true then ((laws_eqMemory.f k l0_2 l1_2).bind fun t343 => (if t343 = true then ((laws_eqNoteS.f k l0_3 l1_3).bind fun t344 => (if t344 = true then (some true) else (some false))) else (some false))) else (some false))) = some r := by rw [if_pos rfl] at H; exact H
  clear H
  have H := H1
  clear H1
  replace H := Option.bind_eq_some_iff.mp H
  obtain ⟨t342, A50, H⟩ := H
  replace H : (if t342 = true then ((laws_eqMemory.f k l0_2 l1_2).bind fun t343 => (if t343 = true then ((laws_eqNoteS.f k l0_3 l1_3).bind fun t344 => (if t344 = true then (some true) else (some false))) else (some false))) else (some false)) = some r := H
  have A5 := aM_ A50
  clear A50
  by_cases c6 : t342 = true
  ·subst c6
   have H1 : ((laws_eqMemory.f k l0_2 l1_2).bind fun t343 => (if t343 = true then ((laws_eqNoteS.f k l0_3 l1_3).bind fun t344 => (if t344 = true then (some true) else (some false))) else (some false))) = some r := by rw [if_pos rfl] at H; exact H
   clear H
   have H := H1
   clear H1
   replace H := Option.bind_eq_some_iff.mp H
   obtain ⟨t343, A70, H⟩ := H
   replace H : (if t343 = true then ((laws_eqNoteS.f k l0_3 l1_3).bind fun t344 => (if t344 = true then (some true) else (some false))) else (some false)) = some r := H
   have A7 := aM_ A70
   clear A70
   by_cases c8 : t343 = true
   ·subst c8
    have H1 : ((laws_eqNoteS.f k l0_3 l1_3).bind fun t344 => (if t344 = true then (some true) else (some false))) = some r := by rw [if_pos rfl] at H; exact H
    clear H
    have H := H1
    clear H1
    replace H := Option.bind_eq_some_iff.mp H
    obtain ⟨t344, A90, H⟩ := H
    replace H : (if t344 = true then (some true) else (some false)) = some r := H
    have A9 := aM_ A90
    clear A90
    by_cases c10 : t344 = true
    ·subst c10
     have H1 : (some true) = some r := by rw [if_pos rfl] at H; exact H
     clear H
     have H := H1
     clear H1
     obtain rfl := Option.some.inj H
     go_enter Try.func25, Try.ntmps25
     go_wp2_with (first | ((with_reducible refine gate_dst (N := 2) rfl ?_); refine bX_ 2 (cs := #[.slice A0_0 l0_0.length c0_0, .slice A0_1 l0_1.length c0_1, .slice A0_2 l0_2.length c0_2, .slice A0_3 l0_3.length c0_3]) (t := 69) ?_; intro gb339 hg w11 hbox hb; have n0 := aM_ (sT_ HB.out hb); have n1 := aM_ (hbox); have n2 := aM_ (sZ_ hg HB.out); have n3 := aM_ (sZ_ hg HB.out); clear HB; have HB := n0; have BK339 := n1; have GW339 := n2; have GE339 := n3; clear n0 n1 n2 n3; clear hb hbox hg) | ((with_reducible refine gate_dst (N := 3) rfl ?_); refine bX_ 3 (cs := #[.slice A1_0 l1_0.length c1_0, .slice A1_1 l1_1.length c1_1, .slice A1_2 l1_2.length c1_2, .slice A1_3 l1_3.length c1_3]) (t := 69) ?_; intro gb340 hg w12 hbox hb; have n0 := aM_ (nB_ BK339.out hb); have n1 := aM_ (sT_ HB.out hb); have n2 := aM_ (hbox); have n3 := aM_ (sZ_ hg HB.out); have n4 := aM_ (sZ_ hg HB.out); have n5 := aM_ (nL_ hg BK339.out); have n6 := aM_ (nG_ hg BK339.out); clear BK339; clear HB; have BK339 := n0; have HB := n1; have BK340 := n2; have GW340 := n3; have GE340 := n4; have NB339_340 := n5; have NB340_339 := n6; clear n0 n1 n2 n3 n4 n5 n6; clear hb hbox hg; have hnb13 := NB339_340.out; have hnc13 := NB340_339.out; obtain ⟨hcz14_0, hcz14_1, hcz14_2, hcz14_3, hfz14_0, hfz14_1, hfz14_2, hfz14_3⟩ := bR4_ BK339.out; obtain ⟨hcz15_0, hcz15_1, hcz15_2, hcz15_3, hfz15_0, hfz15_1, hfz15_2, hfz15_3⟩ := bR4_ BK340.out) | ((with_reducible refine gate_callee (f := 63) rfl ?_); refine gL_ (some 9) Try.func63 #[.slice A0_0 l0_0.length c0_0, .slice A1_0 l1_0.length c1_0] ?_; (with_reducible refine (laws_eqStepSS.calls k _ _ l0_0 _ _ l1_0 true _ ?side1 ?side2 ?side3 ?side4 A3.out).mono ?_); (case side1 => exact cS_ (Kd.C_below HR0_0.out HB.out)); (case side2 => exact HC0_0.out); (case side3 => exact cS_ (Kd.C_below HR1_0.out HB.out)); (case side4 => exact HC1_0.out); rintro e w16 ⟨rfl, hb⟩; refine ⟨_, rfl, ?_⟩; have n0 := aM_ (nB_ BK339.out hb); have n1 := aM_ (nB_ BK340.out hb); have n2 := aM_ (sT_ HB.out hb); clear BK339; clear BK340; clear HB; have BK339 := n0; have BK340 := n1; have HB := n2; clear n0 n1 n2; obtain ⟨hcz17_0, hcz17_1, hcz17_2, hcz17_3, hfz17_0, hfz17_1, hfz17_2, hfz17_3⟩ := bR4_ BK339.out; obtain ⟨hcz18_0, hcz18_1, hcz18_2, hcz18_3, hfz18_0, hfz18_1, hfz18_2, hfz18_3⟩ := bR4_ BK340.out) | ((with_reducible refine gate_callee (f := 64) rfl ?_); refine gL_ (some 15) Try.func64 #[.slice A0_1 l0_1.length c0_1, .slice A1_1 l1_1.length c1_1] ?_; (with_reducible refine (laws_eqCoreS.calls k _ _ l0_1 _ _ l1_1 true _ ?side1 ?side2 ?side3 ?side4 A5.out).mono ?_); (case side1 => exact cS_ (Kd.C_below HR0_1.out HB.out)); (case side2 => exact HC0_1.out); (case side3 => exact cS_ (Kd.C_below HR1_1.out HB.out)); (case side4 => exact HC1_1.out); rintro e w19 ⟨rfl, hb⟩; refine ⟨_, rfl, ?_⟩; have n0 := aM_ (nB_ BK339.out hb); have n1 := aM_ (nB_ BK340.out hb); have n2 := aM_ (sT_ HB.out hb); clear BK339; clear BK340; clear HB; have BK339 := n0; have BK340 := n1; have HB := n2; clear n0 n1 n2; obtain ⟨hcz20_0, hcz20_1, hcz20_2, hcz20_3, hfz20_0, hfz20_1, hfz20_2, hfz20_3⟩ := bR4_ BK339.out; obtain ⟨hcz21_0, hcz21_1, hcz21_2, hcz21_3, hfz21_0, hfz21_1, hfz21_2, hfz21_3⟩ := bR4_ BK340.out) | ((with_reducible refine gate_callee (f := 11) rfl ?_); refine gL_ (some 21) Try.func11 #[.agg #[.slice A0_2 l0_2.length c0_2], .agg #[.slice A1_2 l1_2.length c1_2]] ?_; (with_reducible refine (laws_eqMemory.calls k _ _ l0_2 _ _ l1_2 true _ ?side1 ?side2 ?side3 ?side4 A7.out).mono ?_); (case side1 => exact cS_ (Kd.C_below HR0_2.out HB.out)); (case side2 => exact HC0_2.out); (case side3 => exact cS_ (Kd.C_below HR1_2.out HB.out)); (case side4 => exact HC1_2.out); rintro e w22 ⟨rfl, hb⟩; refine ⟨_, rfl, ?_⟩; have n0 := aM_ (nB_ BK339.out hb); have n1 := aM_ (nB_ BK340.out hb); have n2 := aM_ (sT_ HB.out hb); clear BK339; clear BK340; clear HB; have BK339 := n0; have BK340 := n1; have HB := n2; clear n0 n1 n2; obtain ⟨hcz23_0, hcz23_1, hcz23_2, hcz23_3, hfz23_0, hfz23_1, hfz23_2, hfz23_3⟩ := bR4_ BK339.out; obtain ⟨hcz24_0, hcz24_1, hcz24_2, hcz24_3, hfz24_0, hfz24_1, hfz24_2, hfz24_3⟩ := bR4_ BK340.out) | ((with_reducible refine gate_callee (f := 54) rfl ?_); refine gL_ (some 27) Try.func54 #[.slice A0_3 l0_3.length c0_3, .slice A1_3 l1_3.length c1_3] ?_; (with_reducible refine (laws_eqNoteS.calls k _ _ l0_3 _ _ l1_3 true _ ?side1 ?side2 ?side3 ?side4 A9.out).mono ?_); (case side1 => exact cS_ (Kd.C_below HR0_3.out HB.out)); (case side2 => exact HC0_3.out); (case side3 => exact cS_ (Kd.C_below HR1_3.out HB.out)); (case side4 => exact HC1_3.out); rintro e w25 ⟨rfl, hb⟩; refine ⟨_, rfl, ?_⟩; have n0 := aM_ (nB_ BK339.out hb); have n1 := aM_ (nB_ BK340.out hb); have n2 := aM_ (sT_ HB.out hb); clear BK339; clear BK340; clear HB; have BK339 := n0; have BK340 := n1; have HB := n2; clear n0 n1 n2))
     go_ret
     exact fI_ HB.out
    ·replace c10 := Bool.eq_false_iff.mpr c10
     subst c10
     have H1 : (some false) = some r := by rw [if_neg (show ¬ (false = true) by decide)] at H; exact H
     clear H
     have H := H1
     clear H1
     obtain rfl := Option.some.inj H
     go_enter Try.func25, Try.ntmps25
     go_wp2_with (first | ((with_reducible refine gate_dst (N := 2) rfl ?_); refine bX_ 2 (cs := #[.slice A0_0 l0_0.length c0_0, .slice A0_1 l0_1.length c0_1, .slice A0_2 l0_2.length c0_2, .slice A0_3 l0_3.length c0_3]) (t := 69) ?_; intro gb339 hg w26 hbox hb; have n0 := aM_ (sT_ HB.out hb); have n1 := aM_ (hbox); have n2 := aM_ (sZ_ hg HB.out); have n3 := aM_ (sZ_ hg HB.out); clear HB; have HB := n0; have BK339 := n1; have GW339 := n2; have GE339 := n3; clear n0 n1 n2 n3; clear hb hbox hg) | ((with_reducible refine gate_dst (N := 3) rfl ?_); refine bX_ 3 (cs := #[.slice A1_0 l1_0.length c1_0, .slice A1_1 l1_1.length c1_1, .slice A1_2 l1_2.length c1_2, .slice A1_3 l1_3.length c1_3]) (t := 69) ?_; intro gb340 hg w27 hbox hb; have n0 := aM_ (nB_ BK339.out hb); have n1 := aM_ (sT_ HB.out hb); have n2 := aM_ (hbox); have n3 := aM_ (sZ_ hg HB.out); have n4 := aM_ (sZ_ hg HB.out); have n5 := aM_ (nL_ hg BK339.out); have n6 := aM_ (nG_ hg BK339.out); clear BK339; clear HB; have BK339 := n0; have HB := n1; have BK340 := n2; have GW340 := n3; have GE340 := n4; have NB339_340 := n5; have NB340_339 := n6; clear n0 n1 n2 n3 n4 n5 n6; clear hb hbox hg; have hnb28 := NB339_340.out; have hnc28 := NB340_339.out; obtain ⟨hcz29_0, hcz29_1, hcz29_2, hcz29_3, hfz29_0, hfz29_1, hfz29_2, hfz29_3⟩ := bR4_ BK339.out; obtain ⟨hcz30_0, hcz30_1, hcz30_2, hcz30_3, hfz30_0, hfz30_1, hfz30_2, hfz30_3⟩ := bR4_ BK340.out) | ((with_reducible refine gate_callee (f := 63) rfl ?_); refine gL_ (some 9) Try.func63 #[.slice A0_0 l0_0.length c0_0, .slice A1_0 l1_0.length c1_0] ?_; (with_reducible refine (laws_eqStepSS.calls k _ _ l0_0 _ _ l1_0 true _ ?side1 ?side2 ?side3 ?side4 A3.out).mono ?_); (case side1 => exact cS_ (Kd.C_below HR0_0.out HB.out)); (case side2 => exact HC0_0.out); (case side3 => exact cS_ (Kd.C_below HR1_0.out HB.out)); (case side4 => exact HC1_0.out); rintro e w31 ⟨rfl, hb⟩; refine ⟨_, rfl, ?_⟩; have n0 := aM_ (nB_ BK339.out hb); have n1 := aM_ (nB_ BK340.out hb); have n2 := aM_ (sT_ HB.out hb); clear BK339; clear BK340; clear HB; have BK339 := n0; have BK340 := n1; have HB := n2; clear n0 n1 n2; obtain ⟨hcz32_0, hcz32_1, hcz32_2, hcz32_3, hfz32_0, hfz32_1, hfz32_2, hfz32_3⟩ := bR4_ BK339.out; obtain ⟨hcz33_0, hcz33_1, hcz33_2, hcz33_3, hfz33_0, hfz33_1, hfz33_2, hfz33_3⟩ := bR4_ BK340.out) | ((with_reducible refine gate_callee (f := 64) rfl ?_); refine gL_ (some 15) Try.func64 #[.slice A0_1 l0_1.length c0_1, .slice A1_1 l1_1.length c1_1] ?_; (with_reducible refine (laws_eqCoreS.calls k _ _ l0_1 _ _ l1_1 true _ ?side1 ?side2 ?side3 ?side4 A5.out).mono ?_); (case side1 => exact cS_ (Kd.C_below HR0_1.out HB.out)); (case side2 => exact HC0_1.out); (case side3 => exact cS_ (Kd.C_below HR1_1.out HB.out)); (case side4 => exact HC1_1.out); rintro e w34 ⟨rfl, hb⟩; refine ⟨_, rfl, ?_⟩; have n0 := aM_ (nB_ BK339.out hb); have n1 := aM_ (nB_ BK340.out hb); have n2 := aM_ (sT_ HB.out hb); clear BK339; clear BK340; clear HB; have BK339 := n0; have BK340 := n1; have HB := n2; clear n0 n1 n2; obtain ⟨hcz35_0, hcz35_1, hcz35_2, hcz35_3, hfz35_0, hfz35_1, hfz35_2, hfz35_3⟩ := bR4_ BK339.out; obtain ⟨hcz36_0, hcz36_1, hcz36_2, hcz36_3, hfz36_0, hfz36_1, hfz36_2, hfz36_3⟩ := bR4_ BK340.out) | ((with_reducible refine gate_callee (f := 11) rfl ?_); refine gL_ (some 21) Try.func11 #[.agg #[.slice A0_2 l0_2.length c0_2], .agg #[.slice A1_2 l1_2.length c1_2]] ?_; (with_reducible refine (laws_eqMemory.calls k _ _ l0_2 _ _ l1_2 true _ ?side1 ?side2 ?side3 ?side4 A7.out).mono ?_); (case side1 => exact cS_ (Kd.C_below HR0_2.out HB.out)); (case side2 => exact HC0_2.out); (case side3 => exact cS_ (Kd.C_below HR1_2.out HB.out)); (case side4 => exact HC1_2.out); rintro e w37 ⟨rfl, hb⟩; refine ⟨_, rfl, ?_⟩; have n0 := aM_ (nB_ BK339.out hb); have n1 := aM_ (nB_ BK340.out hb); have n2 := aM_ (sT_ HB.out hb); clear BK339; clear BK340; clear HB; have BK339 := n0; have BK340 := n1; have HB := n2; clear n0 n1 n2; obtain ⟨hcz38_0, hcz38_1, hcz38_2, hcz38_3, hfz38_0, hfz38_1, hfz38_2, hfz38_3⟩ := bR4_ BK339.out; obtain ⟨hcz39_0, hcz39_1, hcz39_2, hcz39_3, hfz39_0, hfz39_1, hfz39_2, hfz39_3⟩ := bR4_ BK340.out) | ((with_reducible refine gate_callee (f := 54) rfl ?_); refine gL_ (some 27) Try.func54 #[.slice A0_3 l0_3.length c0_3, .slice A1_3 l1_3.length c1_3] ?_; (with_reducible refine (laws_eqNoteS.calls k _ _ l0_3 _ _ l1_3 false _ ?side1 ?side2 ?side3 ?side4 A9.out).mono ?_); (case side1 => exact cS_ (Kd.C_below HR0_3.out HB.out)); (case side2 => exact HC0_3.out); (case side3 => exact cS_ (Kd.C_below HR1_3.out HB.out)); (case side4 => exact HC1_3.out); rintro e w40 ⟨rfl, hb⟩; refine ⟨_, rfl, ?_⟩; have n0 := aM_ (nB_ BK339.out hb); have n1 := aM_ (nB_ BK340.out hb); have n2 := aM_ (sT_ HB.out hb); clear BK339; clear BK340; clear HB; have BK339 := n0; have BK340 := n1; have HB := n2; clear n0 n1 n2))
     go_ret
     exact fI_ HB.out
   ·replace c8 := Bool.eq_false_iff.mpr c8
    subst c8
    have H1 : (some false) = some r := by rw [if_neg (show ¬ (false = true) by decide)] at H; exact H
    clear H
    have H := H1
    clear H1
    obtain rfl := Option.some.inj H
    go_enter Try.func25, Try.ntmps25
    go_wp2_with (first | ((with_reducible refine gate_dst (N := 2) rfl ?_); refine bX_ 2 (cs := #[.slice A0_0 l0_0.length c0_0, .slice A0_1 l0_1.length c0_1, .slice A0_2 l0_2.length c0_2, .slice A0_3 l0_3.length c0_3]) (t := 69) ?_; intro gb339 hg w41 hbox hb; have n0 := aM_ (sT_ HB.out hb); have n1 := aM_ (hbox); have n2 := aM_ (sZ_ hg HB.out); have n3 := aM_ (sZ_ hg HB.out); clear HB; have HB := n0; have BK339 := n1; have GW339 := n2; have GE339 := n3; clear n0 n1 n2 n3; clear hb hbox hg) | ((with_reducible refine gate_dst (N := 3) rfl ?_); refine bX_ 3 (cs := #[.slice A1_0 l1_0.length c1_0, .slice A1_1 l1_1.length c1_1, .slice A1_2 l1_2.length c1_2, .slice A1_3 l1_3.length c1_3]) (t := 69) ?_; intro gb340 hg w42 hbox hb; have n0 := aM_ (nB_ BK339.out hb); have n1 := aM_ (sT_ HB.out hb); have n2 := aM_ (hbox); have n3 := aM_ (sZ_ hg HB.out); have n4 := aM_ (sZ_ hg HB.out); have n5 := aM_ (nL_ hg BK339.out); have n6 := aM_ (nG_ hg BK339.out); clear BK339; clear HB; have BK339 := n0; have HB := n1; have BK340 := n2; have GW340 := n3; have GE340 := n4; have NB339_340 := n5; have NB340_339 := n6; clear n0 n1 n2 n3 n4 n5 n6; clear hb hbox hg; have hnb43 := NB339_340.out; have hnc43 := NB340_339.out; obtain ⟨hcz44_0, hcz44_1, hcz44_2, hcz44_3, hfz44_0, hfz44_1, hfz44_2, hfz44_3⟩ := bR4_ BK339.out; obtain ⟨hcz45_0, hcz45_1, hcz45_2, hcz45_3, hfz45_0, hfz45_1, hfz45_2, hfz45_3⟩ := bR4_ BK340.out) | ((with_reducible refine gate_callee (f := 63) rfl ?_); refine gL_ (some 9) Try.func63 #[.slice A0_0 l0_0.length c0_0, .slice A1_0 l1_0.length c1_0] ?_; (with_reducible refine (laws_eqStepSS.calls k _ _ l0_0 _ _ l1_0 true _ ?side1 ?side2 ?side3 ?side4 A3.out).mono ?_); (case side1 => exact cS_ (Kd.C_below HR0_0.out HB.out)); (case side2 => exact HC0_0.out); (case side3 => exact cS_ (Kd.C_below HR1_0.out HB.out)); (case side4 => exact HC1_0.out); rintro e w46 ⟨rfl, hb⟩; refine ⟨_, rfl, ?_⟩; have n0 := aM_ (nB_ BK339.out hb); have n1 := aM_ (nB_ BK340.out hb); have n2 := aM_ (sT_ HB.out hb); clear BK339; clear BK340; clear HB; have BK339 := n0; have BK340 := n1; have HB := n2; clear n0 n1 n2; obtain ⟨hcz47_0, hcz47_1, hcz47_2, hcz47_3, hfz47_0, hfz47_1, hfz47_2, hfz47_3⟩ := bR4_ BK339.out; obtain ⟨hcz48_0, hcz48_1, hcz48_2, hcz48_3, hfz48_0, hfz48_1, hfz48_2, hfz48_3⟩ := bR4_ BK340.out) | ((with_reducible refine gate_callee (f := 64) rfl ?_); refine gL_ (some 15) Try.func64 #[.slice A0_1 l0_1.length c0_1, .slice A1_1 l1_1.length c1_1] ?_; (with_reducible refine (laws_eqCoreS.calls k _ _ l0_1 _ _ l1_1 true _ ?side1 ?side2 ?side3 ?side4 A5.out).mono ?_); (case side1 => exact cS_ (Kd.C_below HR0_1.out HB.out)); (case side2 => exact HC0_1.out); (case side3 => exact cS_ (Kd.C_below HR1_1.out HB.out)); (case side4 => exact HC1_1.out); rintro e w49 ⟨rfl, hb⟩; refine ⟨_, rfl, ?_⟩; have n0 := aM_ (nB_ BK339.out hb); have n1 := aM_ (nB_ BK340.out hb); have n2 := aM_ (sT_ HB.out hb); clear BK339; clear BK340; clear HB; have BK339 := n0; have BK340 := n1; have HB := n2; clear n0 n1 n2; obtain ⟨hcz50_0, hcz50_1, hcz50_2, hcz50_3, hfz50_0, hfz50_1, hfz50_2, hfz50_3⟩ := bR4_ BK339.out; obtain ⟨hcz51_0, hcz51_1, hcz51_2, hcz51_3, hfz51_0, hfz51_1, hfz51_2, hfz51_3⟩ := bR4_ BK340.out) | ((with_reducible refine gate_callee (f := 11) rfl ?_); refine gL_ (some 21) Try.func11 #[.agg #[.slice A0_2 l0_2.length c0_2], .agg #[.slice A1_2 l1_2.length c1_2]] ?_; (with_reducible refine (laws_eqMemory.calls k _ _ l0_2 _ _ l1_2 false _ ?side1 ?side2 ?side3 ?side4 A7.out).mono ?_); (case side1 => exact cS_ (Kd.C_below HR0_2.out HB.out)); (case side2 => exact HC0_2.out); (case side3 => exact cS_ (Kd.C_below HR1_2.out HB.out)); (case side4 => exact HC1_2.out); rintro e w52 ⟨rfl, hb⟩; refine ⟨_, rfl, ?_⟩; have n0 := aM_ (nB_ BK339.out hb); have n1 := aM_ (nB_ BK340.out hb); have n2 := aM_ (sT_ HB.out hb); clear BK339; clear BK340; clear HB; have BK339 := n0; have BK340 := n1; have HB := n2; clear n0 n1 n2))
    go_ret
    exact fI_ HB.out
  ·replace c6 := Bool.eq_false_iff.mpr c6
   subst c6
   have H1 : (some false) = some r := by rw [if_neg (show ¬ (false = true) by decide)] at H; exact H
   clear H
   have H := H1
   clear H1
   obtain rfl := Option.some.inj H
   go_enter Try.func25, Try.ntmps25
   go_wp2_with (first | ((with_reducible refine gate_dst (N := 2) rfl ?_); refine bX_ 2 (cs := #[.slice A0_0 l0_0.length c0_0, .slice A0_1 l0_1.length c0_1, .slice A0_2 l0_2.length c0_2, .slice A0_3 l0_3.length c0_3]) (t := 69) ?_; intro gb339 hg w53 hbox hb; have n0 := aM_ (sT_ HB.out hb); have n1 := aM_ (hbox); have n2 := aM_ (sZ_ hg HB.out); have n3 := aM_ (sZ_ hg HB.out); clear HB; have HB := n0; have BK339 := n1; have GW339 := n2; have GE339 := n3; clear n0 n1 n2 n3; clear hb hbox hg) | ((with_reducible refine gate_dst (N := 3) rfl ?_); refine bX_ 3 (cs := #[.slice A1_0 l1_0.length c1_0, .slice A1_1 l1_1.length c1_1, .slice A1_2 l1_2.length c1_2, .slice A1_3 l1_3.length c1_3]) (t := 69) ?_; intro gb340 hg w54 hbox hb; have n0 := aM_ (nB_ BK339.out hb); have n1 := aM_ (sT_ HB.out hb); have n2 := aM_ (hbox); have n3 := aM_ (sZ_ hg HB.out); have n4 := aM_ (sZ_ hg HB.out); have n5 := aM_ (nL_ hg BK339.out); have n6 := aM_ (nG_ hg BK339.out); clear BK339; clear HB; have BK339 := n0; have HB := n1; have BK340 := n2; have GW340 := n3; have GE340 := n4; have NB339_340 := n5; have NB340_339 := n6; clear n0 n1 n2 n3 n4 n5 n6; clear hb hbox hg; have hnb55 := NB339_340.out; have hnc55 := NB340_339.out; obtain ⟨hcz56_0, hcz56_1, hcz56_2, hcz56_3, hfz56_0, hfz56_1, hfz56_2, hfz56_3⟩ := bR4_ BK339.out; obtain ⟨hcz57_0, hcz57_1, hcz57_2, hcz57_3, hfz57_0, hfz57_1, hfz57_2, hfz57_3⟩ := bR4_ BK340.out) | ((with_reducible refine gate_callee (f := 63) rfl ?_); refine gL_ (some 9) Try.func63 #[.slice A0_0 l0_0.length c0_0, .slice A1_0 l1_0.length c1_0] ?_; (with_reducible refine (laws_eqStepSS.calls k _ _ l0_0 _ _ l1_0 true _ ?side1 ?side2 ?side3 ?side4 A3.out).mono ?_); (case side1 => exact cS_ (Kd.C_below HR0_0.out HB.out)); (case side2 => exact HC0_0.out); (case side3 => exact cS_ (Kd.C_below HR1_0.out HB.out)); (case side4 => exact HC1_0.out); rintro e w58 ⟨rfl, hb⟩; refine ⟨_, rfl, ?_⟩; have n0 := aM_ (nB_ BK339.out hb); have n1 := aM_ (nB_ BK340.out hb); have n2 := aM_ (sT_ HB.out hb); clear BK339; clear BK340; clear HB; have BK339 := n0; have BK340 := n1; have HB := n2; clear n0 n1 n2; obtain ⟨hcz59_0, hcz59_1, hcz59_2, hcz59_3, hfz59_0, hfz59_1, hfz59_2, hfz59_3⟩ := bR4_ BK339.out; obtain ⟨hcz60_0, hcz60_1, hcz60_2, hcz60_3, hfz60_0, hfz60_1, hfz60_2, hfz60_3⟩ := bR4_ BK340.out) | ((with_reducible refine gate_callee (f := 64) rfl ?_); refine gL_ (some 15) Try.func64 #[.slice A0_1 l0_1.length c0_1, .slice A1_1 l1_1.length c1_1] ?_; (with_reducible refine (laws_eqCoreS.calls k _ _ l0_1 _ _ l1_1 false _ ?side1 ?side2 ?side3 ?side4 A5.out).mono ?_); (case side1 => exact cS_ (Kd.C_below HR0_1.out HB.out)); (case side2 => exact HC0_1.out); (case side3 => exact cS_ (Kd.C_below HR1_1.out HB.out)); (case side4 => exact HC1_1.out); rintro e w61 ⟨rfl, hb⟩; refine ⟨_, rfl, ?_⟩; have n0 := aM_ (nB_ BK339.out hb); have n1 := aM_ (nB_ BK340.out hb); have n2 := aM_ (sT_ HB.out hb); clear BK339; clear BK340; clear HB; have BK339 := n0; have BK340 := n1; have HB := n2; clear n0 n1 n2))
   go_ret
   exact fI_ HB.out
 ·replace c4 := Bool.eq_false_iff.mpr c4
  subst c4
  have H1 : (some false) = some r := by rw [if_neg (show ¬ (false = true) by decide)] at H; exact H
  clear H
  have H := H1
  clear H1
  obtain rfl := Option.some.inj H
  go_enter Try.func25, Try.ntmps25
  go_wp2_with (first | ((with_reducible refine gate_dst (N := 2) rfl ?_); refine bX_ 2 (cs := #[.slice A0_0 l0_0.length c0_0, .slice A0_1 l0_1.length c0_1, .slice A0_2 l0_2.length c0_2, .slice A0_3 l0_3.length c0_3]) (t := 69) ?_; intro gb339 hg w62 hbox hb; have n0 := aM_ (sT_ HB.out hb); have n1 := aM_ (hbox); have n2 := aM_ (sZ_ hg HB.out); have n3 := aM_ (sZ_ hg HB.out); clear HB; have HB := n0; have BK339 := n1; have GW339 := n2; have GE339 := n3; clear n0 n1 n2 n3; clear hb hbox hg) | ((with_reducible refine gate_dst (N := 3) rfl ?_); refine bX_ 3 (cs := #[.slice A1_0 l1_0.length c1_0, .slice A1_1 l1_1.length c1_1, .slice A1_2 l1_2.length c1_2, .slice A1_3 l1_3.length c1_3]) (t := 69) ?_; intro gb340 hg w63 hbox hb; have n0 := aM_ (nB_ BK339.out hb); have n1 := aM_ (sT_ HB.out hb); have n2 := aM_ (hbox); have n3 := aM_ (sZ_ hg HB.out); have n4 := aM_ (sZ_ hg HB.out); have n5 := aM_ (nL_ hg BK339.out); have n6 := aM_ (nG_ hg BK339.out); clear BK339; clear HB; have BK339 := n0; have HB := n1; have BK340 := n2; have GW340 := n3; have GE340 := n4; have NB339_340 := n5; have NB340_339 := n6; clear n0 n1 n2 n3 n4 n5 n6; clear hb hbox hg; have hnb64 := NB339_340.out; have hnc64 := NB340_339.out; obtain ⟨hcz65_0, hcz65_1, hcz65_2, hcz65_3, hfz65_0, hfz65_1, hfz65_2, hfz65_3⟩ := bR4_ BK339.out; obtain ⟨hcz66_0, hcz66_1, hcz66_2, hcz66_3, hfz66_0, hfz66_1, hfz66_2, hfz66_3⟩ := bR4_ BK340.out) | ((with_reducible refine gate_callee (f := 63) rfl ?_); refine gL_ (some 9) Try.func63 #[.slice A0_0 l0_0.length c0_0, .slice A1_0 l1_0.length c1_0] ?_; (with_reducible refine (laws_eqStepSS.calls k _ _ l0_0 _ _ l1_0 false _ ?side1 ?side2 ?side3 ?side4 A3.out).mono ?_); (case side1 => exact cS_ (Kd.C_below HR0_0.out HB.out)); (case side2 => exact HC0_0.out); (case side3 => exact cS_ (Kd.C_below HR1_0.out HB.out)); (case side4 => exact HC1_0.out); rintro e w67 ⟨rfl, hb⟩; refine ⟨_, rfl, ?_⟩; have n0 := aM_ (nB_ BK339.out hb); have n1 := aM_ (nB_ BK340.out hb); have n2 := aM_ (sT_ HB.out hb); clear BK339; clear BK340; clear HB; have BK339 := n0; have BK340 := n1; have HB := n2; clear n0 n1 n2))
  go_ret
  exact fI_ HB.out
end Go.Proofs.Ytfaoipojijhlbaa.PFnExactMachineOk
