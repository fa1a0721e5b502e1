/- A part of the proof that the law FnExactChanSame holds for every input: the words, functions and walks that its row needs, without a condition of their own. -/
import Derived.Test.YtobachfngmpeiaaZFnExactChanSamea2
import Derived.Test.YtobachfngmpeiaaZFnExactChanSamea3
import Derived.Test.YtobachfngmpeiaaZFnExactChanSamea5
import Derived.Test.YtobachfngmpeiaaZFnExactChanSamea8
import Derived.Test.YtobachfngmpeiaaZFnExactChanSamea9
import Derived.Test.YtobachfngmpeiaaZFnExactChanSamea10
import Derived.Test.YtobachfngmpeiaaZFnExactChanSames
namespace Go.Proofs.Ytobachfngmpeiaa.PFnExactChanSame
open Go.RowKit Go.Proofs.YtobachfngmpeiaaW.PrintWords Go.Proofs.YtobachfngmpeiaaW.PrintLast Go.Proofs.YtobachfngmpeiaaW.PrintMore
attribute [local go_sem] max2_int min2_int max_two min_two max_three min_three max_four min_four   -- for this text's walks alone
set_option linter.unusedVariables false
set_option linter.unusedSimpArgs false
def laws_eqMachine.f (k : Nat) (l0_0 : List (List (S175))) (l0_1 : List (S123)) (l0_2 : List (List (S170))) (l0_3 : List (S35)) (l1_0 : List (List (S175))) (l1_1 : List (S123)) (l1_2 : List (List (S170))) (l1_3 : List (S35)) : Option (Bool) := (laws_eqStepSS.f k l0_0 l1_0).bind fun t206 => (if t206 = true then ((laws_eqCoreS.f k l0_1 l1_1).bind fun t207 => (if t207 = true then ((laws_eqMemory.f k l0_2 l1_2).bind fun t208 => (if t208 = true then ((laws_eqNoteS.f k l0_3 l1_3).bind fun t209 => (if t209 = true then (some true) else (some false))) else (some false))) else (some false))) else (some false))
set_option maxHeartbeats 8000000 in
set_option maxRecDepth 100000 in
theorem laws_eqMachine.calls (k : Nat) (A0_0 : Option Addr) (c0_0 : Nat) (l0_0 : List (List (S175))) (A0_1 : Option Addr) (c0_1 : Nat) (l0_1 : List (S123)) (A0_2 : Option Addr) (c0_2 : Nat) (l0_2 : List (List (S170))) (A0_3 : Option Addr) (c0_3 : Nat) (l0_3 : List (S35)) (A1_0 : Option Addr) (c1_0 : Nat) (l1_0 : List (List (S175))) (A1_1 : Option Addr) (c1_1 : Nat) (l1_1 : List (S123)) (A1_2 : Option Addr) (c1_2 : Nat) (l1_2 : List (List (S170))) (A1_3 : Option Addr) (c1_3 : Nat) (l1_3 : List (S35)) (r : Bool) (w : World) (hr0_0 : Kd.C (Kd.slice 175 k175) w A0_0 l0_0.length l0_0) (hc0_0 : l0_0.length ≤ c0_0) (hr0_1 : Kd.C k123 w A0_1 l0_1.length l0_1) (hc0_1 : l0_1.length ≤ c0_1) (hr0_2 : Kd.C (Kd.slice 170 k170) w A0_2 l0_2.length l0_2) (hc0_2 : l0_2.length ≤ c0_2) (hr0_3 : Kd.C k35 w A0_3 l0_3.length l0_3) (hc0_3 : l0_3.length ≤ c0_3) (hr1_0 : Kd.C (Kd.slice 175 k175) w A1_0 l1_0.length l1_0) (hc1_0 : l1_0.length ≤ c1_0) (hr1_1 : Kd.C k123 w A1_1 l1_1.length l1_1) (hc1_1 : l1_1.length ≤ c1_1) (hr1_2 : Kd.C (Kd.slice 170 k170) w A1_2 l1_2.length l1_2) (hc1_2 : l1_2.length ≤ c1_2) (hr1_3 : Kd.C k35 w A1_3 l1_3.length l1_3) (hc1_3 : l1_3.length ≤ c1_3) (h : laws_eqMachine.f k l0_0 l0_1 l0_2 l0_3 l1_0 l1_1 l1_2 l1_3 = some r) :
  Calls Try.prog 28 #[.agg #[.slice A0_0 l0_0.length c0_0,.slice A0_1 l0_1.length c0_1,.slice A0_2 l0_2.length c0_2,.slice A0_3 l0_3.length c0_3],.agg #[.slice A1_0 l1_0.length c1_0,.slice A1_1 l1_1.length c1_1,.slice A1_2 l1_2.length c1_2,.slice A1_3 l1_3.length c1_3]] w fun e w' => e = .returned (.bool r) ∧ Below w.heap.size w w' := by
 have hu59 := Try.underlying59
 have hu57 := Try.underlying57
 have HR0_0 := aM_ hr0_0
 have HC0_0 := aM_ hc0_0
 clear hr0_0 hc0_0
 have HR0_1 := aM_ hr0_1
 have HC0_1 := aM_ hc0_1
 clear hr0_1 hc0_1
 have HR0_2 := aM_ hr0_2
 have HC0_2 := aM_ hc0_2
 clear hr0_2 hc0_2
 have HR0_3 := aM_ hr0_3
 have HC0_3 := aM_ hc0_3
 clear hr0_3 hc0_3
 have HR1_0 := aM_ hr1_0
 have HC1_0 := aM_ hc1_0
 clear hr1_0 hc1_0
 have HR1_1 := aM_ hr1_1
 have HC1_1 := aM_ hc1_1
 clear hr1_1 hc1_1
 have HR1_2 := aM_ hr1_2
 have HC1_2 := aM_ hc1_2
 clear hr1_2 hc1_2
 have HR1_3 := aM_ hr1_3
 have HC1_3 := aM_ hc1_3
 clear hr1_3 hc1_3
 have HB := aM_ (Below.refl w.heap.size w)
 have H : ((laws_eqStepSS.f k l0_0 l1_0).bind fun t206 => (if t206 = true then ((laws_eqCoreS.f k l0_1 l1_1).bind fun t207 => (if t207 = true then ((laws_eqMemory.f k l0_2 l1_2).bind fun t208 => (if t208 = true then ((laws_eqNoteS.f k l0_3 l1_3).bind fun t209 => (if t209 = true then (some true) else (some false))) else (some false))) else (some false))) else (some false))) = some r := h
 clear h
 replace H := Option.bind_eq_some_iff.mp H
 obtain ⟨t206,A30,H⟩ := H
 replace H : (if t206 = true then ((laws_eqCoreS.f k l0_1 l1_1).bind fun t207 => (if t207 = true then ((laws_eqMemory.f k l0_2 l1_2).bind fun t208 => (if t208 = true then ((laws_eqNoteS.f k l0_3 l1_3).bind fun t209 => (if t209 = true then (some true) else (some false))) else (some false))) else (some false))) else (some false)) = some r := H
 have A3 := aM_ A30
 clear A30
 by_cases c4 : t206 = true
 ·subst c4
  have H1 : ((laws_eqCoreS.f k l0_1 l1_1).bind fun t207 => (if t207 = true then ((laws_eqMemory.f k l0_2 l1_2).bind fun t208 => (if t208 = true then ((laws_eqNoteS.f k l0_3 l1_3).bind fun t209 => (if t209 = true then (some true) else (some false))) else (some false))) else (some false))) = some r := by rw [if_pos rfl] at H;exact H
  clear H
  have H := H1
  clear H1
  replace H := Option.bind_eq_some_iff.mp H
  obtain ⟨t207,A50,H⟩ := H
  replace H : (if t207 = true then ((laws_eqMemory.f k l0_2 l1_2).bind fun t208 => (if t208 = true then ((laws_eqNoteS.f k l0_3 l1_3).bind fun t209 => (if t209 = true then (some true) else (some false))) else (some false))) else (some false)) = some r := H
  have A5 := aM_ A50
  clear A50
  by_cases c6 : t207 = true
  ·subst c6
   have H1 : ((laws_eqMemory.f k l0_2 l1_2).bind fun t208 => (if t208 = true then ((laws_eqNoteS.f k l0_3 l1_3).bind fun t209 => (if t209 = true then (some true) else (some false))) else (some false))) = some r := by rw [if_pos rfl] at H;exact H
   clear H
   have H := H1
   clear H1
   replace H := Option.bind_eq_some_iff.mp H
   obtain ⟨t208,A70,H⟩ := H
   replace H : (if t208 = true then ((laws_eqNoteS.f k l0_3 l1_3).bind fun t209 => (if t209 = true then (some true) else (some false))) else (some false)) = some r := H
   have A7 := aM_ A70
   clear A70
   by_cases c8 : t208 = true
   ·subst c8
    have H1 : ((laws_eqNoteS.f k l0_3 l1_3).bind fun t209 => (if t209 = true then (some true) else (some false))) = some r := by rw [if_pos rfl] at H;exact H
    clear H
    have H := H1
    clear H1
    replace H := Option.bind_eq_some_iff.mp H
    obtain ⟨t209,A90,H⟩ := H
    replace H : (if t209 = true then (some true) else (some false)) = some r := H
    have A9 := aM_ A90
    clear A90
    by_cases c10 : t209 = true
    ·subst c10
     have H1 : (some true) = some r := by rw [if_pos rfl] at H;exact H
     clear H
     have H := H1
     clear H1
     obtain rfl := Option.some.inj H
     go_enter Try.func28,Try.ntmps28
     go_wp2_with (first | ((with_reducible refine gate_dst (N := 2) rfl ?_);refine bX_ 2 (cs := #[.slice A0_0 l0_0.length c0_0,.slice A0_1 l0_1.length c0_1,.slice A0_2 l0_2.length c0_2,.slice A0_3 l0_3.length c0_3]) (t := 59) ?_;intro gb204 hg w11 hbox hb;have n0 := aM_ (sT_ HB.out hb);have n1 := aM_ (hbox);have n2 := aM_ (sZ_ hg HB.out);have n3 := aM_ (sZ_ hg HB.out);clear HB;have HB := n0;have BK204 := n1;have GW204 := n2;have GE204 := n3;clear n0 n1 n2 n3;clear hb hbox hg) | ((with_reducible refine gate_dst (N := 3) rfl ?_);refine bX_ 3 (cs := #[.slice A1_0 l1_0.length c1_0,.slice A1_1 l1_1.length c1_1,.slice A1_2 l1_2.length c1_2,.slice A1_3 l1_3.length c1_3]) (t := 59) ?_;intro gb205 hg w12 hbox hb;have n0 := aM_ (nB_ BK204.out hb);have n1 := aM_ (sT_ HB.out hb);have n2 := aM_ (hbox);have n3 := aM_ (sZ_ hg HB.out);have n4 := aM_ (sZ_ hg HB.out);have n5 := aM_ (nL_ hg BK204.out);have n6 := aM_ (nG_ hg BK204.out);clear BK204;clear HB;have BK204 := n0;have HB := n1;have BK205 := n2;have GW205 := n3;have GE205 := n4;have NB204_205 := n5;have NB205_204 := n6;clear n0 n1 n2 n3 n4 n5 n6;clear hb hbox hg;have hnb13 := NB204_205.out;have hnc13 := NB205_204.out;obtain ⟨hcz14_0,hcz14_1,hcz14_2,hcz14_3,hfz14_0,hfz14_1,hfz14_2,hfz14_3⟩ := bR4_ BK204.out;obtain ⟨hcz15_0,hcz15_1,hcz15_2,hcz15_3,hfz15_0,hfz15_1,hfz15_2,hfz15_3⟩ := bR4_ BK205.out) | ((with_reducible refine gate_callee (f := 29) rfl ?_);refine gL_ (some 9) Try.func29 #[.slice A0_0 l0_0.length c0_0,.slice A1_0 l1_0.length c1_0] ?_;(with_reducible refine (laws_eqStepSS.calls k _ _ l0_0 _ _ l1_0 true _ ?side1 ?side2 ?side3 ?side4 A3.out).mono ?_);(case side1 => exact cS_ (Kd.C_below HR0_0.out HB.out));(case side2 => exact HC0_0.out);(case side3 => exact cS_ (Kd.C_below HR1_0.out HB.out));(case side4 => exact HC1_0.out);rintro e w16 ⟨rfl,hb⟩;refine ⟨_,rfl,?_⟩;have n0 := aM_ (nB_ BK204.out hb);have n1 := aM_ (nB_ BK205.out hb);have n2 := aM_ (sT_ HB.out hb);clear BK204;clear BK205;clear HB;have BK204 := n0;have BK205 := n1;have HB := n2;clear n0 n1 n2;obtain ⟨hcz17_0,hcz17_1,hcz17_2,hcz17_3,hfz17_0,hfz17_1,hfz17_2,hfz17_3⟩ := bR4_ BK204.out;obtain ⟨hcz18_0,hcz18_1,hcz18_2,hcz18_3,hfz18_0,hfz18_1,hfz18_2,hfz18_3⟩ := bR4_ BK205.out) | ((with_reducible refine gate_callee (f := 82) rfl ?_);refine gL_ (some 15) Try.func82 #[.slice A0_1 l0_1.length c0_1,.slice A1_1 l1_1.length c1_1] ?_;(with_reducible refine (laws_eqCoreS.calls k _ _ l0_1 _ _ l1_1 true _ ?side1 ?side2 ?side3 ?side4 A5.out).mono ?_);(case side1 => exact cS_ (Kd.C_below HR0_1.out HB.out));(case side2 => exact HC0_1.out);(case side3 => exact cS_ (Kd.C_below HR1_1.out HB.out));(case side4 => exact HC1_1.out);rintro e w19 ⟨rfl,hb⟩;refine ⟨_,rfl,?_⟩;have n0 := aM_ (nB_ BK204.out hb);have n1 := aM_ (nB_ BK205.out hb);have n2 := aM_ (sT_ HB.out hb);clear BK204;clear BK205;clear HB;have BK204 := n0;have BK205 := n1;have HB := n2;clear n0 n1 n2;obtain ⟨hcz20_0,hcz20_1,hcz20_2,hcz20_3,hfz20_0,hfz20_1,hfz20_2,hfz20_3⟩ := bR4_ BK204.out;obtain ⟨hcz21_0,hcz21_1,hcz21_2,hcz21_3,hfz21_0,hfz21_1,hfz21_2,hfz21_3⟩ := bR4_ BK205.out) | ((with_reducible refine gate_callee (f := 83) rfl ?_);refine gL_ (some 21) Try.func83 #[.agg #[.slice A0_2 l0_2.length c0_2],.agg #[.slice A1_2 l1_2.length c1_2]] ?_;(with_reducible refine (laws_eqMemory.calls k _ _ l0_2 _ _ l1_2 true _ ?side1 ?side2 ?side3 ?side4 A7.out).mono ?_);(case side1 => exact cS_ (Kd.C_below HR0_2.out HB.out));(case side2 => exact HC0_2.out);(case side3 => exact cS_ (Kd.C_below HR1_2.out HB.out));(case side4 => exact HC1_2.out);rintro e w22 ⟨rfl,hb⟩;refine ⟨_,rfl,?_⟩;have n0 := aM_ (nB_ BK204.out hb);have n1 := aM_ (nB_ BK205.out hb);have n2 := aM_ (sT_ HB.out hb);clear BK204;clear BK205;clear HB;have BK204 := n0;have BK205 := n1;have HB := n2;clear n0 n1 n2;obtain ⟨hcz23_0,hcz23_1,hcz23_2,hcz23_3,hfz23_0,hfz23_1,hfz23_2,hfz23_3⟩ := bR4_ BK204.out;obtain ⟨hcz24_0,hcz24_1,hcz24_2,hcz24_3,hfz24_0,hfz24_1,hfz24_2,hfz24_3⟩ := bR4_ BK205.out) | ((with_reducible refine gate_callee (f := 66) rfl ?_);refine gL_ (some 27) Try.func66 #[.slice A0_3 l0_3.length c0_3,.slice A1_3 l1_3.length c1_3] ?_;(with_reducible refine (laws_eqNoteS.calls k _ _ l0_3 _ _ l1_3 true _ ?side1 ?side2 ?side3 ?side4 A9.out).mono ?_);(case side1 => exact cS_ (Kd.C_below HR0_3.out HB.out));(case side2 => exact HC0_3.out);(case side3 => exact cS_ (Kd.C_below HR1_3.out HB.out));(case side4 => exact HC1_3.out);rintro e w25 ⟨rfl,hb⟩;refine ⟨_,rfl,?_⟩;have n0 := aM_ (nB_ BK204.out hb);have n1 := aM_ (nB_ BK205.out hb);have n2 := aM_ (sT_ HB.out hb);clear BK204;clear BK205;clear HB;have BK204 := n0;have BK205 := n1;have HB := n2;clear n0 n1 n2))
     go_ret
     exact fI_ HB.out
    ·replace c10 := Bool.eq_false_iff.mpr c10
     subst c10
     have H1 : (some false) = some r := by rw [if_neg (show ¬ (false = true) by decide)] at H;exact H
     clear H
     have H := H1
     clear H1
     obtain rfl := Option.some.inj H
     go_enter Try.func28,Try.ntmps28
     go_wp2_with (first | ((with_reducible refine gate_dst (N := 2) rfl ?_);refine bX_ 2 (cs := #[.slice A0_0 l0_0.length c0_0,.slice A0_1 l0_1.length c0_1,.slice A0_2 l0_2.length c0_2,.slice A0_3 l0_3.length c0_3]) (t := 59) ?_;intro gb204 hg w26 hbox hb;have n0 := aM_ (sT_ HB.out hb);have n1 := aM_ (hbox);have n2 := aM_ (sZ_ hg HB.out);have n3 := aM_ (sZ_ hg HB.out);clear HB;have HB := n0;have BK204 := n1;have GW204 := n2;have GE204 := n3;clear n0 n1 n2 n3;clear hb hbox hg) | ((with_reducible refine gate_dst (N := 3) rfl ?_);refine bX_ 3 (cs := #[.slice A1_0 l1_0.length c1_0,.slice A1_1 l1_1.length c1_1,.slice A1_2 l1_2.length c1_2,.slice A1_3 l1_3.length c1_3]) (t := 59) ?_;intro gb205 hg w27 hbox hb;have n0 := aM_ (nB_ BK204.out hb);have n1 := aM_ (sT_ HB.out hb);have n2 := aM_ (hbox);have n3 := aM_ (sZ_ hg HB.out);have n4 := aM_ (sZ_ hg HB.out);have n5 := aM_ (nL_ hg BK204.out);have n6 := aM_ (nG_ hg BK204.out);clear BK204;clear HB;have BK204 := n0;have HB := n1;have BK205 := n2;have GW205 := n3;have GE205 := n4;have NB204_205 := n5;have NB205_204 := n6;clear n0 n1 n2 n3 n4 n5 n6;clear hb hbox hg;have hnb28 := NB204_205.out;have hnc28 := NB205_204.out;obtain ⟨hcz29_0,hcz29_1,hcz29_2,hcz29_3,hfz29_0,hfz29_1,hfz29_2,hfz29_3⟩ := bR4_ BK204.out;obtain ⟨hcz30_0,hcz30_1,hcz30_2,hcz30_3,hfz30_0,hfz30_1,hfz30_2,hfz30_3⟩ := bR4_ BK205.out) | ((with_reducible refine gate_callee (f := 29) rfl ?_);refine gL_ (some 9) Try.func29 #[.slice A0_0 l0_0.length c0_0,.slice A1_0 l1_0.length c1_0] ?_;(with_reducible refine (laws_eqStepSS.calls k _ _ l0_0 _ _ l1_0 true _ ?side1 ?side2 ?side3 ?side4 A3.out).mono ?_);(case side1 => exact cS_ (Kd.C_below HR0_0.out HB.out));(case side2 => exact HC0_0.out);(case side3 => exact cS_ (Kd.C_below HR1_0.out HB.out));(case side4 => exact HC1_0.out);rintro e w31 ⟨rfl,hb⟩;refine ⟨_,rfl,?_⟩;have n0 := aM_ (nB_ BK204.out hb);have n1 := aM_ (nB_ BK205.out hb);have n2 := aM_ (sT_ HB.out hb);clear BK204;clear BK205;clear HB;have BK204 := n0;have BK205 := n1;have HB := n2;clear n0 n1 n2;obtain ⟨hcz32_0,hcz32_1,hcz32_2,hcz32_3,hfz32_0,hfz32_1,hfz32_2,hfz32_3⟩ := bR4_ BK204.out;obtain ⟨hcz33_0,hcz33_1,hcz33_2,hcz33_3,hfz33_0,hfz33_1,hfz33_2,hfz33_3⟩ := bR4_ BK205.out) | ((with_reducible refine gate_callee (f := 82) rfl ?_);refine gL_ (some 15) Try.func82 #[.slice A0_1 l0_1.length c0_1,.slice A1_1 l1_1.length c1_1] ?_;(with_reducible refine (laws_eqCoreS.calls k _ _ l0_1 _ _ l1_1 true _ ?side1 ?side2 ?side3 ?side4 A5.out).mono ?_);(case side1 => exact cS_ (Kd.C_below HR0_1.out HB.out));(case side2 => exact HC0_1.out);(case side3 => exact cS_ (Kd.C_below HR1_1.out HB.out));(case side4 => exact HC1_1.out);rintro e w34 ⟨rfl,hb⟩;refine ⟨_,rfl,?_⟩;have n0 := aM_ (nB_ BK204.out hb);have n1 := aM_ (nB_ BK205.out hb);have n2 := aM_ (sT_ HB.out hb);clear BK204;clear BK205;clear HB;have BK204 := n0;have BK205 := n1;have HB := n2;clear n0 n1 n2;obtain ⟨hcz35_0,hcz35_1,hcz35_2,hcz35_3,hfz35_0,hfz35_1,hfz35_2,hfz35_3⟩ := bR4_ BK204.out;obtain ⟨hcz36_0,hcz36_1,hcz36_2,hcz36_3,hfz36_0,hfz36_1,hfz36_2,hfz36_3⟩ := bR4_ BK205.out) | ((with_reducible refine gate_callee (f := 83) rfl ?_);refine gL_ (some 21) Try.func83 #[.agg #[.slice A0_2 l0_2.length c0_2],.agg #[.slice A1_2 l1_2.length c1_2]] ?_;(with_reducible refine (laws_eqMemory.calls k _ _ l0_2 _ _ l1_2 true _ ?side1 ?side2 ?side3 ?side4 A7.out).mono ?_);(case side1 => exact cS_ (Kd.C_below HR0_2.out HB.out));(case side2 => exact HC0_2.out);(case side3 => exact cS_ (Kd.C_below HR1_2.out HB.out));(case side4 => exact HC1_2.out);rintro e w37 ⟨rfl,hb⟩;refine ⟨_,rfl,?_⟩;have n0 := aM_ (nB_ BK204.out hb);have n1 := aM_ (nB_ BK205.out hb);have n2 := aM_ (sT_ HB.out hb);clear BK204;clear BK205;clear HB;have BK204 := n0;have BK205 := n1;have HB := n2;clear n0 n1 n2;obtain ⟨hcz38_0,hcz38_1,hcz38_2,hcz38_3,hfz38_0,hfz38_1,hfz38_2,hfz38_3⟩ := bR4_ BK204.out;obtain ⟨hcz39_0,hcz39_1,hcz39_2,hcz39_3,hfz39_0,hfz39_1,hfz39_2,hfz39_3⟩ := bR4_ BK205.out) | ((with_reducible refine gate_callee (f := 66) rfl ?_);refine gL_ (some 27) Try.func66 #[.slice A0_3 l0_3.length c0_3,.slice A1_3 l1_3.length c1_3] ?_;(with_reducible refine (laws_eqNoteS.calls k _ _ l0_3 _ _ l1_3 false _ ?side1 ?side2 ?side3 ?side4 A9.out).mono ?_);(case side1 => exact cS_ (Kd.C_below HR0_3.out HB.out));(case side2 => exact HC0_3.out);(case side3 => exact cS_ (Kd.C_below HR1_3.out HB.out));(case side4 => exact HC1_3.out);rintro e w40 ⟨rfl,hb⟩;refine ⟨_,rfl,?_⟩;have n0 := aM_ (nB_ BK204.out hb);have n1 := aM_ (nB_ BK205.out hb);have n2 := aM_ (sT_ HB.out hb);clear BK204;clear BK205;clear HB;have BK204 := n0;have BK205 := n1;have HB := n2;clear n0 n1 n2))
     go_ret
     exact fI_ HB.out
   ·replace c8 := Bool.eq_false_iff.mpr c8
    subst c8
    have H1 : (some false) = some r := by rw [if_neg (show ¬ (false = true) by decide)] at H;exact H
    clear H
    have H := H1
    clear H1
    obtain rfl := Option.some.inj H
    go_enter Try.func28,Try.ntmps28
    go_wp2_with (first | ((with_reducible refine gate_dst (N := 2) rfl ?_);refine bX_ 2 (cs := #[.slice A0_0 l0_0.length c0_0,.slice A0_1 l0_1.length c0_1,.slice A0_2 l0_2.length c0_2,.slice A0_3 l0_3.length c0_3]) (t := 59) ?_;intro gb204 hg w41 hbox hb;have n0 := aM_ (sT_ HB.out hb);have n1 := aM_ (hbox);have n2 := aM_ (sZ_ hg HB.out);have n3 := aM_ (sZ_ hg HB.out);clear HB;have HB := n0;have BK204 := n1;have GW204 := n2;have GE204 := n3;clear n0 n1 n2 n3;clear hb hbox hg) | ((with_reducible refine gate_dst (N := 3) rfl ?_);refine bX_ 3 (cs := #[.slice A1_0 l1_0.length c1_0,.slice A1_1 l1_1.length c1_1,.slice A1_2 l1_2.length c1_2,.slice A1_3 l1_3.length c1_3]) (t := 59) ?_;intro gb205 hg w42 hbox hb;have n0 := aM_ (nB_ BK204.out hb);have n1 := aM_ (sT_ HB.out hb);have n2 := aM_ (hbox);have n3 := aM_ (sZ_ hg HB.out);have n4 := aM_ (sZ_ hg HB.out);have n5 := aM_ (nL_ hg BK204.out);have n6 := aM_ (nG_ hg BK204.out);clear BK204;clear HB;have BK204 := n0;have HB := n1;have BK205 := n2;have GW205 := n3;have GE205 := n4;have NB204_205 := n5;have NB205_204 := n6;clear n0 n1 n2 n3 n4 n5 n6;clear hb hbox hg;have hnb43 := NB204_205.out;have hnc43 := NB205_204.out;obtain ⟨hcz44_0,hcz44_1,hcz44_2,hcz44_3,hfz44_0,hfz44_1,hfz44_2,hfz44_3⟩ := bR4_ BK204.out;obtain ⟨hcz45_0,hcz45_1,hcz45_2,hcz45_3,hfz45_0,hfz45_1,hfz45_2,hfz45_3⟩ := bR4_ BK205.out) | ((with_reducible refine gate_callee (f := 29) rfl ?_);refine gL_ (some 9) Try.func29 #[.slice A0_0 l0_0.length c0_0,.slice A1_0 l1_0.length c1_0] ?_;(with_reducible refine (laws_eqStepSS.calls k _ _ l0_0 _ _ l1_0 true _ ?side1 ?side2 ?side3 ?side4 A3.out).mono ?_);(case side1 => exact cS_ (Kd.C_below HR0_0.out HB.out));(case side2 => exact HC0_0.out);(case side3 => exact cS_ (Kd.C_below HR1_0.out HB.out));(case side4 => exact HC1_0.out);rintro e w46 ⟨rfl,hb⟩;refine ⟨_,rfl,?_⟩;have n0 := aM_ (nB_ BK204.out hb);have n1 := aM_ (nB_ BK205.out hb);have n2 := aM_ (sT_ HB.out hb);clear BK204;clear BK205;clear HB;have BK204 := n0;have BK205 := n1;have HB := n2;clear n0 n1 n2;obtain ⟨hcz47_0,hcz47_1,hcz47_2,hcz47_3,hfz47_0,hfz47_1,hfz47_2,hfz47_3⟩ := bR4_ BK204.out;obtain ⟨hcz48_0,hcz48_1,hcz48_2,hcz48_3,hfz48_0,hfz48_1,hfz48_2,hfz48_3⟩ := bR4_ BK205.out) | ((with_reducible refine gate_callee (f := 82) rfl ?_);refine gL_ (some 15) Try.func82 #[.slice A0_1 l0_1.length c0_1,.slice A1_1 l1_1.length c1_1] ?_;(with_reducible refine (laws_eqCoreS.calls k _ _ l0_1 _ _ l1_1 true _ ?side1 ?side2 ?side3 ?side4 A5.out).mono ?_);(case side1 => exact cS_ (Kd.C_below HR0_1.out HB.out));(case side2 => exact HC0_1.out);(case side3 => exact cS_ (Kd.C_below HR1_1.out HB.out));(case side4 => exact HC1_1.out);rintro e w49 ⟨rfl,hb⟩;refine ⟨_,rfl,?_⟩;have n0 := aM_ (nB_ BK204.out hb);have n1 := aM_ (nB_ BK205.out hb);have n2 := aM_ (sT_ HB.out hb);clear BK204;clear BK205;clear HB;have BK204 := n0;have BK205 := n1;have HB := n2;clear n0 n1 n2;obtain ⟨hcz50_0,hcz50_1,hcz50_2,hcz50_3,hfz50_0,hfz50_1,hfz50_2,hfz50_3⟩ := bR4_ BK204.out;obtain ⟨hcz51_0,hcz51_1,hcz51_2,hcz51_3,hfz51_0,hfz51_1,hfz51_2,hfz51_3⟩ := bR4_ BK205.out) | ((with_reducible refine gate_callee (f := 83) rfl ?_);refine gL_ (some 21) Try.func83 #[.agg #[.slice A0_2 l0_2.length c0_2],.agg #[.slice A1_2 l1_2.length c1_2]] ?_;(with_reducible refine (laws_eqMemory.calls k _ _ l0_2 _ _ l1_2 false _ ?side1 ?side2 ?side3 ?side4 A7.out).mono ?_);(case side1 => exact cS_ (Kd.C_below HR0_2.out HB.out));(case side2 => exact HC0_2.out);(case side3 => exact cS_ (Kd.C_below HR1_2.out HB.out));(case side4 => exact HC1_2.out);rintro e w52 ⟨rfl,hb⟩;refine ⟨_,rfl,?_⟩;have n0 := aM_ (nB_ BK204.out hb);have n1 := aM_ (nB_ BK205.out hb);have n2 := aM_ (sT_ HB.out hb);clear BK204;clear BK205;clear HB;have BK204 := n0;have BK205 := n1;have HB := n2;clear n0 n1 n2))
    go_ret
    exact fI_ HB.out
  ·replace c6 := Bool.eq_false_iff.mpr c6
   subst c6
   have H1 : (some false) = some r := by rw [if_neg (show ¬ (false = true) by decide)] at H;exact H
   clear H
   have H := H1
   clear H1
   obtain rfl := Option.some.inj H
   go_enter Try.func28,Try.ntmps28
   go_wp2_with (first | ((with_reducible refine gate_dst (N := 2) rfl ?_);refine bX_ 2 (cs := #[.slice A0_0 l0_0.length c0_0,.slice A0_1 l0_1.length c0_1,.slice A0_2 l0_2.length c0_2,.slice A0_3 l0_3.length c0_3]) (t := 59) ?_;intro gb204 hg w53 hbox hb;have n0 := aM_ (sT_ HB.out hb);have n1 := aM_ (hbox);have n2 := aM_ (sZ_ hg HB.out);have n3 := aM_ (sZ_ hg HB.out);clear HB;have HB := n0;have BK204 := n1;have GW204 := n2;have GE204 := n3;clear n0 n1 n2 n3;clear hb hbox hg) | ((with_reducible refine gate_dst (N := 3) rfl ?_);refine bX_ 3 (cs := #[.slice A1_0 l1_0.length c1_0,.slice A1_1 l1_1.length c1_1,.slice A1_2 l1_2.length c1_2,.slice A1_3 l1_3.length c1_3]) (t := 59) ?_;intro gb205 hg w54 hbox hb;have n0 := aM_ (nB_ BK204.out hb);have n1 := aM_ (sT_ HB.out hb);have n2 := aM_ (hbox);have n3 := aM_ (sZ_ hg HB.out);have n4 := aM_ (sZ_ hg HB.out);have n5 := aM_ (nL_ hg BK204.out);have n6 := aM_ (nG_ hg BK204.out);clear BK204;clear HB;have BK204 := n0;have HB := n1;have BK205 := n2;have GW205 := n3;have GE205 := n4;have NB204_205 := n5;have NB205_204 := n6;clear n0 n1 n2 n3 n4 n5 n6;clear hb hbox hg;have hnb55 := NB204_205.out;have hnc55 := NB205_204.out;obtain ⟨hcz56_0,hcz56_1,hcz56_2,hcz56_3,hfz56_0,hfz56_1,hfz56_2,hfz56_3⟩ := bR4_ BK204.out;obtain ⟨hcz57_0,hcz57_1,hcz57_2,hcz57_3,hfz57_0,hfz57_1,hfz57_2,hfz57_3⟩ := bR4_ BK205.out) | ((with_reducible refine gate_callee (f := 29) rfl ?_);refine gL_ (some 9) Try.func29 #[.slice A0_0 l0_0.length c0_0,.slice A1_0 l1_0.length c1_0] ?_;(with_reducible refine (laws_eqStepSS.calls k _ _ l0_0 _ _ l1_0 true _ ?side1 ?side2 ?side3 ?side4 A3.out).mono ?_);(case side1 => exact cS_ (Kd.C_below HR0_0.out HB.out));(case side2 => exact HC0_0.out);(case side3 => exact cS_ (Kd.C_below HR1_0.out HB.out));(case side4 => exact HC1_0.out);rintro e w58 ⟨rfl,hb⟩;refine ⟨_,rfl,?_⟩;have n0 := aM_ (nB_ BK204.out hb);have n1 := aM_ (nB_ BK205.out hb);have n2 := aM_ (sT_ HB.out hb);clear BK204;clear BK205;clear HB;have BK204 := n0;have BK205 := n1;have HB := n2;clear n0 n1 n2;obtain ⟨hcz59_0,hcz59_1,hcz59_2,hcz59_3,hfz59_0,hfz59_1,hfz59_2,hfz59_3⟩ := bR4_ BK204.out;obtain ⟨hcz60_0,hcz60_1,hcz60_2,hcz60_3,hfz60_0,hfz60_1,hfz60_2,hfz60_3⟩ := bR4_ BK205.out) | ((with_reducible refine gate_callee (f := 82) rfl ?_);refine gL_ (some 15) Try.func82 #[.slice A0_1 l0_1.length c0_1,.slice A1_1 l1_1.length c1_1] ?_;(with_reducible refine (laws_eqCoreS.calls k _ _ l0_1 _ _ l1_1 false _ ?side1 ?side2 ?side3 ?side4 A5.out).mono ?_);(case side1 => exact cS_ (Kd.C_below HR0_1.out HB.out));(case side2 => exact HC0_1.out);(case side3 => exact cS_ (Kd.C_below HR1_1.out HB.out));(case side4 => exact HC1_1.out);rintro e w61 ⟨rfl,hb⟩;refine ⟨_,rfl,?_⟩;have n0 := aM_ (nB_ BK204.out hb);have n1 := aM_ (nB_ BK205.out hb);have n2 := aM_ (sT_ HB.out hb);clear BK204;clear BK205;clear HB;have BK204 := n0;have BK205 := n1;have HB := n2;clear n0 n1 n2))
   go_ret
   exact fI_ HB.out
 ·replace c4 := Bool.eq_false_iff.mpr c4
  subst c4
  have H1 : (some false) = some r := by rw [if_neg (show ¬ (false = true) by decide)] at H;exact H
  clear H
  have H := H1
  clear H1
  obtain rfl := Option.some.inj H
  go_enter Try.func28,Try.ntmps28
  go_wp2_with (first | ((with_reducible refine gate_dst (N := 2) rfl ?_);refine bX_ 2 (cs := #[.slice A0_0 l0_0.length c0_0,.slice A0_1 l0_1.length c0_1,.slice A0_2 l0_2.length c0_2,.slice A0_3 l0_3.length c0_3]) (t := 59) ?_;intro gb204 hg w62 hbox hb;have n0 := aM_ (sT_ HB.out hb);have n1 := aM_ (hbox);have n2 := aM_ (sZ_ hg HB.out);have n3 := aM_ (sZ_ hg HB.out);clear HB;have HB := n0;have BK204 := n1;have GW204 := n2;have GE204 := n3;clear n0 n1 n2 n3;clear hb hbox hg) | ((with_reducible refine gate_dst (N := 3) rfl ?_);refine bX_ 3 (cs := #[.slice A1_0 l1_0.length c1_0,.slice A1_1 l1_1.length c1_1,.slice A1_2 l1_2.length c1_2,.slice A1_3 l1_3.length c1_3]) (t := 59) ?_;intro gb205 hg w63 hbox hb;have n0 := aM_ (nB_ BK204.out hb);have n1 := aM_ (sT_ HB.out hb);have n2 := aM_ (hbox);have n3 := aM_ (sZ_ hg HB.out);have n4 := aM_ (sZ_ hg HB.out);have n5 := aM_ (nL_ hg BK204.out);have n6 := aM_ (nG_ hg BK204.out);clear BK204;clear HB;have BK204 := n0;have HB := n1;have BK205 := n2;have GW205 := n3;have GE205 := n4;have NB204_205 := n5;have NB205_204 := n6;clear n0 n1 n2 n3 n4 n5 n6;clear hb hbox hg;have hnb64 := NB204_205.out;have hnc64 := NB205_204.out;obtain ⟨hcz65_0,hcz65_1,hcz65_2,hcz65_3,hfz65_0,hfz65_1,hfz65_2,hfz65_3⟩ := bR4_ BK204.out;obtain ⟨hcz66_0,hcz66_1,hcz66_2,hcz66_3,hfz66_0,hfz66_1,hfz66_2,hfz66_3⟩ := bR4_ BK205.out) | ((with_reducible refine gate_callee (f := 29) rfl ?_);refine gL_ (some 9) Try.func29 #[.slice A0_0 l0_0.length c0_0,.slice A1_0 l1_0.length c1_0] ?_;(with_reducible refine (laws_eqStepSS.calls k _ _ l0_0 _ _ l1_0 false _ ?side1 ?side2 ?side3 ?side4 A3.out).mono ?_);(case side1 => exact cS_ (Kd.C_below HR0_0.out HB.out));(case side2 => exact HC0_0.out);(case side3 => exact cS_ (Kd.C_below HR1_0.out HB.out));(case side4 => exact HC1_0.out);rintro e w67 ⟨rfl,hb⟩;refine ⟨_,rfl,?_⟩;have n0 := aM_ (nB_ BK204.out hb);have n1 := aM_ (nB_ BK205.out hb);have n2 := aM_ (sT_ HB.out hb);clear BK204;clear BK205;clear HB;have BK204 := n0;have BK205 := n1;have HB := n2;clear n0 n1 n2))
  go_ret
  exact fI_ HB.out
def laws_szThread.f (a0_0 : Int) (l0_1 : List Int) (a0_2 : Int) (a1 : Int) : Option (Int) := (laws_szIntS.f l0_1 a1).bind fun t211 => (if t211 < 0 then (some (-1)) else (some t211))
set_option maxHeartbeats 8000000 in
set_option maxRecDepth 100000 in
theorem laws_szThread.calls (a0_0 : Int) (A0_1 : Option Addr) (c0_1 : Nat) (l0_1 : List Int) (a0_2 : Int) (a1 : Int) (r : Int) (w : World) (hr0_1 : Kd.C (Kd.int .i64) w A0_1 l0_1.length l0_1) (hc0_1 : l0_1.length ≤ c0_1) (h : laws_szThread.f a0_0 l0_1 a0_2 a1 = some r) :
  Calls Try.prog 144 #[.agg #[.int .i64 a0_0,.slice A0_1 l0_1.length c0_1,.int .i64 a0_2],.int .i64 a1] w fun e w' => e = .returned (.int .i64 r) ∧ Below w.heap.size w w' := by
 have hu184 := Try.underlying184
 have HR0_1 := aM_ hr0_1
 have HC0_1 := aM_ hc0_1
 clear hr0_1 hc0_1
 have HB := aM_ (Below.refl w.heap.size w)
 have H : ((laws_szIntS.f l0_1 a1).bind fun t211 => (if t211 < 0 then (some (-1)) else (some t211))) = some r := h
 clear h
 replace H := Option.bind_eq_some_iff.mp H
 obtain ⟨t211,A30,H⟩ := H
 replace H : (if t211 < 0 then (some (-1)) else (some t211)) = some r := H
 have A3 := aM_ A30
 clear A30
 by_cases c4 : t211 < 0
 ·rw [if_pos c4] at H
  have c4b0 : decide (t211 < 0) = true := decide_eq_true c4
  clear c4
  obtain rfl := Option.some.inj H
  go_enter Try.func144,Try.ntmps144
  go_wp2_with (first | ((with_reducible refine gate_dst (N := 2) rfl ?_);refine bX_ 2 (cs := #[.int .i64 a0_0,.slice A0_1 l0_1.length c0_1,.int .i64 a0_2]) (t := 184) ?_;intro gb210 hg w5 hbox hb;have n0 := aM_ (sT_ HB.out hb);have n1 := aM_ (hbox);have n2 := aM_ (sZ_ hg HB.out);have n3 := aM_ (sZ_ hg HB.out);clear HB;have HB := n0;have BK210 := n1;have GW210 := n2;have GE210 := n3;clear n0 n1 n2 n3;clear hb hbox hg;obtain ⟨hcz6_0,hcz6_1,hcz6_2,hfz6_0,hfz6_1,hfz6_2⟩ := bR3_ BK210.out) | ((with_reducible refine gate_callee (f := 58) rfl ?_);refine gL_ (some 8) Try.func58 #[.slice A0_1 l0_1.length c0_1,.int .i64 a1] ?_;(with_reducible refine (laws_szIntS.calls _ _ l0_1 a1 t211 _ ?side1 ?side2 A3.out).mono ?_);(case side1 => exact cS_ (Kd.C_below HR0_1.out HB.out));(case side2 => exact HC0_1.out);rintro e w' ⟨rfl,⟨nd,rfl⟩⟩;refine ⟨_,rfl,?_⟩))
  go_ret
  exact fI_ HB.out
 ·rw [if_neg c4] at H
  have c4b0 : decide (t211 < 0) = false := decide_eq_false c4
  clear c4
  obtain rfl := Option.some.inj H
  go_enter Try.func144,Try.ntmps144
  go_wp2_with (first | ((with_reducible refine gate_dst (N := 2) rfl ?_);refine bX_ 2 (cs := #[.int .i64 a0_0,.slice A0_1 l0_1.length c0_1,.int .i64 a0_2]) (t := 184) ?_;intro gb210 hg w7 hbox hb;have n0 := aM_ (sT_ HB.out hb);have n1 := aM_ (hbox);have n2 := aM_ (sZ_ hg HB.out);have n3 := aM_ (sZ_ hg HB.out);clear HB;have HB := n0;have BK210 := n1;have GW210 := n2;have GE210 := n3;clear n0 n1 n2 n3;clear hb hbox hg;obtain ⟨hcz8_0,hcz8_1,hcz8_2,hfz8_0,hfz8_1,hfz8_2⟩ := bR3_ BK210.out) | ((with_reducible refine gate_callee (f := 58) rfl ?_);refine gL_ (some 8) Try.func58 #[.slice A0_1 l0_1.length c0_1,.int .i64 a1] ?_;(with_reducible refine (laws_szIntS.calls _ _ l0_1 a1 t211 _ ?side1 ?side2 A3.out).mono ?_);(case side1 => exact cS_ (Kd.C_below HR0_1.out HB.out));(case side2 => exact HC0_1.out);rintro e w' ⟨rfl,⟨nd,rfl⟩⟩;refine ⟨_,rfl,?_⟩))
  go_ret
  exact fI_ HB.out
def laws_szThreadS.l0 : Nat → List (S184) → Int → Int → Option (Int)
  | 0,_,_,_ => none
  | k + 1,x0,x1,x5 => if x5 < (x0.length : Int) then (if 0 ≤ x5 then ((laws_szThread.f ((rd_T184 x0 x5).f0) ((rd_T184 x0 x5).f1) ((rd_T184 x0 x5).f2) x1).bind fun t213 => (if t213 < 0 then (some (-1)) else (laws_szThreadS.l0 k x0 t213 (wrap64 (x5 + 1))))) else (none)) else (some x1)
def laws_szThreadS.f (k : Nat) (l0 : List (S184)) (a1 : Int) : Option (Int) := if (wrap64 (a1 - (l0.length : Int))) < 0 then (some (-1)) else (laws_szThreadS.l0 k l0 (wrap64 (a1 - (l0.length : Int))) 0)
set_option maxHeartbeats 8000000 in
set_option maxRecDepth 100000 in
theorem laws_szThreadS.calls (k : Nat) (A0 : Option Addr) (c0 : Nat) (l0 : List (S184)) (a1 : Int) (r : Int) (w : World) (hr0 : Kd.C k184 w A0 l0.length l0) (hc0 : l0.length ≤ c0) (h : laws_szThreadS.f k l0 a1 = some r) :
  Calls Try.prog 91 #[.slice A0 l0.length c0,.int .i64 a1] w fun e w' => e = .returned (.int .i64 r) ∧ Below w.heap.size w w' := by
 have hu184 := Try.underlying184
 have HR0 := aM_ hr0
 have HC0 := aM_ hc0
 clear hr0 hc0
 have HB := aM_ (Below.refl w.heap.size w)
 have H : (if (wrap64 (a1 - (l0.length : Int))) < 0 then (some (-1)) else (laws_szThreadS.l0 k l0 (wrap64 (a1 - (l0.length : Int))) 0)) = some r := h
 clear h
 by_cases c3 : (wrap64 (a1 - (l0.length : Int))) < 0
 ·rw [if_pos c3] at H
  have c3b0 : decide ((wrap64 (a1 - (l0.length : Int))) < 0) = true := decide_eq_true c3
  clear c3
  obtain rfl := Option.some.inj H
  go_enter Try.func91,Try.ntmps91
  go_wp2
  go_ret
  exact fI_ HB.out
 ·rw [if_neg c3] at H
  have c3b0 : decide ((wrap64 (a1 - (l0.length : Int))) < 0) = false := decide_eq_false c3
  clear c3
  have H' := aM_ H
  clear H
  go_enter Try.func91,Try.ntmps91
  go_wp2
  go_loopg [1,5] k (fun kq v1 v5 w' => ∃ (x1_1 : Int) (x5_1 : Int),v1 = .int .i64 x1_1 ∧ v5 = .int .i64 x5_1 ∧ Aside0 (laws_szThreadS.l0 kq l0 x1_1 x5_1 = some r) ∧ Aside0 (kq ≤ k) ∧ Aside0 (Below w.heap.size w w'))
  case atStart => exact ⟨(wrap64 (a1 - (l0.length : Int))),(0),(by first | rfl | (simp;done) | (simp [*];done)),(by first | rfl | (simp;done) | (simp [*];done)),H',⟨Nat.le_refl _⟩,⟨gW_ HB.out⟩⟩
  case round =>
   clear H'
   try clear p2
   try clear c3
   try clear c3b0
   obtain ⟨x1_1,x5_1,rfl,rfl,HA,HK1,HB⟩ := hrel
   cases gk with
   | zero => exact absurd HA.out (by simp [laws_szThreadS.l0])
   | succ k1 =>
    have H := HA.out
    clear HA
    simp only [laws_szThreadS.l0] at H
    by_cases c4 : x5_1 < (l0.length : Int)
    ·rw [if_pos c4] at H
     have c4b0 : decide (x5_1 < (l0.length : Int)) = true := decide_eq_true c4
     clear c4
     by_cases c5 : 0 ≤ x5_1
     ·rw [if_pos c5] at H
      have c5b0 : decide (0 ≤ x5_1) = true := decide_eq_true c5
      clear c5
      replace H := Option.bind_eq_some_iff.mp H
      obtain ⟨t213,A60,H⟩ := H
      replace H : (if t213 < 0 then (some (-1)) else (laws_szThreadS.l0 k1 l0 t213 (wrap64 (x5_1 + 1)))) = some r := H
      have A6 := aM_ A60
      clear A60
      by_cases c7 : t213 < 0
      ·rw [if_pos c7] at H
       have c7b0 : decide (t213 < 0) = true := decide_eq_true c7
       clear c7
       obtain rfl := Option.some.inj H
       have p212 : 0 ≤ (x5_1 : Int) := of_decide_eq_true (by first | (with_reducible assumption) | assumption)
       have q212 : x5_1 < (l0.length : Int) := of_decide_eq_true (by first | (with_reducible assumption) | assumption)
       obtain ⟨ad212,A212_1,c212_1,e212,hx212_0,hx212_1,hx212_2,hl212_1,hi212_1⟩ := at_T184 HR0.out x5_1 p212 q212
       cases e212
       replace hx212_0 := cB_ HB.out hx212_0
       replace hx212_1 := cB_ HB.out hx212_1
       replace hx212_2 := cB_ HB.out hx212_2
       have HR212_1 := aM_ hi212_1
       have HC212_1 := aM_ hl212_1
       clear hi212_1 hl212_1
       replace p212 := eq_true p212
       replace q212 := eq_true q212
       go_wp2_with (first | ((with_reducible refine gate_callee (f := 144) rfl ?_);refine gL_ (some 23) Try.func144 #[.agg #[.int .i64 ((rd_T184 l0 x5_1).f0),.slice A212_1 ((rd_T184 l0 x5_1).f1).length c212_1,.int .i64 ((rd_T184 l0 x5_1).f2)],.int .i64 x1_1] ?_;(with_reducible refine (laws_szThread.calls ((rd_T184 l0 x5_1).f0) _ _ ((rd_T184 l0 x5_1).f1) ((rd_T184 l0 x5_1).f2) x1_1 t213 _ ?side1 ?side2 A6.out).mono ?_);(case side1 => exact cS_ (Kd.C_below HR212_1.out HB.out));(case side2 => exact HC212_1.out);rintro e w8 ⟨rfl,hb⟩;refine ⟨_,rfl,?_⟩;have n0 := aM_ (sT_ HB.out hb);clear HB;have HB := n0;clear n0))
       go_ret
       exact fI_ HB.out
      ·rw [if_neg c7] at H
       have c7b0 : decide (t213 < 0) = false := decide_eq_false c7
       clear c7
       have H' := aM_ H
       clear H
       have p212 : 0 ≤ (x5_1 : Int) := of_decide_eq_true (by first | (with_reducible assumption) | assumption)
       have q212 : x5_1 < (l0.length : Int) := of_decide_eq_true (by first | (with_reducible assumption) | assumption)
       obtain ⟨ad212,A212_1,c212_1,e212,hx212_0,hx212_1,hx212_2,hl212_1,hi212_1⟩ := at_T184 HR0.out x5_1 p212 q212
       cases e212
       replace hx212_0 := cB_ HB.out hx212_0
       replace hx212_1 := cB_ HB.out hx212_1
       replace hx212_2 := cB_ HB.out hx212_2
       have HR212_1 := aM_ hi212_1
       have HC212_1 := aM_ hl212_1
       clear hi212_1 hl212_1
       replace p212 := eq_true p212
       replace q212 := eq_true q212
       go_wp2_with (first | ((with_reducible refine gate_callee (f := 144) rfl ?_);refine gL_ (some 23) Try.func144 #[.agg #[.int .i64 ((rd_T184 l0 x5_1).f0),.slice A212_1 ((rd_T184 l0 x5_1).f1).length c212_1,.int .i64 ((rd_T184 l0 x5_1).f2)],.int .i64 x1_1] ?_;(with_reducible refine (laws_szThread.calls ((rd_T184 l0 x5_1).f0) _ _ ((rd_T184 l0 x5_1).f1) ((rd_T184 l0 x5_1).f2) x1_1 t213 _ ?side1 ?side2 A6.out).mono ?_);(case side1 => exact cS_ (Kd.C_below HR212_1.out HB.out));(case side2 => exact HC212_1.out);rintro e w9 ⟨rfl,hb⟩;refine ⟨_,rfl,?_⟩;have n0 := aM_ (sT_ HB.out hb);clear HB;have HB := n0;clear n0))
       go_roundg k1
       case measure => have := HK1.out;omega
       case rel => exact ⟨(t213),(wrap64 (x5_1 + 1)),(by first | rfl | (simp;done) | (simp [*];done)),(by first | rfl | (simp;done) | (simp [*];done)),H',⟨by have := HK1.out;omega⟩,⟨gW_ HB.out⟩⟩
     ·rw [if_neg c5] at H
      exact absurd H (by simp)
    ·rw [if_neg c4] at H
     have c4b0 : decide (x5_1 < (l0.length : Int)) = false := decide_eq_false c4
     clear c4
     obtain rfl := Option.some.inj H
     go_wp2
     go_ret
     exact fI_ HB.out
def laws_szChan.f (a0_0 : Int) (l0_1 : List Int) (a0_2 : Bool) (a1 : Int) : Option (Int) := (laws_szIntS.f l0_1 a1).bind fun t215 => (if t215 < 0 then (some (-1)) else (some t215))
set_option maxHeartbeats 8000000 in
set_option maxRecDepth 100000 in
theorem laws_szChan.calls (a0_0 : Int) (A0_1 : Option Addr) (c0_1 : Nat) (l0_1 : List Int) (a0_2 : Bool) (a1 : Int) (r : Int) (w : World) (hr0_1 : Kd.C (Kd.int .i64) w A0_1 l0_1.length l0_1) (hc0_1 : l0_1.length ≤ c0_1) (h : laws_szChan.f a0_0 l0_1 a0_2 a1 = some r) :
  Calls Try.prog 145 #[.agg #[.int .i64 a0_0,.slice A0_1 l0_1.length c0_1,.bool a0_2],.int .i64 a1] w fun e w' => e = .returned (.int .i64 r) ∧ Below w.heap.size w w' := by
 have hu186 := Try.underlying186
 have HR0_1 := aM_ hr0_1
 have HC0_1 := aM_ hc0_1
 clear hr0_1 hc0_1
 have HB := aM_ (Below.refl w.heap.size w)
 have H : ((laws_szIntS.f l0_1 a1).bind fun t215 => (if t215 < 0 then (some (-1)) else (some t215))) = some r := h
 clear h
 replace H := Option.bind_eq_some_iff.mp H
 obtain ⟨t215,A30,H⟩ := H
 replace H : (if t215 < 0 then (some (-1)) else (some t215)) = some r := H
 have A3 := aM_ A30
 clear A30
 by_cases c4 : t215 < 0
 ·rw [if_pos c4] at H
  have c4b0 : decide (t215 < 0) = true := decide_eq_true c4
  clear c4
  obtain rfl := Option.some.inj H
  go_enter Try.func145,Try.ntmps145
  go_wp2_with (first | ((with_reducible refine gate_dst (N := 2) rfl ?_);refine bX_ 2 (cs := #[.int .i64 a0_0,.slice A0_1 l0_1.length c0_1,.bool a0_2]) (t := 186) ?_;intro gb214 hg w5 hbox hb;have n0 := aM_ (sT_ HB.out hb);have n1 := aM_ (hbox);have n2 := aM_ (sZ_ hg HB.out);have n3 := aM_ (sZ_ hg HB.out);clear HB;have HB := n0;have BK214 := n1;have GW214 := n2;have GE214 := n3;clear n0 n1 n2 n3;clear hb hbox hg;obtain ⟨hcz6_0,hcz6_1,hcz6_2,hfz6_0,hfz6_1,hfz6_2⟩ := bR3_ BK214.out) | ((with_reducible refine gate_callee (f := 58) rfl ?_);refine gL_ (some 8) Try.func58 #[.slice A0_1 l0_1.length c0_1,.int .i64 a1] ?_;(with_reducible refine (laws_szIntS.calls _ _ l0_1 a1 t215 _ ?side1 ?side2 A3.out).mono ?_);(case side1 => exact cS_ (Kd.C_below HR0_1.out HB.out));(case side2 => exact HC0_1.out);rintro e w' ⟨rfl,⟨nd,rfl⟩⟩;refine ⟨_,rfl,?_⟩))
  go_ret
  exact fI_ HB.out
 ·rw [if_neg c4] at H
  have c4b0 : decide (t215 < 0) = false := decide_eq_false c4
  clear c4
  obtain rfl := Option.some.inj H
  go_enter Try.func145,Try.ntmps145
  go_wp2_with (first | ((with_reducible refine gate_dst (N := 2) rfl ?_);refine bX_ 2 (cs := #[.int .i64 a0_0,.slice A0_1 l0_1.length c0_1,.bool a0_2]) (t := 186) ?_;intro gb214 hg w7 hbox hb;have n0 := aM_ (sT_ HB.out hb);have n1 := aM_ (hbox);have n2 := aM_ (sZ_ hg HB.out);have n3 := aM_ (sZ_ hg HB.out);clear HB;have HB := n0;have BK214 := n1;have GW214 := n2;have GE214 := n3;clear n0 n1 n2 n3;clear hb hbox hg;obtain ⟨hcz8_0,hcz8_1,hcz8_2,hfz8_0,hfz8_1,hfz8_2⟩ := bR3_ BK214.out) | ((with_reducible refine gate_callee (f := 58) rfl ?_);refine gL_ (some 8) Try.func58 #[.slice A0_1 l0_1.length c0_1,.int .i64 a1] ?_;(with_reducible refine (laws_szIntS.calls _ _ l0_1 a1 t215 _ ?side1 ?side2 A3.out).mono ?_);(case side1 => exact cS_ (Kd.C_below HR0_1.out HB.out));(case side2 => exact HC0_1.out);rintro e w' ⟨rfl,⟨nd,rfl⟩⟩;refine ⟨_,rfl,?_⟩))
  go_ret
  exact fI_ HB.out
def laws_szChanS.l0 : Nat → List (S186) → Int → Int → Option (Int)
  | 0,_,_,_ => none
  | k + 1,x0,x1,x5 => if x5 < (x0.length : Int) then (if 0 ≤ x5 then ((laws_szChan.f ((rd_T186 x0 x5).f0) ((rd_T186 x0 x5).f1) ((rd_T186 x0 x5).f2) x1).bind fun t217 => (if t217 < 0 then (some (-1)) else (laws_szChanS.l0 k x0 t217 (wrap64 (x5 + 1))))) else (none)) else (some x1)
def laws_szChanS.f (k : Nat) (l0 : List (S186)) (a1 : Int) : Option (Int) := if (wrap64 (a1 - (l0.length : Int))) < 0 then (some (-1)) else (laws_szChanS.l0 k l0 (wrap64 (a1 - (l0.length : Int))) 0)
set_option maxHeartbeats 8000000 in
set_option maxRecDepth 100000 in
theorem laws_szChanS.calls (k : Nat) (A0 : Option Addr) (c0 : Nat) (l0 : List (S186)) (a1 : Int) (r : Int) (w : World) (hr0 : Kd.C k186 w A0 l0.length l0) (hc0 : l0.length ≤ c0) (h : laws_szChanS.f k l0 a1 = some r) :
  Calls Try.prog 92 #[.slice A0 l0.length c0,.int .i64 a1] w fun e w' => e = .returned (.int .i64 r) ∧ Below w.heap.size w w' := by
 have hu186 := Try.underlying186
 have HR0 := aM_ hr0
 have HC0 := aM_ hc0
 clear hr0 hc0
 have HB := aM_ (Below.refl w.heap.size w)
 have H : (if (wrap64 (a1 - (l0.length : Int))) < 0 then (some (-1)) else (laws_szChanS.l0 k l0 (wrap64 (a1 - (l0.length : Int))) 0)) = some r := h
 clear h
 by_cases c3 : (wrap64 (a1 - (l0.length : Int))) < 0
 ·rw [if_pos c3] at H
  have c3b0 : decide ((wrap64 (a1 - (l0.length : Int))) < 0) = true := decide_eq_true c3
  clear c3
  obtain rfl := Option.some.inj H
  go_enter Try.func92,Try.ntmps92
  go_wp2
  go_ret
  exact fI_ HB.out
 ·rw [if_neg c3] at H
  have c3b0 : decide ((wrap64 (a1 - (l0.length : Int))) < 0) = false := decide_eq_false c3
  clear c3
  have H' := aM_ H
  clear H
  go_enter Try.func92,Try.ntmps92
  go_wp2
  go_loopg [1,5] k (fun kq v1 v5 w' => ∃ (x1_1 : Int) (x5_1 : Int),v1 = .int .i64 x1_1 ∧ v5 = .int .i64 x5_1 ∧ Aside0 (laws_szChanS.l0 kq l0 x1_1 x5_1 = some r) ∧ Aside0 (kq ≤ k) ∧ Aside0 (Below w.heap.size w w'))
  case atStart => exact ⟨(wrap64 (a1 - (l0.length : Int))),(0),(by first | rfl | (simp;done) | (simp [*];done)),(by first | rfl | (simp;done) | (simp [*];done)),H',⟨Nat.le_refl _⟩,⟨gW_ HB.out⟩⟩
  case round =>
   clear H'
   try clear p2
   try clear c3
   try clear c3b0
   obtain ⟨x1_1,x5_1,rfl,rfl,HA,HK1,HB⟩ := hrel
   cases gk with
   | zero => exact absurd HA.out (by simp [laws_szChanS.l0])
   | succ k1 =>
    have H := HA.out
    clear HA
    simp only [laws_szChanS.l0] at H
    by_cases c4 : x5_1 < (l0.length : Int)
    ·rw [if_pos c4] at H
     have c4b0 : decide (x5_1 < (l0.length : Int)) = true := decide_eq_true c4
     clear c4
     by_cases c5 : 0 ≤ x5_1
     ·rw [if_pos c5] at H
      have c5b0 : decide (0 ≤ x5_1) = true := decide_eq_true c5
      clear c5
      replace H := Option.bind_eq_some_iff.mp H
      obtain ⟨t217,A60,H⟩ := H
      replace H : (if t217 < 0 then (some (-1)) else (laws_szChanS.l0 k1 l0 t217 (wrap64 (x5_1 + 1)))) = some r := H
      have A6 := aM_ A60
      clear A60
      by_cases c7 : t217 < 0
      ·rw [if_pos c7] at H
       have c7b0 : decide (t217 < 0) = true := decide_eq_true c7
       clear c7
       obtain rfl := Option.some.inj H
       have p216 : 0 ≤ (x5_1 : Int) := of_decide_eq_true (by first | (with_reducible assumption) | assumption)
       have q216 : x5_1 < (l0.length : Int) := of_decide_eq_true (by first | (with_reducible assumption) | assumption)
       obtain ⟨ad216,A216_1,c216_1,e216,hx216_0,hx216_1,hx216_2,hl216_1,hi216_1⟩ := at_T186 HR0.out x5_1 p216 q216
       cases e216
       replace hx216_0 := cB_ HB.out hx216_0
       replace hx216_1 := cB_ HB.out hx216_1
       replace hx216_2 := cB_ HB.out hx216_2
       have HR216_1 := aM_ hi216_1
       have HC216_1 := aM_ hl216_1
       clear hi216_1 hl216_1
       replace p216 := eq_true p216
       replace q216 := eq_true q216
       go_wp2_with (first | ((with_reducible refine gate_callee (f := 145) rfl ?_);refine gL_ (some 23) Try.func145 #[.agg #[.int .i64 ((rd_T186 l0 x5_1).f0),.slice A216_1 ((rd_T186 l0 x5_1).f1).length c216_1,.bool ((rd_T186 l0 x5_1).f2)],.int .i64 x1_1] ?_;(with_reducible refine (laws_szChan.calls ((rd_T186 l0 x5_1).f0) _ _ ((rd_T186 l0 x5_1).f1) ((rd_T186 l0 x5_1).f2) x1_1 t217 _ ?side1 ?side2 A6.out).mono ?_);(case side1 => exact cS_ (Kd.C_below HR216_1.out HB.out));(case side2 => exact HC216_1.out);rintro e w8 ⟨rfl,hb⟩;refine ⟨_,rfl,?_⟩;have n0 := aM_ (sT_ HB.out hb);clear HB;have HB := n0;clear n0))
       go_ret
       exact fI_ HB.out
      ·rw [if_neg c7] at H
       have c7b0 : decide (t217 < 0) = false := decide_eq_false c7
       clear c7
       have H' := aM_ H
       clear H
       have p216 : 0 ≤ (x5_1 : Int) := of_decide_eq_true (by first | (with_reducible assumption) | assumption)
       have q216 : x5_1 < (l0.length : Int) := of_decide_eq_true (by first | (with_reducible assumption) | assumption)
       obtain ⟨ad216,A216_1,c216_1,e216,hx216_0,hx216_1,hx216_2,hl216_1,hi216_1⟩ := at_T186 HR0.out x5_1 p216 q216
       cases e216
       replace hx216_0 := cB_ HB.out hx216_0
       replace hx216_1 := cB_ HB.out hx216_1
       replace hx216_2 := cB_ HB.out hx216_2
       have HR216_1 := aM_ hi216_1
       have HC216_1 := aM_ hl216_1
       clear hi216_1 hl216_1
       replace p216 := eq_true p216
       replace q216 := eq_true q216
       go_wp2_with (first | ((with_reducible refine gate_callee (f := 145) rfl ?_);refine gL_ (some 23) Try.func145 #[.agg #[.int .i64 ((rd_T186 l0 x5_1).f0),.slice A216_1 ((rd_T186 l0 x5_1).f1).length c216_1,.bool ((rd_T186 l0 x5_1).f2)],.int .i64 x1_1] ?_;(with_reducible refine (laws_szChan.calls ((rd_T186 l0 x5_1).f0) _ _ ((rd_T186 l0 x5_1).f1) ((rd_T186 l0 x5_1).f2) x1_1 t217 _ ?side1 ?side2 A6.out).mono ?_);(case side1 => exact cS_ (Kd.C_below HR216_1.out HB.out));(case side2 => exact HC216_1.out);rintro e w9 ⟨rfl,hb⟩;refine ⟨_,rfl,?_⟩;have n0 := aM_ (sT_ HB.out hb);clear HB;have HB := n0;clear n0))
       go_roundg k1
       case measure => have := HK1.out;omega
       case rel => exact ⟨(t217),(wrap64 (x5_1 + 1)),(by first | rfl | (simp;done) | (simp [*];done)),(by first | rfl | (simp;done) | (simp [*];done)),H',⟨by have := HK1.out;omega⟩,⟨gW_ HB.out⟩⟩
     ·rw [if_neg c5] at H
      exact absurd H (by simp)
    ·rw [if_neg c4] at H
     have c4b0 : decide (x5_1 < (l0.length : Int)) = false := decide_eq_false c4
     clear c4
     obtain rfl := Option.some.inj H
     go_wp2
     go_ret
     exact fI_ HB.out
def laws_szNoteS.f (l0 : List (S190)) (a1 : Int) : Option (Int) := if (wrap64 (a1 - (l0.length : Int))) < 0 then (some (-1)) else (some (wrap64 (a1 - (l0.length : Int))))
set_option maxHeartbeats 8000000 in
set_option maxRecDepth 100000 in
theorem laws_szNoteS.calls (A0 : Option Addr) (c0 : Nat) (l0 : List (S190)) (a1 : Int) (r : Int) (w : World) (hr0 : Kd.C k190 w A0 l0.length l0) (hc0 : l0.length ≤ c0) (h : laws_szNoteS.f l0 a1 = some r) :
  Calls Try.prog 93 #[.slice A0 l0.length c0,.int .i64 a1] w fun e w' => e = .returned (.int .i64 r) ∧ Drawn0 w w' := by
 have HR0 := aM_ hr0
 have HC0 := aM_ hc0
 clear hr0 hc0
 have H : (if (wrap64 (a1 - (l0.length : Int))) < 0 then (some (-1)) else (some (wrap64 (a1 - (l0.length : Int))))) = some r := h
 clear h
 by_cases c3 : (wrap64 (a1 - (l0.length : Int))) < 0
 ·rw [if_pos c3] at H
  have c3b0 : decide ((wrap64 (a1 - (l0.length : Int))) < 0) = true := decide_eq_true c3
  clear c3
  obtain rfl := Option.some.inj H
  go_enter Try.func93,Try.ntmps93
  go_wp2
  go_ret
  exact ⟨by first | rfl | (simp;done) | (simp [*];done),by repeat (first | exact Drawn0.refl _ | apply Drawn0.step)⟩
 ·rw [if_neg c3] at H
  have c3b0 : decide ((wrap64 (a1 - (l0.length : Int))) < 0) = false := decide_eq_false c3
  clear c3
  obtain rfl := Option.some.inj H
  go_enter Try.func93,Try.ntmps93
  go_wp2
  go_ret
  exact ⟨by first | rfl | (simp;done) | (simp [*];done),by repeat (first | exact Drawn0.refl _ | apply Drawn0.step)⟩
def laws_szSource.f (k : Nat) (l0_0 : List (S184)) (l0_1 : List (S186)) (l0_2 : List (S190)) (a1 : Int) : Option (Int) := (laws_szThreadS.f k l0_0 a1).bind fun t219 => (if t219 < 0 then (some (-1)) else ((laws_szChanS.f k l0_1 t219).bind fun t220 => (if t220 < 0 then (some (-1)) else ((laws_szNoteS.f l0_2 t220).bind fun t221 => (if t221 < 0 then (some (-1)) else (some t221))))))
set_option maxHeartbeats 8000000 in
set_option maxRecDepth 100000 in
theorem laws_szSource.calls (k : Nat) (A0_0 : Option Addr) (c0_0 : Nat) (l0_0 : List (S184)) (A0_1 : Option Addr) (c0_1 : Nat) (l0_1 : List (S186)) (A0_2 : Option Addr) (c0_2 : Nat) (l0_2 : List (S190)) (a1 : Int) (r : Int) (w : World) (hr0_0 : Kd.C k184 w A0_0 l0_0.length l0_0) (hc0_0 : l0_0.length ≤ c0_0) (hr0_1 : Kd.C k186 w A0_1 l0_1.length l0_1) (hc0_1 : l0_1.length ≤ c0_1) (hr0_2 : Kd.C k190 w A0_2 l0_2.length l0_2) (hc0_2 : l0_2.length ≤ c0_2) (h : laws_szSource.f k l0_0 l0_1 l0_2 a1 = some r) :
  Calls Try.prog 33 #[.agg #[.slice A0_0 l0_0.length c0_0,.slice A0_1 l0_1.length c0_1,.slice A0_2 l0_2.length c0_2],.int .i64 a1] w fun e w' => e = .returned (.int .i64 r) ∧ Below w.heap.size w w' := by
 have hu72 := Try.underlying72
 have HR0_0 := aM_ hr0_0
 have HC0_0 := aM_ hc0_0
 clear hr0_0 hc0_0
 have HR0_1 := aM_ hr0_1
 have HC0_1 := aM_ hc0_1
 clear hr0_1 hc0_1
 have HR0_2 := aM_ hr0_2
 have HC0_2 := aM_ hc0_2
 clear hr0_2 hc0_2
 have HB := aM_ (Below.refl w.heap.size w)
 have H : ((laws_szThreadS.f k l0_0 a1).bind fun t219 => (if t219 < 0 then (some (-1)) else ((laws_szChanS.f k l0_1 t219).bind fun t220 => (if t220 < 0 then (some (-1)) else ((laws_szNoteS.f l0_2 t220).bind fun t221 => (if t221 < 0 then (some (-1)) else (some t221))))))) = some r := h
 clear h
 replace H := Option.bind_eq_some_iff.mp H
 obtain ⟨t219,A30,H⟩ := H
 replace H : (if t219 < 0 then (some (-1)) else ((laws_szChanS.f k l0_1 t219).bind fun t220 => (if t220 < 0 then (some (-1)) else ((laws_szNoteS.f l0_2 t220).bind fun t221 => (if t221 < 0 then (some (-1)) else (some t221)))))) = some r := H
 have A3 := aM_ A30
 clear A30
 by_cases c4 : t219 < 0
 ·rw [if_pos c4] at H
  have c4b0 : decide (t219 < 0) = true := decide_eq_true c4
  clear c4
  obtain rfl := Option.some.inj H
  go_enter Try.func33,Try.ntmps33
  go_wp2_with (first | ((with_reducible refine gate_dst (N := 2) rfl ?_);refine bX_ 2 (cs := #[.slice A0_0 l0_0.length c0_0,.slice A0_1 l0_1.length c0_1,.slice A0_2 l0_2.length c0_2]) (t := 72) ?_;intro gb218 hg w5 hbox hb;have n0 := aM_ (sT_ HB.out hb);have n1 := aM_ (hbox);have n2 := aM_ (sZ_ hg HB.out);have n3 := aM_ (sZ_ hg HB.out);clear HB;have HB := n0;have BK218 := n1;have GW218 := n2;have GE218 := n3;clear n0 n1 n2 n3;clear hb hbox hg;obtain ⟨hcz6_0,hcz6_1,hcz6_2,hfz6_0,hfz6_1,hfz6_2⟩ := bR3_ BK218.out) | ((with_reducible refine gate_callee (f := 91) rfl ?_);refine gL_ (some 8) Try.func91 #[.slice A0_0 l0_0.length c0_0,.int .i64 a1] ?_;(with_reducible refine (laws_szThreadS.calls k _ _ l0_0 a1 t219 _ ?side1 ?side2 A3.out).mono ?_);(case side1 => exact cS_ (Kd.C_below HR0_0.out HB.out));(case side2 => exact HC0_0.out);rintro e w7 ⟨rfl,hb⟩;refine ⟨_,rfl,?_⟩;have n0 := aM_ (nB_ BK218.out hb);have n1 := aM_ (sT_ HB.out hb);clear BK218;clear HB;have BK218 := n0;have HB := n1;clear n0 n1))
  go_ret
  exact fI_ HB.out
 ·rw [if_neg c4] at H
  have c4b0 : decide (t219 < 0) = false := decide_eq_false c4
  clear c4
  replace H := Option.bind_eq_some_iff.mp H
  obtain ⟨t220,A80,H⟩ := H
  replace H : (if t220 < 0 then (some (-1)) else ((laws_szNoteS.f l0_2 t220).bind fun t221 => (if t221 < 0 then (some (-1)) else (some t221)))) = some r := H
  have A8 := aM_ A80
  clear A80
  by_cases c9 : t220 < 0
  ·rw [if_pos c9] at H
   have c9b0 : decide (t220 < 0) = true := decide_eq_true c9
   clear c9
   obtain rfl := Option.some.inj H
   go_enter Try.func33,Try.ntmps33
   go_wp2_with (first | ((with_reducible refine gate_dst (N := 2) rfl ?_);refine bX_ 2 (cs := #[.slice A0_0 l0_0.length c0_0,.slice A0_1 l0_1.length c0_1,.slice A0_2 l0_2.length c0_2]) (t := 72) ?_;intro gb218 hg w10 hbox hb;have n0 := aM_ (sT_ HB.out hb);have n1 := aM_ (hbox);have n2 := aM_ (sZ_ hg HB.out);have n3 := aM_ (sZ_ hg HB.out);clear HB;have HB := n0;have BK218 := n1;have GW218 := n2;have GE218 := n3;clear n0 n1 n2 n3;clear hb hbox hg;obtain ⟨hcz11_0,hcz11_1,hcz11_2,hfz11_0,hfz11_1,hfz11_2⟩ := bR3_ BK218.out) | ((with_reducible refine gate_callee (f := 91) rfl ?_);refine gL_ (some 8) Try.func91 #[.slice A0_0 l0_0.length c0_0,.int .i64 a1] ?_;(with_reducible refine (laws_szThreadS.calls k _ _ l0_0 a1 t219 _ ?side1 ?side2 A3.out).mono ?_);(case side1 => exact cS_ (Kd.C_below HR0_0.out HB.out));(case side2 => exact HC0_0.out);rintro e w12 ⟨rfl,hb⟩;refine ⟨_,rfl,?_⟩;have n0 := aM_ (nB_ BK218.out hb);have n1 := aM_ (sT_ HB.out hb);clear BK218;clear HB;have BK218 := n0;have HB := n1;clear n0 n1;obtain ⟨hcz13_0,hcz13_1,hcz13_2,hfz13_0,hfz13_1,hfz13_2⟩ := bR3_ BK218.out) | ((with_reducible refine gate_callee (f := 92) rfl ?_);refine gL_ (some 14) Try.func92 #[.slice A0_1 l0_1.length c0_1,.int .i64 t219] ?_;(with_reducible refine (laws_szChanS.calls k _ _ l0_1 t219 t220 _ ?side1 ?side2 A8.out).mono ?_);(case side1 => exact cS_ (Kd.C_below HR0_1.out HB.out));(case side2 => exact HC0_1.out);rintro e w14 ⟨rfl,hb⟩;refine ⟨_,rfl,?_⟩;have n0 := aM_ (nB_ BK218.out hb);have n1 := aM_ (sT_ HB.out hb);clear BK218;clear HB;have BK218 := n0;have HB := n1;clear n0 n1))
   go_ret
   exact fI_ HB.out
  ·rw [if_neg c9] at H
   have c9b0 : decide (t220 < 0) = false := decide_eq_false c9
   clear c9
   replace H := Option.bind_eq_some_iff.mp H
   obtain ⟨t221,A150,H⟩ := H
   replace H : (if t221 < 0 then (some (-1)) else (some t221)) = some r := H
   have A15 := aM_ A150
   clear A150
   by_cases c16 : t221 < 0
   ·rw [if_pos c16] at H
    have c16b0 : decide (t221 < 0) = true := decide_eq_true c16
    clear c16
    obtain rfl := Option.some.inj H
    go_enter Try.func33,Try.ntmps33
    go_wp2_with (first | ((with_reducible refine gate_dst (N := 2) rfl ?_);refine bX_ 2 (cs := #[.slice A0_0 l0_0.length c0_0,.slice A0_1 l0_1.length c0_1,.slice A0_2 l0_2.length c0_2]) (t := 72) ?_;intro gb218 hg w17 hbox hb;have n0 := aM_ (sT_ HB.out hb);have n1 := aM_ (hbox);have n2 := aM_ (sZ_ hg HB.out);have n3 := aM_ (sZ_ hg HB.out);clear HB;have HB := n0;have BK218 := n1;have GW218 := n2;have GE218 := n3;clear n0 n1 n2 n3;clear hb hbox hg;obtain ⟨hcz18_0,hcz18_1,hcz18_2,hfz18_0,hfz18_1,hfz18_2⟩ := bR3_ BK218.out) | ((with_reducible refine gate_callee (f := 91) rfl ?_);refine gL_ (some 8) Try.func91 #[.slice A0_0 l0_0.length c0_0,.int .i64 a1] ?_;(with_reducible refine (laws_szThreadS.calls k _ _ l0_0 a1 t219 _ ?side1 ?side2 A3.out).mono ?_);(case side1 => exact cS_ (Kd.C_below HR0_0.out HB.out));(case side2 => exact HC0_0.out);rintro e w19 ⟨rfl,hb⟩;refine ⟨_,rfl,?_⟩;have n0 := aM_ (nB_ BK218.out hb);have n1 := aM_ (sT_ HB.out hb);clear BK218;clear HB;have BK218 := n0;have HB := n1;clear n0 n1;obtain ⟨hcz20_0,hcz20_1,hcz20_2,hfz20_0,hfz20_1,hfz20_2⟩ := bR3_ BK218.out) | ((with_reducible refine gate_callee (f := 92) rfl ?_);refine gL_ (some 14) Try.func92 #[.slice A0_1 l0_1.length c0_1,.int .i64 t219] ?_;(with_reducible refine (laws_szChanS.calls k _ _ l0_1 t219 t220 _ ?side1 ?side2 A8.out).mono ?_);(case side1 => exact cS_ (Kd.C_below HR0_1.out HB.out));(case side2 => exact HC0_1.out);rintro e w21 ⟨rfl,hb⟩;refine ⟨_,rfl,?_⟩;have n0 := aM_ (nB_ BK218.out hb);have n1 := aM_ (sT_ HB.out hb);clear BK218;clear HB;have BK218 := n0;have HB := n1;clear n0 n1;obtain ⟨hcz22_0,hcz22_1,hcz22_2,hfz22_0,hfz22_1,hfz22_2⟩ := bR3_ BK218.out) | ((with_reducible refine gate_callee (f := 93) rfl ?_);refine gL_ (some 20) Try.func93 #[.slice A0_2 l0_2.length c0_2,.int .i64 t220] ?_;(with_reducible refine (laws_szNoteS.calls _ _ l0_2 t220 t221 _ ?side1 ?side2 A15.out).mono ?_);(case side1 => exact cS_ (Kd.C_below HR0_2.out HB.out));(case side2 => exact HC0_2.out);rintro e w' ⟨rfl,⟨nd,rfl⟩⟩;refine ⟨_,rfl,?_⟩))
    go_ret
    exact fI_ HB.out
   ·rw [if_neg c16] at H
    have c16b0 : decide (t221 < 0) = false := decide_eq_false c16
    clear c16
    obtain rfl := Option.some.inj H
    go_enter Try.func33,Try.ntmps33
    go_wp2_with (first | ((with_reducible refine gate_dst (N := 2) rfl ?_);refine bX_ 2 (cs := #[.slice A0_0 l0_0.length c0_0,.slice A0_1 l0_1.length c0_1,.slice A0_2 l0_2.length c0_2]) (t := 72) ?_;intro gb218 hg w23 hbox hb;have n0 := aM_ (sT_ HB.out hb);have n1 := aM_ (hbox);have n2 := aM_ (sZ_ hg HB.out);have n3 := aM_ (sZ_ hg HB.out);clear HB;have HB := n0;have BK218 := n1;have GW218 := n2;have GE218 := n3;clear n0 n1 n2 n3;clear hb hbox hg;obtain ⟨hcz24_0,hcz24_1,hcz24_2,hfz24_0,hfz24_1,hfz24_2⟩ := bR3_ BK218.out) | ((with_reducible refine gate_callee (f := 91) rfl ?_);refine gL_ (some 8) Try.func91 #[.slice A0_0 l0_0.length c0_0,.int .i64 a1] ?_;(with_reducible refine (laws_szThreadS.calls k _ _ l0_0 a1 t219 _ ?side1 ?side2 A3.out).mono ?_);(case side1 => exact cS_ (Kd.C_below HR0_0.out HB.out));(case side2 => exact HC0_0.out);rintro e w25 ⟨rfl,hb⟩;refine ⟨_,rfl,?_⟩;have n0 := aM_ (nB_ BK218.out hb);have n1 := aM_ (sT_ HB.out hb);clear BK218;clear HB;have BK218 := n0;have HB := n1;clear n0 n1;obtain ⟨hcz26_0,hcz26_1,hcz26_2,hfz26_0,hfz26_1,hfz26_2⟩ := bR3_ BK218.out) | ((with_reducible refine gate_callee (f := 92) rfl ?_);refine gL_ (some 14) Try.func92 #[.slice A0_1 l0_1.length c0_1,.int .i64 t219] ?_;(with_reducible refine (laws_szChanS.calls k _ _ l0_1 t219 t220 _ ?side1 ?side2 A8.out).mono ?_);(case side1 => exact cS_ (Kd.C_below HR0_1.out HB.out));(case side2 => exact HC0_1.out);rintro e w27 ⟨rfl,hb⟩;refine ⟨_,rfl,?_⟩;have n0 := aM_ (nB_ BK218.out hb);have n1 := aM_ (sT_ HB.out hb);clear BK218;clear HB;have BK218 := n0;have HB := n1;clear n0 n1;obtain ⟨hcz28_0,hcz28_1,hcz28_2,hfz28_0,hfz28_1,hfz28_2⟩ := bR3_ BK218.out) | ((with_reducible refine gate_callee (f := 93) rfl ?_);refine gL_ (some 20) Try.func93 #[.slice A0_2 l0_2.length c0_2,.int .i64 t220] ?_;(with_reducible refine (laws_szNoteS.calls _ _ l0_2 t220 t221 _ ?side1 ?side2 A15.out).mono ?_);(case side1 => exact cS_ (Kd.C_below HR0_2.out HB.out));(case side2 => exact HC0_2.out);rintro e w' ⟨rfl,⟨nd,rfl⟩⟩;refine ⟨_,rfl,?_⟩))
    go_ret
    exact fI_ HB.out
def laws_toThread.f (k : Nat) (a0_0 : Int) (l0_1 : List Int) (a0_2 : Int) : Option (Int × List Int × Int) := (laws_toIntS.f k l0_1).bind fun t225 => (some (a0_0,t225,a0_2))
set_option maxHeartbeats 8000000 in
set_option maxRecDepth 100000 in
theorem laws_toThread.calls (k : Nat) (a0_0 : Int) (A0_1 : Option Addr) (c0_1 : Nat) (l0_1 : List Int) (a0_2 : Int) (r1 : Int) (r2 : List Int) (r3 : Int) (w : World) (hr0_1 : Kd.C (Kd.int .i64) w A0_1 l0_1.length l0_1) (hc0_1 : l0_1.length ≤ c0_1) (h : laws_toThread.f k a0_0 l0_1 a0_2 = some (r1,r2,r3)) :
  Calls Try.prog 147 #[.agg #[.int .i64 a0_0,.slice A0_1 l0_1.length c0_1,.int .i64 a0_2]] w fun e w' => ∃ v1_ : Value,e = .returned (.agg #[.int .i64 r1,v1_,.int .i64 r3]) ∧ Kd.R (Kd.int .i64) 3 w' w.heap.size (fun _ => True) v1_ r2 ∧ Below w.heap.size w w' := by
 have hu184 := Try.underlying184
 have hu107 := Try.underlying107
 have HR0_1 := aM_ hr0_1
 have HC0_1 := aM_ hc0_1
 clear hr0_1 hc0_1
 have HB := aM_ (Below.refl w.heap.size w)
 have H : ((laws_toIntS.f k l0_1).bind fun t225 => (some (a0_0,t225,a0_2))) = some (r1,r2,r3) := h
 clear h
 replace H := Option.bind_eq_some_iff.mp H
 obtain ⟨t225,A20,H⟩ := H
 replace H : (some (a0_0,t225,a0_2)) = some (r1,r2,r3) := H
 have A2 := aM_ A20
 clear A20
 simp only [Option.some.injEq,Prod.mk.injEq] at H
 obtain ⟨rfl,rfl,rfl⟩ := H
 go_enter Try.func147,Try.ntmps147
 go_wp2_with (first | ((with_reducible refine gate_dst (N := 1) rfl ?_);refine bX_ 1 (cs := #[.int .i64 a0_0,.slice A0_1 l0_1.length c0_1,.int .i64 a0_2]) (t := 184) ?_;intro gb222 hg w3 hbox hb;have n0 := aM_ (sT_ HB.out hb);have n1 := aM_ (hbox);have n2 := aM_ (sZ_ hg HB.out);have n3 := aM_ (sZ_ hg HB.out);clear HB;have HB := n0;have BK222 := n1;have GW222 := n2;have GE222 := n3;clear n0 n1 n2 n3;clear hb hbox hg) | ((with_reducible refine gate_dst (N := 2) rfl ?_);refine bX_ 2 (cs := #[.int .i64 0,.slice none 0 0,.int .i64 0]) (t := 107) ?_;intro gb223 hg w4 hbox hb;have n0 := aM_ (nB_ BK222.out hb);have n1 := aM_ (sT_ HB.out hb);have n2 := aM_ (hbox);have n3 := aM_ (sZ_ hg HB.out);have n4 := aM_ (sZ_ hg HB.out);have n5 := aM_ (nL_ hg BK222.out);have n6 := aM_ (nG_ hg BK222.out);clear BK222;clear HB;have BK222 := n0;have HB := n1;have BK223 := n2;have GW223 := n3;have GE223 := n4;have NB222_223 := n5;have NB223_222 := n6;clear n0 n1 n2 n3 n4 n5 n6;clear hb hbox hg) | ((with_reducible refine gate_dst (N := 3) rfl ?_);refine bX_ 3 (cs := #[.int .i64 0,.slice none 0 0,.int .i64 0]) (t := 107) ?_;intro gb224 hg w5 hbox hb;have n0 := aM_ (nB_ BK222.out hb);have n1 := aM_ (nB_ BK223.out hb);have n2 := aM_ (sT_ HB.out hb);have n3 := aM_ (hbox);have n4 := aM_ (sZ_ hg HB.out);have n5 := aM_ (sZ_ hg HB.out);have n6 := aM_ (nL_ hg BK222.out);have n7 := aM_ (nG_ hg BK222.out);have n8 := aM_ (nL_ hg BK223.out);have n9 := aM_ (nG_ hg BK223.out);clear BK222;clear BK223;clear HB;have BK222 := n0;have BK223 := n1;have HB := n2;have BK224 := n3;have GW224 := n4;have GE224 := n5;have NB222_224 := n6;have NB224_222 := n7;have NB223_224 := n8;have NB224_223 := n9;clear n0 n1 n2 n3 n4 n5 n6 n7 n8 n9;clear hb hbox hg;have hnb6 := NB222_223.out;have hnc6 := NB223_222.out;have hnb7 := NB222_224.out;have hnc7 := NB224_222.out;obtain ⟨hcz8_0,hcz8_1,hcz8_2,hfz8_0,hfz8_1,hfz8_2⟩ := bR3_ BK222.out;have hnb9 := NB224_223.out;have hnc9 := NB223_224.out;obtain ⟨hcz10_0,hcz10_1,hcz10_2,hfz10_0,hfz10_1,hfz10_2⟩ := bR3_ BK224.out) | ((with_reducible refine gate_callee (f := 61) rfl ?_);refine gL_ (some 9) Try.func61 #[.slice A0_1 l0_1.length c0_1] ?_;(with_reducible refine (laws_toIntS.calls k _ _ l0_1 t225 _ ?side1 ?side2 A2.out).mono ?_);(case side1 => exact Kd.C_below HR0_1.out (gB_ HB.out));(case side2 => exact HC0_1.out);rintro e w11 ⟨v226,rfl,ho0,hb⟩;refine ⟨_,rfl,?_⟩;have n0 := aM_ (Kd.R_lower ho0 (below_size (gB_ HB.out)));have n1 := aM_ (nBf_ BK222.out hb);have n2 := aM_ (nBf_ BK223.out hb);have n3 := aM_ (blk_below (g := gb224) (o := .cells #[.int .i64 a0_0,.slice none 0 0,.int .i64 0] 107 (0,0)) (by (with_reducible repeat (first | refine bN_ ?_ _ | refine bD_ ?_ | refine bA_ ?_ _));refine blk_put (cs := #[.int .i64 0,.slice none 0 0,.int .i64 0]) ?_ 0 _ rfl;exact rW_ BK224.out) hb);have n4 := aM_ (sT_ HB.out hb);clear BK222;clear BK223;clear BK224;clear HB;have HO227 := n0;have BK222 := n1;have BK223 := n2;have BK224 := n3;have HB := n4;clear n0 n1 n2 n3 n4;(try clear ho0);obtain ⟨Ao12,co12,eo12⟩ := Kd.R_slice HO227.out;subst eo12;obtain ⟨hcz13_0,hcz13_1,hcz13_2,hfz13_0,hfz13_1,hfz13_2⟩ := bR3_ BK224.out;obtain ⟨hcz14_0,hcz14_1,hcz14_2,hfz14_0,hfz14_1,hfz14_2⟩ := bR3_ BK222.out;obtain ⟨hcz15_0,hcz15_1,hcz15_2,hfz15_0,hfz15_1,hfz15_2⟩ := bR3_ BK223.out))
 refine bodyPost_ret (results_cell_row rfl _ _ gb223 107 #[.int .i64 a0_0,.slice Ao12 t225.length co12,.int .i64 a0_2] (0,0) _ rfl (by (with_reducible repeat (first | refine bN_ ?_ _ | refine bD_ ?_ | refine bA_ ?_ _));refine blk_put (cs := #[.int .i64 a0_0,.slice Ao12 t225.length co12,.int .i64 0]) ?_ 2 _ rfl;refine blk_put (cs := #[.int .i64 a0_0,.slice none 0 0,.int .i64 0]) ?_ 1 _ rfl;refine blk_put (cs := #[.int .i64 0,.slice none 0 0,.int .i64 0]) ?_ 0 _ rfl;exact rWf_ BK223.out) Try.underlying107 rfl (by kernel_rfl)) rfl ?_
 exact ⟨_,fR_,by (with_reducible repeat (first | apply rA_ | apply rN_ | apply rD_));exact Kd.R_mono (Kd.R_far (p := ⟨gb223,2,none⟩) (Kd.R_far (p := ⟨gb223,1,none⟩) (Kd.R_far (p := ⟨gb223,0,none⟩) (Kd.R_far (p := ⟨gb224,2,none⟩) (Kd.R_far (p := ⟨gb224,1,none⟩) (Kd.R_types (Kd.R_types HO227.out BK224.out (by decide)) BK223.out (by decide)) (fun _ hk => hk.1.2) (.slice Ao12 t225.length co12)) (fun _ hk => hk.1.2) (.int .i64 a0_2)) (fun _ hk => hk.2) (.int .i64 a0_0)) (fun _ hk => hk.2) (.slice Ao12 t225.length co12)) (fun _ hk => hk.2) (.int .i64 a0_2)) (fun _ hk => trivial),gB_ HB.out⟩
def laws_toThreadS.l0 : Nat → List (S184) → List (S107) → Int → Option ((List (S107)))
  | 0,_,_,_ => none
  | k + 1,x0,x3,x4 => if x4 < (x0.length : Int) then (if 0 ≤ x4 then ((laws_toThread.f k ((rd_T184 x0 x4).f0) ((rd_T184 x0 x4).f1) ((rd_T184 x0 x4).f2)).bind fun bt232 => (if x4 < (x3.length : Int) then (laws_toThreadS.l0 k x0 (x3.set (x4 : Int).toNat (⟨bt232.1,bt232.2.1,bt232.2.2⟩ : S107)) (wrap64 (x4 + 1))) else (none))) else (none)) else (some x3)
def laws_toThreadS.f (k : Nat) (l0 : List (S184)) : Option ((List (S107))) := if 0 ≤ (l0.length : Int) then (if ((l0.length : Int) : Int).toNat ≤ 7036874417766 then (laws_toThreadS.l0 k l0 (List.replicate ((l0.length : Int) : Int).toNat z107) 0) else (none)) else (none)
set_option maxHeartbeats 8000000 in
set_option maxRecDepth 100000 in
theorem laws_toThreadS.calls (k : Nat) (A0 : Option Addr) (c0 : Nat) (l0 : List (S184)) (r : List (S107)) (w : World) (hr0 : Kd.C k184 w A0 l0.length l0) (hc0 : l0.length ≤ c0) (h : laws_toThreadS.f k l0 = some r) :
  Calls Try.prog 95 #[.slice A0 l0.length c0] w fun e w' => ∃ v0_ : Value,e = .returned (v0_) ∧ Kd.S k107 107 w' w.heap.size (fun _ => True) v0_ r ∧ Below w.heap.size w w' := by
 have hu184 := Try.underlying184
 have hu107 := Try.underlying107
 have HR0 := aM_ hr0
 have HC0 := aM_ hc0
 clear hr0 hc0
 have HB := aM_ (Below.refl w.heap.size w)
 have H : (if 0 ≤ (l0.length : Int) then (if ((l0.length : Int) : Int).toNat ≤ 7036874417766 then (laws_toThreadS.l0 k l0 (List.replicate ((l0.length : Int) : Int).toNat z107) 0) else (none)) else (none)) = some r := h
 clear h
 by_cases c2 : 0 ≤ (l0.length : Int)
 ·rw [if_pos c2] at H
  have c2b0 := eq_true c2
  have c2b1 : decide (0 ≤ (l0.length : Int)) = true := decide_eq_true c2
  clear c2
  by_cases c3 : ((l0.length : Int) : Int).toNat ≤ 7036874417766
  ·rw [if_pos c3] at H
   have c3b0 := eq_true c3
   have c3b1 : decide (((l0.length : Int) : Int).toNat ≤ 7036874417766) = true := decide_eq_true c3
   clear c3
   obtain ⟨y228,hy228⟩ : ∃ y_ : List (S107),y_ = (List.replicate ((l0.length : Int) : Int).toNat z107) := ⟨_,rfl⟩
   replace H : (laws_toThreadS.l0 k l0 y228 0) = some r := by first | (rw [hy228];with_reducible exact H) | (have H2_ := (Option.bind_some _ _).symm.trans H;rw [hy228];with_reducible exact H2_) | (have H2_ := (Option.bind_some _ _).symm.trans H;with_reducible exact H2_) | with_reducible exact H | (rw [hy228];exact H) | exact H
   have Ny228 := aM_ hy228
   clear hy228
   have H' := aM_ H
   clear H
   go_enter Try.func95,Try.ntmps95
   go_wp2_with (first | ((with_reducible refine gate_dst (N := 7) rfl ?_);refine Kd.S_make k107 _ 107 rfl (N := 7) rfl 24 _ _ rfl (l0.length : Int) rfl rfl Try.underlying24 (.agg #[(.int .i64 0),(.slice none 0 0),(.int .i64 0)]) 40 info107 rfl (by decide) (by omega) z107 (ok := fun _ => True) (okp := fun _ => True) (k107_mkM _ _ _ z107 (Kd.R_nil _ _ _ _ _)) (fun _ hk => hk) trivial (of_decide_eq_true (by first | (with_reducible assumption) | assumption)) (Nat.le_trans (Nat.mul_le_mul_right _ (of_decide_eq_true (by first | (with_reducible assumption) | assumption) : (l0.length : Int).toNat ≤ 7036874417766)) (by omega)) (Below.refl _ _) (Nat.le_refl _) ?_;intro v229 w4 ho5 hb hg_ hnew_;clear hg_ hnew_;(first | rw [← Ny228.out] at ho5 | (simp only [Int.reduceToNat] at ho5;rw [← Ny228.out] at ho5));have n0 := aM_ (Kd.S_lower ho5 (below_size (gB_ HB.out)));have n1 := aM_ (sT_ HB.out hb);clear HB;have HO230 := n0;have HB := n1;clear n0 n1;clear hb ho5))
   go_loopg [4] k (fun kq v4 w' => ∃ (x3_1 : List (S107)) (x4_1 : Int),v4 = .int .i64 x4_1 ∧ Aside0 (laws_toThreadS.l0 kq l0 x3_1 x4_1 = some r) ∧ Aside0 (kq ≤ k) ∧ Aside0 (Kd.S k107 107 w' w.heap.size (fun _ => True) v229 x3_1) ∧ Aside0 (Below w.heap.size w w'))
   case atStart => exact ⟨(y228),(0),(by first | rfl | (simp;done) | (simp [*];done)),H',⟨Nat.le_refl _⟩,⟨by (with_reducible repeat (first | apply Kd.S_alloc | apply Kd.S_drewN | apply Kd.S_drew));exact HO230.out⟩,⟨gW_ HB.out⟩⟩
   case round =>
    clear H'
    try clear c2
    try clear c2b0
    try clear c2b1
    try clear p2
    try clear c3
    try clear c3b0
    try clear c3b1
    obtain ⟨x3_1,x4_1,rfl,HA,HK1,HO_3,HB⟩ := hrel
    cases gk with
    | zero => exact absurd HA.out (by simp [laws_toThreadS.l0])
    | succ k1 =>
     have H := HA.out
     clear HA
     simp only [laws_toThreadS.l0] at H
     by_cases c6 : x4_1 < (l0.length : Int)
     ·rw [if_pos c6] at H
      have c6b0 : decide (x4_1 < (l0.length : Int)) = true := decide_eq_true c6
      clear c6
      by_cases c7 : 0 ≤ x4_1
      ·rw [if_pos c7] at H
       have c7b0 : decide (0 ≤ x4_1) = true := decide_eq_true c7
       clear c7
       replace H := Option.bind_eq_some_iff.mp H
       obtain ⟨⟨t232,t233,t236⟩,A80,H⟩ := H
       replace H : (if x4_1 < (x3_1.length : Int) then (laws_toThreadS.l0 k1 l0 (x3_1.set (x4_1 : Int).toNat (⟨t232,t233,t236⟩ : S107)) (wrap64 (x4_1 + 1))) else (none)) = some r := H
       have A8 := aM_ A80
       clear A80
       by_cases c9 : x4_1 < (x3_1.length : Int)
       ·rw [if_pos c9] at H
        have c9b0 : decide (x4_1 < (x3_1.length : Int)) = true := decide_eq_true c9
        clear c9
        obtain ⟨y237,hy237⟩ : ∃ y_ : List (S107),y_ = (x3_1.set (x4_1 : Int).toNat (⟨t232,t233,t236⟩ : S107)) := ⟨_,rfl⟩
        replace H : (laws_toThreadS.l0 k1 l0 y237 (wrap64 (x4_1 + 1))) = some r := by first | (rw [hy237];with_reducible exact H) | (have H2_ := (Option.bind_some _ _).symm.trans H;rw [hy237];with_reducible exact H2_) | (have H2_ := (Option.bind_some _ _).symm.trans H;with_reducible exact H2_) | with_reducible exact H | (rw [hy237];exact H) | exact H
        have Ny237 := aM_ hy237
        clear hy237
        have H' := aM_ H
        clear H
        have p231 : 0 ≤ (x4_1 : Int) := of_decide_eq_true (by first | (with_reducible assumption) | assumption)
        have q231 : x4_1 < (l0.length : Int) := of_decide_eq_true (by first | (with_reducible assumption) | assumption)
        obtain ⟨ad231,A231_1,c231_1,e231,hx231_0,hx231_1,hx231_2,hl231_1,hi231_1⟩ := at_T184 HR0.out x4_1 p231 q231
        cases e231
        replace hx231_0 := cB_ HB.out hx231_0
        replace hx231_1 := cB_ HB.out hx231_1
        replace hx231_2 := cB_ HB.out hx231_2
        have HR231_1 := aM_ hi231_1
        have HC231_1 := aM_ hl231_1
        clear hi231_1 hl231_1
        replace p231 := eq_true p231
        replace q231 := eq_true q231
        go_wp2_with (first | ((with_reducible refine gate_callee (f := 147) rfl ?_);refine gL_ (some 20) Try.func147 #[.agg #[.int .i64 ((rd_T184 l0 x4_1).f0),.slice A231_1 ((rd_T184 l0 x4_1).f1).length c231_1,.int .i64 ((rd_T184 l0 x4_1).f2)]] ?_;(with_reducible refine (laws_toThread.calls k1 ((rd_T184 l0 x4_1).f0) _ _ ((rd_T184 l0 x4_1).f1) ((rd_T184 l0 x4_1).f2) t232 t233 t236 _ ?side1 ?side2 A8.out).mono ?_);(case side1 => exact cS_ (Kd.C_below HR231_1.out HB.out));(case side2 => exact HC231_1.out);rintro e w11 ⟨v234,rfl,ho0,hb⟩;refine ⟨_,rfl,?_⟩;have n0 := aM_ (Kd.S_elder' (by (with_reducible repeat (first | apply Kd.S_alloc | apply Kd.S_drewN | apply Kd.S_drew));exact HO_3.out) (Kd.R_base ho0) hb);have n1 := aM_ (Kd.R_lower ho0 (below_size (gB_ HB.out)));have n2 := aM_ (sT_ HB.out hb);clear HO_3;clear HB;have HO_3 := n0;have HO235 := n1;have HB := n2;clear n0 n1 n2;(try clear ho0);have p10 : 0 ≤ (x4_1 : Int) := of_decide_eq_true (by first | (with_reducible assumption) | assumption);have q10 : (x4_1 : Int) < ((x3_1.length : Int) : Int) := of_decide_eq_true (by first | (with_reducible assumption) | assumption);obtain ⟨go10,co10,eo10,gb10,gl10,cl10,HG10⟩ := Kd.S_form HO_3.out (by omega);(first | cases eo10 | (injection eo10 with ea_ en_ ec_;(first | subst ea_ | (injection ea_ with ea_;subst ea_));subst ec_;clear en_));have GB10 := aM_ gb10;have GG10 := aM_ HG10;clear gb10 gl10 HG10;obtain ⟨_,ce10,hcl10,hM10,hcc10,hfr10,_,_⟩ := Kd.S_elem HO_3.out z107 (x4_1 : Int) p10 q10;obtain ⟨ve10_1,rfl,ge10_1⟩ := k107_openM hM10;have hx10_0 : w11.cell? ⟨go10,(x4_1 : Int).toNat * 3,none⟩ = some (.int .i64 ((rd_T107 x3_1 x4_1).f0)) := hcc10 0 _ rfl;have hx10_1 : w11.cell? ⟨go10,(x4_1 : Int).toNat * 3 + 1,none⟩ = some (ve10_1) := hcc10 1 _ rfl;have hx10_2 : w11.cell? ⟨go10,(x4_1 : Int).toNat * 3 + 2,none⟩ = some (.int .i64 ((rd_T107 x3_1 x4_1).f2)) := hcc10 2 _ rfl;have hf10_0 : w11.frozen? ⟨go10,(x4_1 : Int).toNat * 3,none⟩ = false := hfr10 0;have hf10_1 : w11.frozen? ⟨go10,(x4_1 : Int).toNat * 3 + 1,none⟩ = false := hfr10 1;have hf10_2 : w11.frozen? ⟨go10,(x4_1 : Int).toNat * 3 + 2,none⟩ = false := hfr10 2;(try clear hcl10);(try clear hcc10);(try clear hfr10);(try clear hM10);replace p10 := eq_true p10;replace q10 := eq_true q10;have n_ := aM_ (Kd.S_mono (ok' := (fun k_ => some k_ ≠ (v234 : Value).ownBlock)) HO_3.out (fun k_ hk => hk.2));clear HO_3;have HO_3 := n_;clear n_;have HX12 := aM_ (show Kd.S k107 107 w11 w.heap.size (fun k_ => ((fun _ => True)) k_ ∧ ¬ ((fun k_ => some k_ = (v234 : Value).ownBlock)) k_) (.slice (some ⟨go10,0,none⟩) x3_1.length co10) x3_1 from (by (with_reducible repeat (first | apply Kd.S_alloc | apply Kd.S_drewN | apply Kd.S_drew));exact Kd.S_mono HO_3.out (fun k_ hk => ⟨trivial,fun e_ => hk e_⟩)));obtain ⟨oki12,ce12,hcl12,hM12,hcc12,hfr12,hoki12,hH12⟩ := Kd.S_elem HX12.out z107 (x4_1 : Int) (of_decide_eq_true (by first | (with_reducible assumption) | assumption)) (by have h_ : (x4_1 : Int) < ((x3_1.length : Int) : Int) := of_decide_eq_true (by first | (with_reducible assumption) | assumption);first | exact h_ | (have e_ := (Kd.S_reads' HO_3.out).1;omega) | simpa using h_);obtain ⟨ve12_1,rfl,ge12_1⟩ := k107_openM hM12;have HP12 := Kd.S_seg hH12 (of_decide_eq_true (by first | (with_reducible assumption) | assumption)) (by have h_ : (x4_1 : Int) < ((x3_1.length : Int) : Int) := of_decide_eq_true (by first | (with_reducible assumption) | assumption);first | exact h_ | (have e_ := (Kd.S_reads' HO_3.out).1;omega) | simpa using h_) (seg := [.int .i64 t232,v234,.int .i64 t236]) (j := 0) (show 3 ≤ 3 from by decide) (x' := (⟨t232,t233,t236⟩ : S107)) (k107_mkM _ _ _ (⟨t232,t233,t236⟩ : S107) (Kd.R_mono (Kd.R_tight rfl (Kd.R_mono (ok' := fun k_ => ((fun _ => True)) k_ ∧ k_ ≠ go10) (Kd.R_apart' (HO235.out) (Kd.S_typed HO_3.out) (by decide)) (fun k_ hk => ⟨trivial,fun e_ => (hk.2) (by rw [e_];rfl)⟩))) (fun _ h_ => Or.inr (h_)))) (fun _ hk => hk) (fun k_ hk_ => ((Kd.R_mono (ok' := fun k_ => ((fun _ => True)) k_ ∧ k_ ≠ go10) (Kd.R_apart' (HO235.out) (Kd.S_typed HO_3.out) (by decide)) (fun k_ hk => ⟨trivial,fun e_ => (hk.2) (by rw [e_];rfl)⟩))).1 k_ hk_.symm);have hx12_0 := hcc12 0 _ rfl;(try simp only [show (k107).sz = 3 from rfl,Nat.mul_one,Nat.add_zero] at hx12_0);have hf12_0 := hfr12 0;(try simp only [show (k107).sz = 3 from rfl,Nat.mul_one,Nat.add_zero] at hf12_0);have hx12_1 := hcc12 1 _ rfl;(try simp only [show (k107).sz = 3 from rfl,Nat.mul_one,Nat.add_zero] at hx12_1);have hf12_1 := hfr12 1;(try simp only [show (k107).sz = 3 from rfl,Nat.mul_one,Nat.add_zero] at hf12_1);have hx12_2 := hcc12 2 _ rfl;(try simp only [show (k107).sz = 3 from rfl,Nat.mul_one,Nat.add_zero] at hx12_2);have hf12_2 := hfr12 2;(try simp only [show (k107).sz = 3 from rfl,Nat.mul_one,Nat.add_zero] at hf12_2);(try clear hcl12);(try clear hcc12);(try clear hfr12);(try clear hM12);(try clear hoki12);(try clear hH12)) | ((with_reducible refine gate_store (t := 107) (p := 21) rfl ?_);refine store_event (t := 107) (p := 21) (v := ?vo_w13) (w1 := (((w11.setCell ⟨go10,(x4_1 : Int).toNat * 3,none⟩ (.int .i64 t232)).setCell ⟨go10,(x4_1 : Int).toNat * 3 + 1,none⟩ (v234)).setCell ⟨go10,(x4_1 : Int).toNat * 3 + 2,none⟩ (.int .i64 t236))) ?hg ?ho ?hn ?hr ?_;(case ho => rfl);(case hg => rfl);(case hn => rfl);(case hr => first | (go_simp;done) | (go_simp;rfl) | (obtain ⟨_,_,e_⟩ := Kd.R_slice HO235.out;rw [e_];first | (go_simp;done) | (go_simp;rfl)) | (obtain ⟨_,_,e_⟩ := Kd.S_slice HO235.out;rw [e_];first | (go_simp;done) | (go_simp;rfl)) | (obtain ⟨_,_,e_⟩ := Kd.Q_slice HO235.out;rw [e_];first | (go_simp;done) | (go_simp;rfl)) | (obtain ⟨_,_,e_⟩ := Kd.N_slice HO235.out;rw [e_];first | (go_simp;done) | (go_simp;rfl)));intro w13 hw;have hg : w11.grownBy w13 (some go10) := (by rw [hw];exact HP12.2);have hp_ : Kd.S k107 107 w13 w.heap.size (fun _ => True) (.slice (some ⟨go10,0,none⟩) x3_1.length co10) y237 := (by rw [hw,Ny237.out];exact HP12.1);clear HP12;have n0 := aM_ (hp_);have n1 := aM_ ((by rw [hw];exact below_set (below_set (below_set (HB.out) GB10.out) GB10.out) GB10.out : Below w.heap.size w w13));clear HO_3;clear HB;clear HO235;have HO_3 := n0;have HB := n1;clear n0 n1;clear hg hw hp_))
        go_roundg k1
        case measure => have := HK1.out;omega
        case rel => exact ⟨(y237),(wrap64 (x4_1 + 1)),(by first | rfl | (simp;done) | (simp [*];done)),H',⟨by have := HK1.out;omega⟩,⟨by (with_reducible repeat (first | apply Kd.S_alloc | apply Kd.S_drewN | apply Kd.S_drew));exact HO_3.out⟩,⟨gW_ HB.out⟩⟩
       ·rw [if_neg c9] at H
        exact absurd H (by simp)
      ·rw [if_neg c7] at H
       exact absurd H (by simp)
     ·rw [if_neg c6] at H
      have c6b0 : decide (x4_1 < (l0.length : Int)) = false := decide_eq_false c6
      clear c6
      obtain rfl := Option.some.inj H
      go_wp2
      go_ret
      exact ⟨_,fR_,by (with_reducible repeat (first | apply Kd.S_alloc | apply Kd.S_drewN | apply Kd.S_drew));exact HO_3.out,gB_ HB.out⟩
  ·rw [if_neg c3] at H
   exact absurd H (by simp)
 ·rw [if_neg c2] at H
  exact absurd H (by simp)
def laws_toChan.f (k : Nat) (a0_0 : Int) (l0_1 : List Int) (a0_2 : Bool) : Option (Int × List Int × Bool) := (laws_toIntS.f k l0_1).bind fun t241 => (some (a0_0,t241,a0_2))
set_option maxHeartbeats 8000000 in
set_option maxRecDepth 100000 in
theorem laws_toChan.calls (k : Nat) (a0_0 : Int) (A0_1 : Option Addr) (c0_1 : Nat) (l0_1 : List Int) (a0_2 : Bool) (r1 : Int) (r2 : List Int) (r3 : Bool) (w : World) (hr0_1 : Kd.C (Kd.int .i64) w A0_1 l0_1.length l0_1) (hc0_1 : l0_1.length ≤ c0_1) (h : laws_toChan.f k a0_0 l0_1 a0_2 = some (r1,r2,r3)) :
  Calls Try.prog 148 #[.agg #[.int .i64 a0_0,.slice A0_1 l0_1.length c0_1,.bool a0_2]] w fun e w' => ∃ v1_ : Value,e = .returned (.agg #[.int .i64 r1,v1_,.bool r3]) ∧ Kd.R (Kd.int .i64) 3 w' w.heap.size (fun _ => True) v1_ r2 ∧ Below w.heap.size w w' := by
 have hu186 := Try.underlying186
 have hu94 := Try.underlying94
 have HR0_1 := aM_ hr0_1
 have HC0_1 := aM_ hc0_1
 clear hr0_1 hc0_1
 have HB := aM_ (Below.refl w.heap.size w)
 have H : ((laws_toIntS.f k l0_1).bind fun t241 => (some (a0_0,t241,a0_2))) = some (r1,r2,r3) := h
 clear h
 replace H := Option.bind_eq_some_iff.mp H
 obtain ⟨t241,A20,H⟩ := H
 replace H : (some (a0_0,t241,a0_2)) = some (r1,r2,r3) := H
 have A2 := aM_ A20
 clear A20
 simp only [Option.some.injEq,Prod.mk.injEq] at H
 obtain ⟨rfl,rfl,rfl⟩ := H
 go_enter Try.func148,Try.ntmps148
 go_wp2_with (first | ((with_reducible refine gate_dst (N := 1) rfl ?_);refine bX_ 1 (cs := #[.int .i64 a0_0,.slice A0_1 l0_1.length c0_1,.bool a0_2]) (t := 186) ?_;intro gb238 hg w3 hbox hb;have n0 := aM_ (sT_ HB.out hb);have n1 := aM_ (hbox);have n2 := aM_ (sZ_ hg HB.out);have n3 := aM_ (sZ_ hg HB.out);clear HB;have HB := n0;have BK238 := n1;have GW238 := n2;have GE238 := n3;clear n0 n1 n2 n3;clear hb hbox hg) | ((with_reducible refine gate_dst (N := 2) rfl ?_);refine bX_ 2 (cs := #[.int .i64 0,.slice none 0 0,.bool false]) (t := 94) ?_;intro gb239 hg w4 hbox hb;have n0 := aM_ (nB_ BK238.out hb);have n1 := aM_ (sT_ HB.out hb);have n2 := aM_ (hbox);have n3 := aM_ (sZ_ hg HB.out);have n4 := aM_ (sZ_ hg HB.out);have n5 := aM_ (nL_ hg BK238.out);have n6 := aM_ (nG_ hg BK238.out);clear BK238;clear HB;have BK238 := n0;have HB := n1;have BK239 := n2;have GW239 := n3;have GE239 := n4;have NB238_239 := n5;have NB239_238 := n6;clear n0 n1 n2 n3 n4 n5 n6;clear hb hbox hg) | ((with_reducible refine gate_dst (N := 3) rfl ?_);refine bX_ 3 (cs := #[.int .i64 0,.slice none 0 0,.bool false]) (t := 94) ?_;intro gb240 hg w5 hbox hb;have n0 := aM_ (nB_ BK238.out hb);have n1 := aM_ (nB_ BK239.out hb);have n2 := aM_ (sT_ HB.out hb);have n3 := aM_ (hbox);have n4 := aM_ (sZ_ hg HB.out);have n5 := aM_ (sZ_ hg HB.out);have n6 := aM_ (nL_ hg BK238.out);have n7 := aM_ (nG_ hg BK238.out);have n8 := aM_ (nL_ hg BK239.out);have n9 := aM_ (nG_ hg BK239.out);clear BK238;clear BK239;clear HB;have BK238 := n0;have BK239 := n1;have HB := n2;have BK240 := n3;have GW240 := n4;have GE240 := n5;have NB238_240 := n6;have NB240_238 := n7;have NB239_240 := n8;have NB240_239 := n9;clear n0 n1 n2 n3 n4 n5 n6 n7 n8 n9;clear hb hbox hg;have hnb6 := NB238_239.out;have hnc6 := NB239_238.out;have hnb7 := NB238_240.out;have hnc7 := NB240_238.out;obtain ⟨hcz8_0,hcz8_1,hcz8_2,hfz8_0,hfz8_1,hfz8_2⟩ := bR3_ BK238.out;have hnb9 := NB240_239.out;have hnc9 := NB239_240.out;obtain ⟨hcz10_0,hcz10_1,hcz10_2,hfz10_0,hfz10_1,hfz10_2⟩ := bR3_ BK240.out) | ((with_reducible refine gate_callee (f := 61) rfl ?_);refine gL_ (some 9) Try.func61 #[.slice A0_1 l0_1.length c0_1] ?_;(with_reducible refine (laws_toIntS.calls k _ _ l0_1 t241 _ ?side1 ?side2 A2.out).mono ?_);(case side1 => exact Kd.C_below HR0_1.out (gB_ HB.out));(case side2 => exact HC0_1.out);rintro e w11 ⟨v242,rfl,ho0,hb⟩;refine ⟨_,rfl,?_⟩;have n0 := aM_ (Kd.R_lower ho0 (below_size (gB_ HB.out)));have n1 := aM_ (nBf_ BK238.out hb);have n2 := aM_ (nBf_ BK239.out hb);have n3 := aM_ (blk_below (g := gb240) (o := .cells #[.int .i64 a0_0,.slice none 0 0,.bool false] 94 (0,0)) (by (with_reducible repeat (first | refine bN_ ?_ _ | refine bD_ ?_ | refine bA_ ?_ _));refine blk_put (cs := #[.int .i64 0,.slice none 0 0,.bool false]) ?_ 0 _ rfl;exact rW_ BK240.out) hb);have n4 := aM_ (sT_ HB.out hb);clear BK238;clear BK239;clear BK240;clear HB;have HO243 := n0;have BK238 := n1;have BK239 := n2;have BK240 := n3;have HB := n4;clear n0 n1 n2 n3 n4;(try clear ho0);obtain ⟨Ao12,co12,eo12⟩ := Kd.R_slice HO243.out;subst eo12;obtain ⟨hcz13_0,hcz13_1,hcz13_2,hfz13_0,hfz13_1,hfz13_2⟩ := bR3_ BK240.out;obtain ⟨hcz14_0,hcz14_1,hcz14_2,hfz14_0,hfz14_1,hfz14_2⟩ := bR3_ BK238.out;obtain ⟨hcz15_0,hcz15_1,hcz15_2,hfz15_0,hfz15_1,hfz15_2⟩ := bR3_ BK239.out))
 refine bodyPost_ret (results_cell_row rfl _ _ gb239 94 #[.int .i64 a0_0,.slice Ao12 t241.length co12,.bool a0_2] (0,0) _ rfl (by (with_reducible repeat (first | refine bN_ ?_ _ | refine bD_ ?_ | refine bA_ ?_ _));refine blk_put (cs := #[.int .i64 a0_0,.slice Ao12 t241.length co12,.bool false]) ?_ 2 _ rfl;refine blk_put (cs := #[.int .i64 a0_0,.slice none 0 0,.bool false]) ?_ 1 _ rfl;refine blk_put (cs := #[.int .i64 0,.slice none 0 0,.bool false]) ?_ 0 _ rfl;exact rWf_ BK239.out) Try.underlying94 rfl (by kernel_rfl)) rfl ?_
 exact ⟨_,fR_,by (with_reducible repeat (first | apply rA_ | apply rN_ | apply rD_));exact Kd.R_mono (Kd.R_far (p := ⟨gb239,2,none⟩) (Kd.R_far (p := ⟨gb239,1,none⟩) (Kd.R_far (p := ⟨gb239,0,none⟩) (Kd.R_far (p := ⟨gb240,2,none⟩) (Kd.R_far (p := ⟨gb240,1,none⟩) (Kd.R_types (Kd.R_types HO243.out BK240.out (by decide)) BK239.out (by decide)) (fun _ hk => hk.1.2) (.slice Ao12 t241.length co12)) (fun _ hk => hk.1.2) (.bool a0_2)) (fun _ hk => hk.2) (.int .i64 a0_0)) (fun _ hk => hk.2) (.slice Ao12 t241.length co12)) (fun _ hk => hk.2) (.bool a0_2)) (fun _ hk => trivial),gB_ HB.out⟩
end Go.Proofs.Ytobachfngmpeiaa.PFnExactChanSame
